import PyProof.Rows.All
import Wide.All
import OpenK.AllK
import Wide.FinOn
import HandS.ForMost
import HandS.ForExc
import HandS.IsInst
import HandS.TryMany
import HandS.Walk
import HandS.Style
import HandS.ExcInit
import HandS.ExcField
import HandS.TupAny
import HandS.TupMul
import HandS.Deep
import HandS.RaiseMore
import HandS.Ends
import HandS.Conv
import HandS.SortInts
import PySem.Challenge.RW_pairsinthrees_k25_whole_small_numbers_se
set_option Elab.async false
set_option linter.all false
set_option maxRecDepth 100000
set_option maxHeartbeats 4000000
/-! A value layer over HandS: what the defs compute, told by deep data (PyData) in the place of addresses. -/
namespace VL
open PySem PySem.Spec PyProof.Rows L2

abbrev D := PySem.PyData
abbrev Fg := PySem.W.Frag
def keyD : Key → D
  | .inl i => .int i
  | .inr x => .str x
def tupD (ks : List Key) : D := .tuple (ks.map keyD)

mutual
/-- the value v reads as the datum d, over the part Z of the heap -/
inductive DR (K : Fg) (Z : Hp) : V → D → Prop where
  | non : DR K Z .non .none
  | bl (b : Bool) : DR K Z (.bl b) (.bool b)
  | int (i : Int) : DR K Z (.int i) (.int i)
  | str (x : Str) : DR K Z (.str x) (.str x)
  | lst {a : Addr} {xs : List V} {ds : List D} : Z a = some (.lst xs) → DRs K Z xs ds → DR K Z (.ref a) (.list ds)
  | tup {a : Addr} {xs : List V} {ds : List D} : SqT K Z a xs → DRs K Z xs ds → DR K Z (.ref a) (.tuple ds)
  | dk {a : Addr} {kvs : List (Key × V)} {ds : List (D × D)} : Rd Z a (.dK kvs) → DRk K Z kvs ds → DR K Z (.ref a) (.dict ds)
  | dt {a : Addr} {kvs : List (List Key × V)} {ds : List (D × D)} : Rd Z a (.dT kvs) → DRt K Z kvs ds → DR K Z (.ref a) (.dict ds)
inductive DRs (K : Fg) (Z : Hp) : List V → List D → Prop where
  | nil : DRs K Z [] []
  | cons {v : V} {vs : List V} {d : D} {ds : List D} : DR K Z v d → DRs K Z vs ds → DRs K Z (v :: vs) (d :: ds)
inductive DRk (K : Fg) (Z : Hp) : List (Key × V) → List (D × D) → Prop where
  | nil : DRk K Z [] []
  | cons {k : Key} {v : V} {vs : List (Key × V)} {d : D} {ds : List (D × D)} : DR K Z v d → DRk K Z vs ds → DRk K Z ((k, v) :: vs) ((keyD k, d) :: ds)
inductive DRt (K : Fg) (Z : Hp) : List (List Key × V) → List (D × D) → Prop where
  | nil : DRt K Z [] []
  | cons {k : List Key} {v : V} {vs : List (List Key × V)} {d : D} {ds : List (D × D)} : DR K Z v d → DRt K Z vs ds → DRt K Z ((k, v) :: vs) ((tupD k, d) :: ds)
end

def Sub (Z Z' : Hp) : Prop := ∀ a o, Z a = some o → Z' a = some o
theorem Sub.refl {Z : Hp} : Sub Z Z := fun _ _ h => h
theorem Sub.trans {Z Z' Z'' : Hp} (a : Sub Z Z') (b : Sub Z' Z'') : Sub Z Z'' := fun c o h => b c o (a c o h)
theorem Sub.rd {Z Z' : Hp} (s : Sub Z Z') {a : Addr} {u : HO} (h : Rd Z a u) : Rd Z' a u := h.elim (fun h => .inl (s _ _ h)) fun ⟨o, h⟩ => .inr ⟨o, s _ _ h⟩
theorem Sub.sqL {K : Fg} {Z Z' : Hp} (s : Sub Z Z') {a : Addr} {u : List V} (h : SqL K Z a u) : SqL K Z' a u := h.elim (fun h => .inl (s.rd h)) .inr
theorem Sub.sqT {K : Fg} {Z Z' : Hp} (s : Sub Z Z') {a : Addr} {u : List V} (h : SqT K Z a u) : SqT K Z' a u := h.elim (fun h => .inl (s.rd h)) .inr
theorem Sub.upd {Z : Hp} {a : Addr} {o : HO} (h : Z a = none) : Sub Z (upd Z a o) := fun b u e => by
  rw [upd_ne (ne_of_none e h)]; exact e

section
variable {K : Fg} {Z Z' : Hp}
mutual
theorem DR.mono (s : Sub Z Z') : ∀ {v : V} {d : D}, DR K Z v d → DR K Z' v d
  | _, _, .non => .non
  | _, _, .bl b => .bl b
  | _, _, .int b => .int b
  | _, _, .str b => .str b
  | _, _, .lst h t => .lst (s _ _ h) (DRs.mono s t)
  | _, _, .tup h t => .tup (s.sqT h) (DRs.mono s t)
  | _, _, .dk h t => .dk (s.rd h) (DRk.mono s t)
  | _, _, .dt h t => .dt (s.rd h) (DRt.mono s t)
theorem DRs.mono (s : Sub Z Z') : ∀ {v : List V} {d : List D}, DRs K Z v d → DRs K Z' v d
  | _, _, .nil => .nil
  | _, _, .cons h t => .cons (DR.mono s h) (DRs.mono s t)
theorem DRk.mono (s : Sub Z Z') : ∀ {v : List (Key × V)} {d : List (D × D)}, DRk K Z v d → DRk K Z' v d
  | _, _, .nil => .nil
  | _, _, .cons h t => .cons (DR.mono s h) (DRk.mono s t)
theorem DRt.mono (s : Sub Z Z') : ∀ {v : List (List Key × V)} {d : List (D × D)}, DRt K Z v d → DRt K Z' v d
  | _, _, .nil => .nil
  | _, _, .cons h t => .cons (DR.mono s h) (DRt.mono s t)
end
theorem DRs.length : ∀ {v : List V} {d : List D}, DRs K Z v d → v.length = d.length
  | _, _, .nil => rfl
  | _, _, .cons _ t => by rw [List.length_cons, List.length_cons, t.length]
theorem DRs.get : ∀ {v : List V} {d : List D} {i : Nat} {e : D}, DRs K Z v d → d[i]? = some e → ∃ u, v[i]? = some u ∧ DR K Z u e
  | _, _, _, _, .nil, h => by simp at h
  | _, _, 0, _, .cons h t, q => by simp at q; subst q; exact ⟨_, rfl, h⟩
  | _, _, i + 1, _, .cons h t, q => by
    obtain ⟨u, a, b⟩ := DRs.get (i := i) t (by simpa using q)
    exact ⟨u, by simpa using a, b⟩
theorem DRs.getV : ∀ {v : List V} {d : List D} {i : Nat} {u : V}, DRs K Z v d → v[i]? = some u → ∃ e, d[i]? = some e ∧ DR K Z u e
  | _, _, _, _, .nil, h => by simp at h
  | _, _, 0, _, .cons h t, q => by simp at q; subst q; exact ⟨_, rfl, h⟩
  | _, _, i + 1, _, .cons h t, q => by
    obtain ⟨u, a, b⟩ := DRs.getV (i := i) t (by simpa using q)
    exact ⟨u, by simpa using a, b⟩
theorem DRs.append : ∀ {v w : List V} {d e : List D}, DRs K Z v d → DRs K Z w e → DRs K Z (v ++ w) (d ++ e)
  | _, _, _, _, .nil, s => s
  | _, _, _, _, .cons h t, s => .cons h (t.append s)
theorem DRs.take : ∀ {v : List V} {d : List D} (n : Nat), DRs K Z v d → DRs K Z (v.take n) (d.take n)
  | _, _, 0, _ => .nil
  | _, _, _ + 1, .nil => .nil
  | _, _, n + 1, .cons h t => .cons h (t.take n)
theorem DRs.drop : ∀ {v : List V} {d : List D} (n : Nat), DRs K Z v d → DRs K Z (v.drop n) (d.drop n)
  | _, _, 0, s => s
  | _, _, _ + 1, .nil => .nil
  | _, _, n + 1, .cons h t => t.drop n
theorem DRs.set : ∀ {v : List V} {d : List D} {u : V} {e : D} (n : Nat), DRs K Z v d → DR K Z u e → DRs K Z (v.set n u) (d.set n e)
  | _, _, _, _, _, .nil, _ => .nil
  | _, _, _, _, 0, .cons h t, s => .cons s t
  | _, _, _, _, n + 1, .cons h t, s => .cons h (t.set n s)
theorem DRs.eraseIdx : ∀ {v : List V} {d : List D} (n : Nat), DRs K Z v d → DRs K Z (v.eraseIdx n) (d.eraseIdx n)
  | _, _, _, .nil => .nil
  | _, _, 0, .cons h t => t
  | _, _, n + 1, .cons h t => .cons h (t.eraseIdx n)
theorem DRs.dropLast {v : List V} {d : List D} (h : DRs K Z v d) : DRs K Z v.dropLast d.dropLast := by
  rw [List.dropLast_eq_take, List.dropLast_eq_take, h.length]; exact h.take _
theorem DRs.rep {v : List V} {d : List D} (h : DRs K Z v d) : ∀ k : Nat, DRs K Z (List.replicate k v).flatten (List.replicate k d).flatten
  | 0 => .nil
  | k + 1 => by rw [List.replicate_succ, List.flatten_cons, List.replicate_succ, List.flatten_cons]; exact h.append (h.rep k)
theorem DRs.snoc {v : List V} {d : List D} {u : V} {e : D} (h : DRs K Z v d) (q : DR K Z u e) : DRs K Z (v ++ [u]) (d ++ [e]) := h.append (.cons q .nil)
theorem DRs.ints : ∀ (ns : List Int), DRs K Z (ns.map V.int) (ns.map PyData.int)
  | [] => .nil
  | n :: r => .cons (.int n) (DRs.ints r)
theorem DRs.intsI : ∀ {v : List V} {ns : List Int}, DRs K Z v (ns.map PyData.int) → v = ns.map V.int
  | _, [], h => by cases h; rfl
  | _, n :: r, h => by
    cases h with
    | cons a b => cases a; rw [b.intsI]; rfl
theorem DRs.blsI : ∀ {v : List V} {ns : List Bool}, DRs K Z v (ns.map PyData.bool) → v = ns.map V.bl
  | _, [], h => by cases h; rfl
  | _, n :: r, h => by
    cases h with
    | cons a b => cases a; rw [b.blsI]; rfl
theorem DRs.strsI : ∀ {v : List V} {ns : List Str}, DRs K Z v (ns.map PyData.str) → v = ns.map V.str
  | _, [], h => by cases h; rfl
  | _, n :: r, h => by
    cases h with
    | cons a b => cases a; rw [b.strsI]; rfl
end

/-! ### the parts of a state -/
/-- what an expression gives: a datum, or the pen -/
inductive Rv where
  | dat (d : D) | pen
/-- what a slot holds: nothing known; a datum that stays; a list, a list of lists, a dict of the body's own, which nothing else holds; a caught error -/
inductive Sl where
  | no
  | rv (r : Rv)
  | lst (ds : List D)
  | lst2 (dss : List (List D))
  | dk (kvs : List (Key × D))
  | dt (kvs : List (List Key × D))
  | exc (a dd : Addr) (fs : List (Str × D))
/-- the slots; how many draws at most were made -/
structure Ga where
  s : List Sl
  c : Nat
abbrev Ga.set (Γ : Ga) (i : Nat) (x : Sl) : Ga := ⟨Γ.s.set i x, Γ.c⟩
abbrev Ga.at (Γ : Ga) (i : Nat) : Sl := Γ.s.getD i .no
/-- the pen's dict: what its entries are, behind c draws at most -/
def PenI (Z : Hp) (kvs : List (Key × V)) (c : Nat) : Prop := ∃ (a : Addr) (ns : List Int) (i d k f : Int),
  kvs = [(.inr "cells", .ref a), (.inr "at", .int i), (.inr "digits", .int d), (.inr "count", .int k), (.inr "fold", .int f)] ∧ Z a = some (.lst (ns.map V.int)) ∧ 0 ≤ i ∧ 0 ≤ d ∧ 0 ≤ k ∧ k ≤ c ∧ 0 ≤ f ∧ f < 2 ^ 32
theorem PenI.mono {Z Z' : Hp} (s : Sub Z Z') {kvs : List (Key × V)} {c c' : Nat} (hc : c ≤ c') (h : PenI Z kvs c) : PenI Z' kvs c' := by
  obtain ⟨a, ns, i, d, k, f, e, h1, h2, h3, h4, h5, h6⟩ := h
  exact ⟨a, ns, i, d, k, f, e, s _ _ h1, h2, h3, h4, by omega, h6⟩
def PenOk (Z H : Hp) (p : Addr) (c : Nat) : Prop := ∃ kvs, H p = some (.dK kvs) ∧ PenI Z kvs c
theorem PenOk.there {Z H : Hp} {p : Addr} {c : Nat} (h : PenOk Z H p c) : H p ≠ none := by
  obtain ⟨kvs, e, _⟩ := h
  rw [e]; simp
theorem PenOk.mono {Z H Z' H' : Hp} {p : Addr} {c c' : Nat} (h : PenOk Z H p c) (s : Sub Z Z') (hh : ∀ o, H p = some o → H' p = some o) (hc : c ≤ c') : PenOk Z' H' p c' := by
  obtain ⟨kvs, e, q⟩ := h
  exact ⟨kvs, hh _ e, q.mono s hc⟩
/-- what was there when the body began -/
structure Gh where
  PN : Addr → Prop
  Z0 : Hp
  H0 : Hp
  Zb : Hp
abbrev Ow := Addr → Option Nat
def RvR (K : Fg) (PN : Addr → Prop) (Z : Hp) : Rv → V → Prop
  | .dat d, v => DR K Z v d
  | .pen, v => ∃ p, v = .ref p ∧ PN p
inductive RvRs (K : Fg) (PN : Addr → Prop) (Z : Hp) : List Rv → List V → Prop where
  | nil : RvRs K PN Z [] []
  | cons {r : Rv} {rs : List Rv} {v : V} {vs : List V} : RvR K PN Z r v → RvRs K PN Z rs vs → RvRs K PN Z (r :: rs) (v :: vs)
theorem RvR.mono {K : Fg} {PN : Addr → Prop} {Z Z' : Hp} (s : Sub Z Z') {r : Rv} {v : V} (h : RvR K PN Z r v) : RvR K PN Z' r v := by
  cases r with
  | dat d => exact DR.mono s h
  | pen => exact h
theorem RvRs.mono {K : Fg} {PN : Addr → Prop} {Z Z' : Hp} (s : Sub Z Z') : ∀ {r : List Rv} {v : List V}, RvRs K PN Z r v → RvRs K PN Z' r v
  | _, _, .nil => .nil
  | _, _, .cons h t => .cons (h.mono s) (t.mono s)
theorem RvRs.length {K : Fg} {PN : Addr → Prop} {Z : Hp} : ∀ {r : List Rv} {v : List V}, RvRs K PN Z r v → r.length = v.length
  | _, _, .nil => rfl
  | _, _, .cons _ t => by rw [List.length_cons, List.length_cons, t.length]

/-- an owned list of owned lists -/
inductive L2R (K : Fg) (Z : Hp) (O : Ow) (H : Hp) (i : Nat) : List V → List (List D) → Prop where
  | nil : L2R K Z O H i [] []
  | cons {a : Addr} {vs rest : List V} {ds : List D} {dss : List (List D)} : O a = some i → H a = some (.lst vs) → DRs K Z vs ds → V.ref a ∉ rest → L2R K Z O H i rest dss → L2R K Z O H i (V.ref a :: rest) (ds :: dss)
/-- the fields of an error -/
inductive FsR (K : Fg) (Z : Hp) : List (Str × V) → List (Str × D) → Prop where
  | nil : FsR K Z [] []
  | cons {n : Str} {v : V} {vs : List (Str × V)} {d : D} {ds : List (Str × D)} : DR K Z v d → FsR K Z vs ds → FsR K Z ((n, v) :: vs) ((n, d) :: ds)
theorem FsR.mono {K : Fg} {Z Z' : Hp} (s : Sub Z Z') : ∀ {v : List (Str × V)} {d : List (Str × D)}, FsR K Z v d → FsR K Z' v d
  | _, _, .nil => .nil
  | _, _, .cons h t => .cons (h.mono s) (t.mono s)

def dkR (K : Fg) (Z : Hp) (kvs : List (Key × V)) (ds : List (Key × D)) : Prop := Paired (fun (p : Key × V) (q : Key × D) => p.1 = q.1 ∧ DR K Z p.2 q.2) kvs ds
def dtR (K : Fg) (Z : Hp) (kvs : List (List Key × V)) (ds : List (List Key × D)) : Prop := Paired (fun (p : List Key × V) (q : List Key × D) => p.1 = q.1 ∧ DR K Z p.2 q.2) kvs ds
theorem dkR.mono {K : Fg} {Z Z' : Hp} (s : Sub Z Z') {a : List (Key × V)} {b : List (Key × D)} (h : dkR K Z a b) : dkR K Z' a b := Paired.mapP h fun _ _ q => ⟨q.1, q.2.mono s⟩
theorem dtR.mono {K : Fg} {Z Z' : Hp} (s : Sub Z Z') {a : List (List Key × V)} {b : List (List Key × D)} (h : dtR K Z a b) : dtR K Z' a b := Paired.mapP h fun _ _ q => ⟨q.1, q.2.mono s⟩
theorem dkR.drk {K : Fg} {Z : Hp} : ∀ {a : List (Key × V)} {b : List (Key × D)}, dkR K Z a b → DRk K Z a (b.map fun p => (keyD p.1, p.2))
  | _, _, .nil => .nil
  | (_, _) :: _, (_, _) :: _, .cons ⟨h1, h2⟩ t => by cases h1; exact .cons h2 (dkR.drk t)
theorem dtR.drt {K : Fg} {Z : Hp} : ∀ {a : List (List Key × V)} {b : List (List Key × D)}, dtR K Z a b → DRt K Z a (b.map fun p => (tupD p.1, p.2))
  | _, _, .nil => .nil
  | (_, _) :: _, (_, _) :: _, .cons ⟨h1, h2⟩ t => by cases h1; exact .cons h2 (dtR.drt t)

def SlR (K : Fg) (G : Gh) (Z : Hp) (O : Ow) (H : Hp) (i : Nat) : Sl → Option V → Prop
  | .no, _ => True
  | .rv r, v => ∃ u, v = some u ∧ RvR K G.PN Z r u
  | .lst ds, v => ∃ a vs, v = some (.ref a) ∧ O a = some i ∧ H a = some (.lst vs) ∧ DRs K Z vs ds
  | .lst2 dss, v => ∃ a vs, v = some (.ref a) ∧ O a = some i ∧ H a = some (.lst vs) ∧ V.ref a ∉ vs ∧ L2R K Z O H i vs dss
  | .dk kvs, v => ∃ a vs, v = some (.ref a) ∧ O a = some i ∧ H a = some (.dK vs) ∧ dkR K Z vs kvs
  | .dt kvs, v => ∃ a vs, v = some (.ref a) ∧ O a = some i ∧ H a = some (.dT vs) ∧ dtR K Z vs kvs
  | .exc a dd fs, v => ∃ fv, v = some (.ref a) ∧ Z dd = some (.xd fv) ∧ FsR K Z fv fs

structure Rel (K : Fg) (G : Gh) (Γ : Ga) (Z : Hp) (O : Ow) (σ : L2.St) (H : Hp) : Prop where
  len : Γ.s.length = σ.length
  sub : Sub Z H
  pen : ∀ p, G.PN p → PenOk Z H p Γ.c ∧ Z p = none ∧ O p = none ∧ G.H0 p ≠ none
  own : ∀ a i, O a = some i → Z a = none ∧ G.H0 a = none ∧ H a ≠ none
  sl : ∀ i, SlR K G Z O H i (Γ.at i) (σ.getD i none)
  fH : ∀ a o, G.H0 a = some o → ¬ G.PN a → H a = some o
  fZ : Sub G.Z0 Z
  fB : Sub G.Zb Z
  fN : ∀ a, Z a ≠ none → G.Z0 a ≠ none ∨ G.H0 a = none

/-- what an expression leaves as it was -/
structure Step (PN : Addr → Prop) (Z : Hp) (O : Ow) (H : Hp) (Z' : Hp) (O' : Ow) (H' : Hp) : Prop where
  hH : ∀ a o, H a = some o → ¬ PN a → H' a = some o
  hN : ∀ a, H' a = none → H a = none
  zZ : Sub Z Z'
  zN : ∀ a, Z' a ≠ none → Z a ≠ none ∨ H a = none ∨ O a ≠ none
  oO : ∀ a i, O' a = some i → O a = some i
theorem Step.refl {PN : Addr → Prop} {Z H : Hp} {O : Ow} : Step PN Z O H Z O H := ⟨fun _ _ h _ => h, fun _ h => h, Sub.refl, fun _ h => .inl h, fun _ _ h => h⟩
theorem Step.trans {PN : Addr → Prop} {Z H Z1 H1 Z2 H2 : Hp} {O O1 O2 : Ow} (a : Step PN Z O H Z1 O1 H1) (b : Step PN Z1 O1 H1 Z2 O2 H2) : Step PN Z O H Z2 O2 H2 :=
  ⟨fun c o h n => b.hH c o (a.hH c o h n) n, fun c h => a.hN c (b.hN c h), a.zZ.trans b.zZ, fun c h => by
    rcases b.zN c h with h | h | h
    · exact a.zN c h
    · exact .inr (.inl (a.hN c h))
    · cases e : O1 c with
      | none => exact absurd e h
      | some i => exact .inr (.inr (by rw [a.oO c i e]; simp)), fun c i h => a.oO c i (b.oO c i h)⟩

/-- what a built-in that changes nothing may do: new objects -/
structure Grow (Z H Z' H' : Hp) : Prop where
  hh : Sub H H'
  zz : Sub Z Z'
  zh : Sub Z' H'
  zn : ∀ a, Z' a ≠ none → Z a ≠ none ∨ H a = none
theorem Grow.refl {Z H : Hp} (s : Sub Z H) : Grow Z H Z H := ⟨Sub.refl, Sub.refl, s, fun _ h => .inl h⟩
/-- a new object, laid into Z too -/
theorem Grow.new {Z H : Hp} (s : Sub Z H) {p : Addr} {o : HO} (h : H p = none) : Grow Z H (upd Z p o) (upd H p o) := by
  have hz : Z p = none := by
    cases e : Z p with
    | none => rfl
    | some u => rw [s _ _ e] at h; cases h
  refine ⟨Sub.upd h, Sub.upd hz, fun a u e => ?_, fun a e => ?_⟩
  · by_cases q : a = p
    · subst q; rw [upd_same] at e ⊢; exact e
    · rw [upd_ne q] at e ⊢; exact s _ _ e
  · by_cases q : a = p
    · subst q; exact .inr h
    · rw [upd_ne q] at e; exact .inl e
/-- .. not laid into Z -/
theorem Grow.new' {Z H : Hp} (s : Sub Z H) {p : Addr} {o : HO} (h : H p = none) : Grow Z H Z (upd H p o) :=
  ⟨Sub.upd h, Sub.refl, s.trans (Sub.upd h), fun a e => .inl e⟩
theorem Sub.free {Z H : Hp} (s : Sub Z H) {p : Addr} (h : H p = none) : Z p = none := by
  cases e : Z p with
  | none => rfl
  | some u => rw [s _ _ e] at h; cases h
theorem Grow.trans {Z H Z1 H1 Z2 H2 : Hp} (a : Grow Z H Z1 H1) (b : Grow Z1 H1 Z2 H2) : Grow Z H Z2 H2 :=
  ⟨a.hh.trans b.hh, a.zz.trans b.zz, b.zh, fun c h => by
    rcases b.zn c h with h | h
    · exact a.zn c h
    · exact .inr (a.hh.free h)⟩
theorem Grow.step {PN : Addr → Prop} {Z H Z' H' : Hp} {O : Ow} (g : Grow Z H Z' H') : Step PN Z O H Z' O H' :=
  ⟨fun c o h _ => g.hh c o h, fun c h => g.hh.free h, g.zz, fun c h => (g.zn c h).elim .inl fun h => .inr (.inl h), fun _ _ h => h⟩

section
variable {K : Fg} {G : Gh} {Γ Γ' : Ga} {Z Z' H H' : Hp} {O O' : Ow} {σ : L2.St}
theorem L2R.mono {i : Nat} (s : Sub Z Z') (hh : ∀ a o, O a = some i → H a = some o → H' a = some o) : ∀ {vs : List V} {dss : List (List D)}, L2R K Z O H i vs dss → L2R K Z' O H' i vs dss
  | _, _, .nil => .nil
  | _, _, .cons h1 h2 h3 h4 h5 => .cons h1 (hh _ _ h1 h2) (h3.mono s) h4 (h5.mono s hh)
theorem SlR.mono {i : Nat} (s : Sub Z Z') (hh : ∀ a o, O a = some i → H a = some o → H' a = some o) {x : Sl} {v : Option V} (h : SlR K G Z O H i x v) : SlR K G Z' O H' i x v := by
  cases x with
  | no => trivial
  | rv r => obtain ⟨u, e, q⟩ := h; exact ⟨u, e, q.mono s⟩
  | lst ds => obtain ⟨a, vs, e, o, q, r⟩ := h; exact ⟨a, vs, e, o, hh _ _ o q, r.mono s⟩
  | lst2 dss => obtain ⟨a, vs, e, o, q, n, r⟩ := h; exact ⟨a, vs, e, o, hh _ _ o q, n, r.mono s hh⟩
  | dk kvs => obtain ⟨a, vs, e, o, q, r⟩ := h; exact ⟨a, vs, e, o, hh _ _ o q, r.mono s⟩
  | dt kvs => obtain ⟨a, vs, e, o, q, r⟩ := h; exact ⟨a, vs, e, o, hh _ _ o q, r.mono s⟩
  | exc a dd fs => obtain ⟨fv, e, q, r⟩ := h; exact ⟨fv, e, s _ _ q, r.mono s⟩
theorem Rel.H0free (R : Rel K G Γ Z O σ H) {a : Addr} (h : H a = none) : G.H0 a = none := by
  cases e : G.H0 a with
  | none => rfl
  | some o =>
    by_cases p : G.PN a
    · exact absurd h (R.pen a p).1.there
    · rw [R.fH a o e p] at h; cases h
theorem Rel.ofree (R : Rel K G Γ Z O σ H) {a : Addr} (h : H a = none) : O a = none := by
  cases e : O a with
  | none => rfl
  | some i => exact absurd h (R.own a i e).2.2
theorem Rel.pfree (R : Rel K G Γ Z O σ H) {a : Addr} (h : H a = none) : ¬ G.PN a := fun p => by
  exact (R.pen a p).1.there h
theorem Rel.grow (R : Rel K G Γ Z O σ H) (g : Grow Z H Z' H') : Rel K G Γ Z' O σ H' where
  len := R.len
  sub := g.zh
  pen := fun p hp => by
    obtain ⟨h1, h4, h5, h6⟩ := R.pen p hp
    refine ⟨h1.mono g.zz (fun o e => g.hh _ _ e) (Nat.le_refl _), ?_, h5, h6⟩
    cases e : Z' p with
    | none => rfl
    | some o =>
      rcases g.zn p (by rw [e]; simp) with q | q
      · exact absurd h4 q
      · exact absurd q h1.there
  own := fun a i h => by
    obtain ⟨h1, h2, h3⟩ := R.own a i h
    refine ⟨?_, h2, fun e => h3 (g.hh.free e)⟩
    cases e : Z' a with
    | none => rfl
    | some o =>
      rcases g.zn a (by rw [e]; simp) with q | q
      · exact absurd h1 q
      · exact absurd q h3
  sl := fun i => (R.sl i).mono g.zz fun a o _ h => g.hh a o h
  fH := fun a o h n => g.hh _ _ (R.fH a o h n)
  fZ := R.fZ.trans g.zz
  fB := R.fB.trans g.zz
  fN := fun a h => by
    rcases g.zn a h with q | q
    · exact R.fN a q
    · exact .inr (R.H0free q)
theorem Rel.zfree (R : Rel K G Γ Z O σ H) {a : Addr} (h : G.PN a) : Z a = none := (R.pen a h).2.1
end

/-- the value v reads as d now; its own object may be one of the body's -/
inductive BR (K : Fg) (PN : Addr → Prop) (Z H : Hp) : V → D → Prop where
  | z {v : V} {d : D} : DR K Z v d → BR K PN Z H v d
  | l {a : Addr} {vs : List V} {ds : List D} : ¬ PN a → H a = some (.lst vs) → DRs K Z vs ds → BR K PN Z H (.ref a) (.list ds)
  | dk {a : Addr} {vs : List (Key × V)} {ds : List (D × D)} : ¬ PN a → H a = some (.dK vs) → DRk K Z vs ds → BR K PN Z H (.ref a) (.dict ds)
  | dt {a : Addr} {vs : List (List Key × V)} {ds : List (D × D)} : ¬ PN a → H a = some (.dT vs) → DRt K Z vs ds → BR K PN Z H (.ref a) (.dict ds)
inductive BRs (K : Fg) (PN : Addr → Prop) (Z H : Hp) : List V → List D → Prop where
  | nil : BRs K PN Z H [] []
  | cons {v : V} {vs : List V} {d : D} {ds : List D} : BR K PN Z H v d → BRs K PN Z H vs ds → BRs K PN Z H (v :: vs) (d :: ds)
section
variable {K : Fg} {PN : Addr → Prop} {Z H Z' H' : Hp}
theorem BR.grow (z : Sub Z Z') (h : ∀ a o, H a = some o → ¬ PN a → H' a = some o) {v : V} {d : D} (b : BR K PN Z H v d) : BR K PN Z' H' v d := by
  cases b with
  | z b => exact .z (b.mono z)
  | l n a b => exact .l n (h _ _ a n) (b.mono z)
  | dk n a b => exact .dk n (h _ _ a n) (b.mono z)
  | dt n a b => exact .dt n (h _ _ a n) (b.mono z)
theorem BRs.grow (z : Sub Z Z') (h : ∀ a o, H a = some o → ¬ PN a → H' a = some o) : ∀ {v : List V} {d : List D}, BRs K PN Z H v d → BRs K PN Z' H' v d
  | _, _, .nil => .nil
  | _, _, .cons a b => .cons (a.grow z h) (b.grow z h)
theorem BRs.length : ∀ {v : List V} {d : List D}, BRs K PN Z H v d → v.length = d.length
  | _, _, .nil => rfl
  | _, _, .cons _ t => by rw [List.length_cons, List.length_cons, t.length]
theorem BR.listI (s : Sub Z H) {v : V} {ds : List D} (b : BR K PN Z H v (.list ds)) : ∃ a vs, v = .ref a ∧ H a = some (.lst vs) ∧ DRs K Z vs ds := by
  cases b with
  | z b => cases b with | lst h t => exact ⟨_, _, rfl, s _ _ h, t⟩
  | l _ h t => exact ⟨_, _, rfl, h, t⟩
theorem BR.tupI (s : Sub Z H) {v : V} {ds : List D} (b : BR K PN Z H v (.tuple ds)) : ∃ a vs, v = .ref a ∧ SqT K H a vs ∧ SqT K Z a vs ∧ DRs K Z vs ds := by
  cases b with
  | z b => cases b with | tup h t => exact ⟨_, _, rfl, s.sqT h, h, t⟩
theorem BR.intI {v : V} {i : Int} (b : BR K PN Z H v (.int i)) : v = .int i := by cases b with | z b => cases b; rfl
theorem BR.boolI {v : V} {i : Bool} (b : BR K PN Z H v (.bool i)) : v = .bl i := by cases b with | z b => cases b; rfl
theorem BR.strI {v : V} {i : Str} (b : BR K PN Z H v (.str i)) : v = .str i := by cases b with | z b => cases b; rfl
theorem BR.noneI {v : V} (b : BR K PN Z H v .none) : v = .non := by cases b with | z b => cases b; rfl
mutual
def nodict : D → Bool
  | .list ds => nodicts ds
  | .tuple ds => nodicts ds
  | .dict _ => false
  | .none => true
  | .bool _ => true
  | .int _ => true
  | .str _ => true
def nodicts : List D → Bool
  | [] => true
  | d :: ds => nodict d && nodicts ds
end
mutual
theorem DR.dp (s : Sub Z H) : ∀ {v : V} {d : D}, DR K Z v d → nodict d = true → Dp K H v d
  | _, _, .non, _ => .non
  | _, _, .bl b, _ => .bl b
  | _, _, .int b, _ => .int b
  | _, _, .str b, _ => .str b
  | _, _, .lst h t, n => .lst (SqL.of (s _ _ h)) (DRs.dp s t (by simpa [nodict] using n))
  | _, _, .tup h t, n => .tup (s.sqT h) (DRs.dp s t (by simpa [nodict] using n))
  | _, _, .dk h t, n => by simp [nodict] at n
  | _, _, .dt h t, n => by simp [nodict] at n
theorem DRs.dp (s : Sub Z H) : ∀ {v : List V} {d : List D}, DRs K Z v d → nodicts d = true → DpAll K H v d
  | _, _, .nil, _ => .nil
  | _, _, .cons h t, n => by
    simp only [nodicts, Bool.and_eq_true] at n
    exact .cons (DR.dp s h n.1) (DRs.dp s t n.2)
end
theorem BR.dp (s : Sub Z H) {v : V} {d : D} (b : BR K PN Z H v d) (n : nodict d = true) : Dp K H v d := by
  cases b with
  | z b => exact b.dp s n
  | l _ a b => exact .lst (SqL.of a) (b.dp s (by simpa [nodict] using n))
  | dk _ a b => simp [nodict] at n
  | dt _ a b => simp [nodict] at n
end
end VL
namespace VL
open PySem PySem.Spec PyProof.Rows L2

/-! ### readings over data -/
abbrev WE (ρ : Type) := Ga → (ρ → Ga → Prop) → Prop
/-- what an expression's result is: a value that stays, or a new object that nothing holds -/
inductive Rz where
  | v (r : Rv)
  | ls (ds : List D)
  | ls2 (dss : List (List D))
  | dk (kvs : List (Key × D))
  | dt (kvs : List (List Key × D))
def lift {ρ υ : Type} (K : Fg) (G : Gh) (RR : Hp → Hp → Ow → Hp → ρ → υ → Prop) (w : WE ρ) : L2.St → Hp → (υ → Hp → Prop) → Prop := fun σ H Q =>
  ∃ (Γ : Ga) (Z : Hp) (O : Ow) (P : ρ → Ga → Prop), Rel K G Γ Z O σ H ∧ w Γ P ∧ ∀ r Γ' v Z' O' H', P r Γ' → Rel K G Γ' Z' O' σ H' → Step G.PN Z O H Z' O' H' → RR H Z' O' H' r v → Q v H'
def Fresh (G : Gh) (Hs Z : Hp) (O : Ow) (a : Addr) : Prop := Hs a = none ∧ Z a = none ∧ O a = none
def RzR (K : Fg) (G : Gh) (Hs Z : Hp) (O : Ow) (H : Hp) : Rz → V → Prop
  | .v r, v => RvR K G.PN Z r v
  | .ls ds, v => ∃ a vs, v = .ref a ∧ Fresh G Hs Z O a ∧ H a = some (.lst vs) ∧ DRs K Z vs ds
  | .ls2 dss, v => False
  | .dk kvs, v => ∃ a vs, v = .ref a ∧ Fresh G Hs Z O a ∧ H a = some (.dK vs) ∧ dkR K Z vs kvs
  | .dt kvs, v => ∃ a vs, v = .ref a ∧ Fresh G Hs Z O a ∧ H a = some (.dT vs) ∧ dtR K Z vs kvs
def AE (X : Cx) (G : Gh) (e : Expr) (w : WE Rv) : Prop := PE X e (lift X.K G (fun _ Z _ _ r v => RvR X.K G.PN Z r v) w)
def AB (X : Cx) (G : Gh) (e : Expr) (w : WE D) : Prop := PE X e (lift X.K G (fun _ Z _ H d v => BR X.K G.PN Z H v d) w)
def AZ (X : Cx) (G : Gh) (e : Expr) (w : WE Rz) : Prop := PE X e (lift X.K G (RzR X.K G) w)
def AT (X : Cx) (G : Gh) (e : Expr) (w : WE Bool) : Prop := PT X e (lift X.K G (fun _ _ _ _ (a b : Bool) => a = b) w)
def AW (X : Cx) (G : Gh) (e : Expr) (w : WE Bool) : Prop := PW X e (lift X.K G (fun _ _ _ _ (a b : Bool) => a = b) w)
def AA (X : Cx) (G : Gh) (es : List Expr) (w : WE (List Rv)) : Prop := PA X es (lift X.K G (fun _ Z _ _ rs (vs : List V) => RvRs X.K G.PN Z rs vs ∧ vs.length = es.length) w)
def ABs (X : Cx) (G : Gh) (es : List Expr) (w : WE (List D)) : Prop := PA X es (lift X.K G (fun _ Z _ H ds (vs : List V) => BRs X.K G.PN Z H vs ds) w)
section
variable {X : Cx} {G : Gh} {e a b c : Expr} {es rest : List Expr}
theorem PEi {t t' : TE} (h : PE X e t) (i : ∀ σ H Q, t' σ H Q → t σ H Q) : PE X e t' := ⟨fun pins s σ H Q I q => h.run pins s σ H Q I (i σ H Q q)⟩
theorem PTi {t t' : TT} (h : PT X e t) (i : ∀ σ H Q, t' σ H Q → t σ H Q) : PT X e t' := ⟨fun pins s σ H Q I q => h.run pins s σ H Q I (i σ H Q q)⟩
theorem PWi {t t' : TT} (h : PW X e t) (i : ∀ σ H Q, t' σ H Q → t σ H Q) : PW X e t' := ⟨fun wh pins s σ H Q I q => h.run wh pins s σ H Q I (i σ H Q q)⟩
theorem PAi {t t' : TA} (h : PA X es t) (i : ∀ σ H Q, t' σ H Q → t σ H Q) : PA X es t' := ⟨fun p pins s σ H Q I q => h.run p pins s σ H Q I (i σ H Q q)⟩
theorem PSi {st : Stmt} {t t' : TS} (h : PS X st t) (i : ∀ D σ H, t' D σ H → t D σ H) : PS X st t' := ⟨fun pins s σ H D I q => h.run pins s σ H D I (i D σ H q)⟩
theorem PSsi {st : List Stmt} {t t' : TS} (h : PSs X st t) (i : ∀ D σ H, t' D σ H → t D σ H) : PSs X st t' := ⟨fun pins s σ H D I q => h.run pins s σ H D I (i D σ H q)⟩
end

/-! ### changes of a state -/
section
variable {K : Fg} {G : Gh} {Γ : Ga} {Z H : Hp} {O : Ow} {σ : L2.St}
/-- a new object is laid into Z for good -/
theorem Rel.frz (R : Rel K G Γ Z O σ H) {a : Addr} {o : HO} (h : H a = some o) (hz : Z a = none) (ho : O a = none) (h0 : G.H0 a = none) : Rel K G Γ (upd Z a o) O σ H where
  len := R.len
  sub := fun b u e => by
    by_cases q : b = a
    · subst q; rw [upd_same] at e; rw [← e]; exact h
    · rw [upd_ne q] at e; exact R.sub _ _ e
  pen := fun p hp => by
    obtain ⟨h1, h4, h5, h6⟩ := R.pen p hp
    refine ⟨h1.mono (Sub.upd hz) (fun o e => e) (Nat.le_refl _), ?_, h5, h6⟩
    rw [upd_ne]
    · exact h4
    · rintro rfl; exact h6 h0
  own := fun b i e => by
    obtain ⟨h1, h2, h3⟩ := R.own b i e
    refine ⟨?_, h2, h3⟩
    rw [upd_ne]
    · exact h1
    · rintro rfl; rw [ho] at e; cases e
  sl := fun i => (R.sl i).mono (Sub.upd hz) fun _ _ _ h => h
  fH := R.fH
  fZ := R.fZ.trans (Sub.upd hz)
  fB := R.fB.trans (Sub.upd hz)
  fN := fun b e => by
    by_cases q : b = a
    · subst q; exact .inr h0
    · rw [upd_ne q] at e; exact R.fN b e
def dropO (O : Ow) (i : Nat) : Ow := fun a => if O a = some i then none else O a
theorem dropO_some {O : Ow} {i j : Nat} {a : Addr} (h : dropO O i a = some j) : O a = some j ∧ j ≠ i := by
  unfold dropO at h
  split at h
  · cases h
  · rename_i n; exact ⟨h, fun e => n (e ▸ h)⟩
theorem dropO_keep {O : Ow} {i j : Nat} {a : Addr} (h : O a = some j) (n : j ≠ i) : dropO O i a = some j := by
  unfold dropO; rw [if_neg]
  · exact h
  · rw [h]; intro q; exact n (Option.some.inj q)
theorem L2R.own {O' : Ow} {i : Nat} (k : ∀ a, O a = some i → O' a = some i) : ∀ {vs : List V} {dss : List (List D)}, L2R K Z O H i vs dss → L2R K Z O' H i vs dss
  | _, _, .nil => .nil
  | _, _, .cons h1 h2 h3 h4 h5 => .cons (k _ h1) h2 h3 h4 (h5.own k)
theorem SlR.own {O' : Ow} {i : Nat} (k : ∀ a, O a = some i → O' a = some i) {x : Sl} {v : Option V} (h : SlR K G Z O H i x v) : SlR K G Z O' H i x v := by
  cases x with
  | no => trivial
  | rv r => exact h
  | lst ds => obtain ⟨a, vs, e, o, q, r⟩ := h; exact ⟨a, vs, e, k _ o, q, r⟩
  | lst2 dss => obtain ⟨a, vs, e, o, q, n, r⟩ := h; exact ⟨a, vs, e, k _ o, q, n, r.own k⟩
  | dk kvs => obtain ⟨a, vs, e, o, q, r⟩ := h; exact ⟨a, vs, e, k _ o, q, r⟩
  | dt kvs => obtain ⟨a, vs, e, o, q, r⟩ := h; exact ⟨a, vs, e, k _ o, q, r⟩
  | exc a dd fs => exact h
theorem Ga.at_set {i j : Nat} {x : Sl} (h : j ≠ i) : (Γ.set i x).at j = Γ.at j := by
  show (Γ.s.set i x).getD j .no = Γ.s.getD j .no
  rw [List.getD_eq_getElem?_getD, List.getD_eq_getElem?_getD, List.getElem?_set_ne (Ne.symm h)]
theorem Ga.at_same {i : Nat} {x : Sl} (h : i < Γ.s.length) : (Γ.set i x).at i = x := by
  show (Γ.s.set i x).getD i .no = x
  rw [List.getD_eq_getElem?_getD, List.getElem?_set_self h]; rfl
theorem st_set {i j : Nat} {x : Option V} (h : j ≠ i) : (σ.set i x).getD j none = σ.getD j none := by
  rw [List.getD_eq_getElem?_getD, List.getD_eq_getElem?_getD, List.getElem?_set_ne (Ne.symm h)]
theorem st_same {i : Nat} {x : Option V} (h : i < σ.length) : (σ.set i x).getD i none = x := by
  rw [List.getD_eq_getElem?_getD, List.getElem?_set_self h]; rfl
/-- slot i is set to what nothing of the body owns -/
theorem Rel.setNo (R : Rel K G Γ Z O σ H) (i : Nat) {x : Sl} {v : Option V} (hx : ∀ O', SlR K G Z O' H i x v) : Rel K G (Γ.set i x) Z (dropO O i) (σ.set i v) H where
  len := by show (Γ.s.set i x).length = _; rw [List.length_set, List.length_set]; exact R.len
  sub := R.sub
  pen := fun p hp => by
    obtain ⟨h1, h2, h3, h4⟩ := R.pen p hp
    exact ⟨h1, h2, by unfold dropO; split <;> first | rfl | exact h3, h4⟩
  own := fun a j h => R.own a j (dropO_some h).1
  sl := fun j => by
    by_cases q : j = i
    · subst q
      by_cases hl : j < Γ.s.length
      · rw [Ga.at_same hl, st_same (by rw [← R.len]; exact hl)]; exact hx _
      · have : (Γ.set j x).at j = .no := by
          show (Γ.s.set j x).getD j .no = .no
          rw [List.getD_eq_getElem?_getD, List.getElem?_eq_none (by rw [List.length_set]; omega)]; rfl
        rw [this]; trivial
    · rw [Ga.at_set q, st_set q]
      exact (R.sl j).own fun a h => dropO_keep h q
  fH := R.fH
  fZ := R.fZ
  fB := R.fB
  fN := R.fN
theorem Rel.setRv (R : Rel K G Γ Z O σ H) (i : Nat) {r : Rv} {v : V} (h : RvR K G.PN Z r v) : Rel K G (Γ.set i (.rv r)) Z (dropO O i) (σ.set i (some v)) H := R.setNo i fun _ => ⟨v, rfl, h⟩
def ownO (O : Ow) (i : Nat) (a : Addr) : Ow := fun b => if b = a then some i else dropO O i b
theorem ownO_self {O : Ow} {i : Nat} {a : Addr} : ownO O i a a = some i := if_pos rfl
theorem ownO_keep {O : Ow} {i j : Nat} {a b : Addr} (h : O b = some j) (n : j ≠ i) (ha : O a = none) : ownO O i a b = some j := by
  unfold ownO; rw [if_neg]
  · exact dropO_keep h n
  · rintro rfl; rw [ha] at h; cases h
/-- slot i is set to a new object -/
theorem Rel.setOwn (R : Rel K G Γ Z O σ H) (i : Nat) {a : Addr} {x : Sl} (hz : Z a = none) (ho : O a = none) (h0 : G.H0 a = none) (hh : H a ≠ none) (hp : ¬ G.PN a)
    (hx : SlR K G Z (ownO O i a) H i x (some (.ref a))) : Rel K G (Γ.set i x) Z (ownO O i a) (σ.set i (some (.ref a))) H where
  len := by show (Γ.s.set i x).length = _; rw [List.length_set, List.length_set]; exact R.len
  sub := R.sub
  pen := fun p hq => by
    obtain ⟨h1, h2, h3, h4⟩ := R.pen p hq
    refine ⟨h1, h2, ?_, h4⟩
    unfold ownO dropO
    rw [if_neg (by rintro rfl; exact hp hq)]
    split <;> first | rfl | exact h3
  own := fun b j h => by
    unfold ownO at h
    split at h
    · rename_i q; subst q; exact ⟨hz, h0, hh⟩
    · exact R.own b j (dropO_some h).1
  sl := fun j => by
    by_cases q : j = i
    · subst q
      by_cases hl : j < Γ.s.length
      · rw [Ga.at_same hl, st_same (by rw [← R.len]; exact hl)]; exact hx
      · have : (Γ.set j x).at j = .no := by
          show (Γ.s.set j x).getD j .no = .no
          rw [List.getD_eq_getElem?_getD, List.getElem?_eq_none (by rw [List.length_set]; omega)]; rfl
        rw [this]; trivial
    · rw [Ga.at_set q, st_set q]
      exact (R.sl j).own fun b h => ownO_keep h q ho
  fH := R.fH
  fZ := R.fZ
  fB := R.fB
  fN := R.fN
theorem Rel.slAt (R : Rel K G Γ Z O σ H) {i : Nat} {x : Sl} (h : Γ.at i = x) : SlR K G Z O H i x (σ.getD i none) := h ▸ R.sl i
theorem getD_some {i : Nat} {v : V} (h : σ.getD i none = some v) : σ[i]? = some (some v) := by
  rw [List.getD_eq_getElem?_getD] at h
  cases e : σ[i]? with
  | none => rw [e] at h; cases h
  | some u => rw [e] at h; exact congrArg some h
/-- an object of slot i alone is given up, laid into Z -/
theorem Rel.giveUp (R : Rel K G Γ Z O σ H) {i : Nat} {a : Addr} {o : HO} {r : Rv} (ho : O a = some i) (h : H a = some o) (hv : σ.getD i none = some (.ref a)) (hr : RvR K G.PN (upd Z a o) r (.ref a)) :
    Rel K G (Γ.set i (.rv r)) (upd Z a o) (dropO O i) σ H ∧ Step G.PN Z O H (upd Z a o) (dropO O i) H := by
  obtain ⟨hz, h0, hn⟩ := R.own a i ho
  refine ⟨⟨?_, ?_, fun p hp => ?_, fun b j e => ?_, fun j => ?_, R.fH, R.fZ.trans (Sub.upd hz), R.fB.trans (Sub.upd hz), fun b e => ?_⟩, ⟨fun _ _ h _ => h, fun _ h => h, Sub.upd hz, fun b e => ?_, fun b j e => (dropO_some e).1⟩⟩
  · show (Γ.s.set i _).length = _
    rw [List.length_set]; exact R.len
  · intro b u e
    by_cases q : b = a
    · subst q; rw [upd_same] at e; rw [← e]; exact h
    · rw [upd_ne q] at e; exact R.sub _ _ e
  · obtain ⟨h1, h4, h5, h6⟩ := R.pen p hp
    refine ⟨h1.mono (Sub.upd hz) (fun o e => e) (Nat.le_refl _), ?_, by unfold dropO; split <;> first | rfl | exact h5, h6⟩
    rw [upd_ne]
    · exact h4
    · rintro rfl; exact h6 h0
  · obtain ⟨e1, e2⟩ := dropO_some e
    obtain ⟨h1, h2, h3⟩ := R.own b j e1
    refine ⟨?_, h2, h3⟩
    rw [upd_ne]
    · exact h1
    · rintro rfl; rw [ho] at e1; exact e2 (Option.some.inj e1).symm
  · by_cases q : j = i
    · subst q
      by_cases hl : j < Γ.s.length
      · rw [Ga.at_same hl]; exact ⟨_, hv, hr⟩
      · have : (Γ.set j (.rv r)).at j = .no := by
          show (Γ.s.set j _).getD j .no = .no
          rw [List.getD_eq_getElem?_getD, List.getElem?_eq_none (by rw [List.length_set]; omega)]; rfl
        rw [this]; trivial
    · rw [Ga.at_set q]
      exact ((R.sl j).mono (Sub.upd hz) fun _ _ _ h => h).own fun b h => dropO_keep h q
  · by_cases q : b = a
    · subst q; exact .inr h0
    · rw [upd_ne q] at e; exact R.fN b e
  · by_cases q : b = a
    · subst q; exact .inr (.inr (by rw [ho]; simp))
    · rw [upd_ne q] at e; exact .inl e
end

/-! ### names and constants -/
section
variable {X : Cx} {G : Gh} {e a b c : Expr} {es rest : List Expr} {pos : Pos}
def wC (r : Rv) : WE Rv := fun Γ P => P r Γ
theorem ae_of {v : V} {r : Rv} (h : PE X e (tC v)) (hr : ∀ Z, RvR X.K G.PN Z r v) : AE X G e (wC r) :=
  PEi h fun σ H Q ⟨Γ, Z, O, P, R, w, k⟩ => k _ _ _ _ _ _ w R Step.refl (hr Z)
theorem ae_int {i : Int} {j} : AE X G (.Constant (.int i) j pos) (wC (.dat (.int i))) := ae_of pe_int fun _ => .int i
theorem ae_bl {i : Bool} {j} : AE X G (.Constant (.bool i) j pos) (wC (.dat (.bool i))) := ae_of pe_bl fun _ => .bl i
theorem ae_non {j} : AE X G (.Constant .none j pos) (wC (.dat .none)) := ae_of pe_non fun _ => .non
theorem ae_str {i : Str} {j} : AE X G (.Constant (.str i) j pos) (wC (.dat (.str i))) := ae_of pe_str fun _ => .str i
/-- a constant of the module -/
theorem ae_glob {x : Str} {v : V} {u : Value} {d : D} (hg : Gl X x) (hm : X.mg x = some u) (r : RelV v u) (hd : ∀ Z, DR X.K Z v d) (hq : (x == ("__debug__" : Str)) = false := by decide) : AE X G (.Name x pos) (wC (.dat d)) :=
  ae_of (pe_glob hg hm r hq) hd
def wName (i : Nat) : WE Rv := fun Γ P => match Γ.at i with
  | .rv r => P r Γ
  | .lst ds => P (.dat (.list ds)) (Γ.set i (.rv (.dat (.list ds))))
  | .dk kvs => P (.dat (.dict (kvs.map fun p => (keyD p.1, p.2)))) (Γ.set i (.rv (.dat (.dict (kvs.map fun p => (keyD p.1, p.2))))))
  | .dt kvs => P (.dat (.dict (kvs.map fun p => (tupD p.1, p.2)))) (Γ.set i (.rv (.dat (.dict (kvs.map fun p => (tupD p.1, p.2))))))
  | _ => False
theorem ae_name (i : Nat) {x : Str} (hN : X.N[i]? = some x := by rfl) (hv : Vis X.env.scope x := by first | exact Or.inl rfl | exact Or.inr (Or.inl rfl) | exact Or.inr (Or.inr rfl)) (hd : (x == ("__debug__" : Str)) = false := by decide)
    (hcd : (x == ("__classdict__" : Str)) = false := by decide) : AE X G (.Name x pos) (wName i) := by
  refine PEi (pe_var hN hv hd hcd) fun σ H Q ⟨Γ, Z, O, P, R, w, k⟩ => ?_
  unfold wName at w
  cases e : Γ.at i with
  | no => rw [e] at w; exact w.elim
  | exc _ _ _ => rw [e] at w; exact w.elim
  | lst2 _ => rw [e] at w; exact w.elim
  | rv r =>
    rw [e] at w
    obtain ⟨u, h1, h2⟩ := R.slAt e
    exact ⟨u, getD_some h1, k _ _ _ _ _ _ w R Step.refl h2⟩
  | lst ds =>
    rw [e] at w
    obtain ⟨p, vs, h1, h2, h3, h4⟩ := R.slAt e
    have hz := (R.own p i h2).1
    have hr : RvR X.K G.PN (upd Z p (.lst vs)) (.dat (.list ds)) (.ref p) := .lst upd_same (h4.mono (Sub.upd hz))
    obtain ⟨R', S'⟩ := R.giveUp h2 h3 h1 hr
    exact ⟨_, getD_some h1, k _ _ _ _ _ _ w R' S' hr⟩
  | dk kvs =>
    rw [e] at w
    obtain ⟨p, vs, h1, h2, h3, h4⟩ := R.slAt e
    have hz := (R.own p i h2).1
    have hr : RvR X.K G.PN (upd Z p (.dK vs)) (.dat (.dict (kvs.map fun p => (keyD p.1, p.2)))) (.ref p) := .dk (Rd.of upd_same) (h4.mono (Sub.upd hz)).drk
    obtain ⟨R', S'⟩ := R.giveUp h2 h3 h1 hr
    exact ⟨_, getD_some h1, k _ _ _ _ _ _ w R' S' hr⟩
  | dt kvs =>
    rw [e] at w
    obtain ⟨p, vs, h1, h2, h3, h4⟩ := R.slAt e
    have hz := (R.own p i h2).1
    have hr : RvR X.K G.PN (upd Z p (.dT vs)) (.dat (.dict (kvs.map fun p => (tupD p.1, p.2)))) (.ref p) := .dt (Rd.of upd_same) (h4.mono (Sub.upd hz)).drt
    obtain ⟨R', S'⟩ := R.giveUp h2 h3 h1 hr
    exact ⟨_, getD_some h1, k _ _ _ _ _ _ w R' S' hr⟩
/-- a name that is only looked at -/
def wNameB (i : Nat) : WE D := fun Γ P => match Γ.at i with
  | .rv (.dat d) => P d Γ
  | .lst ds => P (.list ds) Γ
  | .dk kvs => P (.dict (kvs.map fun p => (keyD p.1, p.2))) Γ
  | .dt kvs => P (.dict (kvs.map fun p => (tupD p.1, p.2))) Γ
  | _ => False
theorem Rel.npen {K : Fg} {G : Gh} {Γ : Ga} {Z H : Hp} {O : Ow} {σ : L2.St} (R : Rel K G Γ Z O σ H) {a : Addr} {i : Nat} (h : O a = some i) : ¬ G.PN a := fun hp => by
  have := (R.pen a hp).2.2.1
  rw [this] at h; cases h
theorem ab_name (i : Nat) {x : Str} (hN : X.N[i]? = some x := by rfl) (hv : Vis X.env.scope x := by first | exact Or.inl rfl | exact Or.inr (Or.inl rfl) | exact Or.inr (Or.inr rfl)) (hd : (x == ("__debug__" : Str)) = false := by decide)
    (hcd : (x == ("__classdict__" : Str)) = false := by decide) : AB X G (.Name x pos) (wNameB i) := by
  refine PEi (pe_var hN hv hd hcd) fun σ H Q ⟨Γ, Z, O, P, R, w, k⟩ => ?_
  unfold wNameB at w
  cases e : Γ.at i with
  | no => rw [e] at w; exact w.elim
  | exc _ _ _ => rw [e] at w; exact w.elim
  | lst2 _ => rw [e] at w; exact w.elim
  | rv r =>
    rw [e] at w
    cases r with
    | pen => exact w.elim
    | dat d =>
      obtain ⟨u, h1, h2⟩ := R.slAt e
      exact ⟨u, getD_some h1, k _ _ _ _ _ _ w R Step.refl (.z h2)⟩
  | lst ds =>
    rw [e] at w
    obtain ⟨p, vs, h1, h2, h3, h4⟩ := R.slAt e
    exact ⟨_, getD_some h1, k _ _ _ _ _ _ w R Step.refl (.l (R.npen h2) h3 h4)⟩
  | dk kvs =>
    rw [e] at w
    obtain ⟨p, vs, h1, h2, h3, h4⟩ := R.slAt e
    exact ⟨_, getD_some h1, k _ _ _ _ _ _ w R Step.refl (.dk (R.npen h2) h3 h4.drk)⟩
  | dt kvs =>
    rw [e] at w
    obtain ⟨p, vs, h1, h2, h3, h4⟩ := R.slAt e
    exact ⟨_, getD_some h1, k _ _ _ _ _ _ w R Step.refl (.dt (R.npen h2) h3 h4.drt)⟩

/-! ### from one judgement to another -/
def wDat (w : WE Rv) : WE D := fun Γ P => w Γ fun r Γ' => match r with
  | .dat d => P d Γ'
  | .pen => False
theorem AE.ab {w : WE Rv} (h : AE X G e w) : AB X G e (wDat w) := PEi h fun σ H Q ⟨Γ, Z, O, P, R, q, k⟩ =>
  ⟨Γ, Z, O, _, R, q, fun r Γ' v Z' O' H' p R' S' b => by
    cases r with
    | pen => exact p.elim
    | dat d => exact k d Γ' v Z' O' H' p R' S' (.z b)⟩
def Rz.rv : Rz → Rv
  | .v r => r
  | .ls ds => .dat (.list ds)
  | .ls2 dss => .dat (.list (dss.map .list))
  | .dk kvs => .dat (.dict (kvs.map fun p => (keyD p.1, p.2)))
  | .dt kvs => .dat (.dict (kvs.map fun p => (tupD p.1, p.2)))
def wFrz (w : WE Rz) : WE Rv := fun Γ P => w Γ fun z Γ' => P z.rv Γ'
theorem Step.frz {PN : Addr → Prop} {Z H Z' H' : Hp} {O O' : Ow} {a : Addr} {o : HO} (s : Step PN Z O H Z' O' H') (h : H a = none) (hz : Z' a = none) : Step PN Z O H (upd Z' a o) O' H' :=
  ⟨s.hH, s.hN, s.zZ.trans (Sub.upd hz), fun b e => by
    by_cases q : b = a
    · subst q; exact .inr (.inl h)
    · rw [upd_ne q] at e; exact s.zN b e, s.oO⟩
theorem AZ.ae {w : WE Rz} (h : AZ X G e w) : AE X G e (wFrz w) := PEi h fun σ H Q ⟨Γ, Z, O, P, R, q, k⟩ =>
  ⟨Γ, Z, O, _, R, q, fun r Γ' v Z' O' H' p R' S' b => by
    cases r with
    | v r => exact k _ Γ' v Z' O' H' p R' S' b
    | ls2 _ => exact b.elim
    | ls ds =>
      obtain ⟨a, vs, rfl, ⟨f1, f2, f3⟩, h1, h2⟩ := b
      exact k _ Γ' _ _ O' H' p (R'.frz h1 f2 f3 (R.H0free f1)) (S'.frz f1 f2) (.lst upd_same (h2.mono (Sub.upd f2)))
    | dk ds =>
      obtain ⟨a, vs, rfl, ⟨f1, f2, f3⟩, h1, h2⟩ := b
      exact k _ Γ' _ _ O' H' p (R'.frz h1 f2 f3 (R.H0free f1)) (S'.frz f1 f2) (.dk (Rd.of upd_same) (h2.mono (Sub.upd f2)).drk)
    | dt ds =>
      obtain ⟨a, vs, rfl, ⟨f1, f2, f3⟩, h1, h2⟩ := b
      exact k _ Γ' _ _ O' H' p (R'.frz h1 f2 f3 (R.H0free f1)) (S'.frz f1 f2) (.dt (Rd.of upd_same) (h2.mono (Sub.upd f2)).drt)⟩
def wZ (w : WE Rv) : WE Rz := fun Γ P => w Γ fun r Γ' => P (.v r) Γ'
theorem AE.az {w : WE Rv} (h : AE X G e w) : AZ X G e (wZ w) := PEi h fun σ H Q ⟨Γ, Z, O, P, R, q, k⟩ =>
  ⟨Γ, Z, O, _, R, q, fun r Γ' v Z' O' H' p R' S' b => k _ Γ' v Z' O' H' p R' S' b⟩

/-! ### argument lists -/
def wNil {ρ : Type} : WE (List ρ) := fun Γ P => P [] Γ
def wCons {ρ : Type} (w : WE ρ) (ws : WE (List ρ)) : WE (List ρ) := fun Γ P => w Γ fun r Γ1 => ws Γ1 fun rs Γ2 => P (r :: rs) Γ2
theorem aa_nil : AA X G [] wNil := PAi pa_nil fun σ H Q ⟨Γ, Z, O, P, R, w, k⟩ => k _ _ _ _ _ _ w R Step.refl ⟨.nil, rfl⟩
theorem aa_cons {w : WE Rv} {ws : WE (List Rv)} (h : AE X G e w) (hs : AA X G es ws) (hq : starEach (e :: es) X.env = (false, eval e X.env) :: starEach es X.env := by rfl) : AA X G (e :: es) (wCons w ws) :=
  PAi (pa_cons h hs hq) fun σ H Q ⟨Γ, Z, O, P, R, w, k⟩ => ⟨Γ, Z, O, _, R, w, fun r Γ1 v Z1 O1 H1 p1 R1 S1 b1 => ⟨Γ1, Z1, O1, _, R1, p1, fun rs Γ2 vs Z2 O2 H2 p2 R2 S2 ⟨b2, l2⟩ =>
    k _ _ _ _ _ _ p2 R2 (S1.trans S2) ⟨.cons (b1.mono S2.zZ) b2, by rw [List.length_cons, List.length_cons, l2]⟩⟩⟩
theorem ab_nil : ABs X G [] wNil := PAi pa_nil fun σ H Q ⟨Γ, Z, O, P, R, w, k⟩ => k _ _ _ _ _ _ w R Step.refl .nil
theorem ab_cons {w : WE D} {ws : WE (List D)} (h : AB X G e w) (hs : ABs X G es ws) (hq : starEach (e :: es) X.env = (false, eval e X.env) :: starEach es X.env := by rfl) : ABs X G (e :: es) (wCons w ws) :=
  PAi (pa_cons h hs hq) fun σ H Q ⟨Γ, Z, O, P, R, w, k⟩ => ⟨Γ, Z, O, _, R, w, fun r Γ1 v Z1 O1 H1 p1 R1 S1 b1 => ⟨Γ1, Z1, O1, _, R1, p1, fun rs Γ2 vs Z2 O2 H2 p2 R2 S2 b2 =>
    k _ _ _ _ _ _ p2 R2 (S1.trans S2) (.cons (b1.grow S2.zZ S2.hH) b2)⟩⟩

/-! ### displays -/
def dats : List Rv → (List D → Prop) → Prop
  | [], k => k []
  | .dat d :: r, k => dats r fun ds => k (d :: ds)
  | .pen :: _, _ => False
theorem dats_of {K : Fg} {PN : Addr → Prop} {Z : Hp} : ∀ {rs : List Rv} {vs : List V} {k : List D → Prop}, RvRs K PN Z rs vs → dats rs k → ∃ ds, DRs K Z vs ds ∧ k ds
  | _, _, _, .nil, h => ⟨[], .nil, h⟩
  | .dat d :: rs, _, k, .cons h t, q => by
    obtain ⟨ds, a, b⟩ := dats_of (k := fun ds => k (d :: ds)) t q
    exact ⟨d :: ds, .cons h a, b⟩
  | .pen :: rs, _, k, .cons h t, q => q.elim
def wTup (ws : WE (List Rv)) : WE Rv := fun Γ P => ws Γ fun rs Γ' => dats rs fun ds => P (.dat (.tuple ds)) Γ'
theorem small_line {n : Nat} (h : n ≤ 1000) : n ≤ sizeLine := Nat.le_of_lt (small1000 h)
theorem ae_tup {ws : WE (List Rv)} {x1} (h : AA X G es ws) (hl : es.length ≤ 1000 := by decide) : AE X G (.Tuple es x1 pos) (wTup ws) :=
  PEi (pe_tup h) fun σ H Q ⟨Γ, Z, O, P, R, w, k⟩ => ⟨Γ, Z, O, _, R, w, fun rs Γ1 vs Z1 O1 H1 p1 R1 S1 ⟨b1, l1⟩ => by
    refine ⟨small_line (by rw [l1]; exact hl), fun p hp => ?_⟩
    obtain ⟨ds, b, q⟩ := dats_of b1 p1
    have g := Grow.new (o := .tup vs) R1.sub hp
    exact k _ _ _ _ _ _ q (R1.grow g) (S1.trans g.step) (.tup (SqT.of upd_same) (b.mono g.zz))⟩
def wLst (ws : WE (List Rv)) : WE Rz := fun Γ P => ws Γ fun rs Γ' => dats rs fun ds => P (.ls ds) Γ'
theorem az_lst {ws : WE (List Rv)} (h : AA X G es ws) (hl : es.length ≤ 1000 := by decide) : AZ X G (.List es pos) (wLst ws) :=
  PEi (pe_lst h) fun σ H Q ⟨Γ, Z, O, P, R, w, k⟩ => ⟨Γ, Z, O, _, R, w, fun rs Γ1 vs Z1 O1 H1 p1 R1 S1 ⟨b1, l1⟩ => by
    refine ⟨small_line (by rw [l1]; exact hl), fun p hp => ?_⟩
    obtain ⟨ds, b, q⟩ := dats_of b1 p1
    have g := Grow.new' (o := .lst vs) R1.sub hp
    exact k _ _ _ _ _ _ q (R1.grow g) (S1.trans g.step) ⟨p, vs, rfl, ⟨S1.hN p hp, R1.sub.free hp, R1.ofree hp⟩, upd_same, b⟩⟩

/-! ### operators and calls of built-ins that change nothing -/
structure Ctx (PN : Addr → Prop) (Z H : Hp) : Prop where
  sub : Sub Z H
  pz : ∀ p, PN p → Z p = none ∧ H p ≠ none
theorem Rel.ctx {K : Fg} {G : Gh} {Γ : Ga} {Z H : Hp} {O : Ow} {σ : L2.St} (R : Rel K G Γ Z O σ H) : Ctx G.PN Z H := ⟨R.sub, fun p hp => ⟨R.zfree hp, fun e => R.pfree e hp⟩⟩
def RzN (K : Fg) (H Z' H' : Hp) : Rz → V → Prop
  | .v (.dat d), v => DR K Z' v d
  | .v .pen, _ => False
  | .ls ds, v => ∃ a vs, v = .ref a ∧ H a = none ∧ Z' a = none ∧ H' a = some (.lst vs) ∧ DRs K Z' vs ds
  | .ls2 _, _ => False
  | .dk kvs, v => ∃ a vs, v = .ref a ∧ H a = none ∧ Z' a = none ∧ H' a = some (.dK vs) ∧ dkR K Z' vs kvs
  | .dt kvs, v => ∃ a vs, v = .ref a ∧ H a = none ∧ Z' a = none ∧ H' a = some (.dT vs) ∧ dtR K Z' vs kvs
theorem RzN.up {K : Fg} {G : Gh} {Γ : Ga} {Hs Z H Z' H' : Hp} {O : Ow} {σ : L2.St} (R : Rel K G Γ Z O σ H) (hs : ∀ a, H a = none → Hs a = none) : ∀ {z : Rz} {v : V}, RzN K H Z' H' z v → RzR K G Hs Z' O H' z v
  | .v (.dat d), v, h => h
  | .ls ds, v, ⟨a, vs, e, h1, h2, h3, h4⟩ => ⟨a, vs, e, ⟨hs a h1, h2, R.ofree h1⟩, h3, h4⟩
  | .dk ds, v, ⟨a, vs, e, h1, h2, h3, h4⟩ => ⟨a, vs, e, ⟨hs a h1, h2, R.ofree h1⟩, h3, h4⟩
  | .dt ds, v, ⟨a, vs, e, h1, h2, h3, h4⟩ => ⟨a, vs, e, ⟨hs a h1, h2, R.ofree h1⟩, h3, h4⟩
abbrev Sem2 := D → D → (Rz → Prop) → Prop
abbrev SemN := List D → (Rz → Prop) → Prop
def Pure2 (K : Fg) (r : R2) (sem : Sem2) : Prop := ∀ (PN : Addr → Prop) (Z H : Hp) (x y : V) (d e : D) (P : Rz → Prop) (Q : VK), Ctx PN Z H → BR K PN Z H x d → BR K PN Z H y e → sem d e P →
  (∀ z v Z' H', P z → Grow Z H Z' H' → RzN K H Z' H' z v → Q v H') → r x y H Q
def PureN (K : Fg) (r : List V → Hp → VK → Prop) (sem : SemN) : Prop := ∀ (PN : Addr → Prop) (Z H : Hp) (xs : List V) (ds : List D) (P : Rz → Prop) (Q : VK), Ctx PN Z H → BRs K PN Z H xs ds → sem ds P →
  (∀ z v Z' H', P z → Grow Z H Z' H' → RzN K H Z' H' z v → Q v H') → r xs H Q
def w2 (sem : Sem2) (wa wb : WE D) : WE Rz := fun Γ P => wa Γ fun d Γ1 => wb Γ1 fun e Γ2 => sem d e fun z => P z Γ2
theorem tOp_of {r : R2} {sem : Sem2} (hp : Pure2 X.K r sem) {wa wb : WE D} {σ : L2.St} {H : Hp} {Q : VK} (h : lift X.K G (RzR X.K G) (w2 sem wa wb) σ H Q) :
    tOp r (lift X.K G (fun _ Z _ H d v => BR X.K G.PN Z H v d) wa) (lift X.K G (fun _ Z _ H d v => BR X.K G.PN Z H v d) wb) σ H Q := by
  obtain ⟨Γ, Z, O, P, R, w, k⟩ := h
  exact ⟨Γ, Z, O, _, R, w, fun d Γ1 x Z1 O1 H1 p1 R1 S1 b1 => ⟨Γ1, Z1, O1, _, R1, p1, fun e Γ2 y Z2 O2 H2 p2 R2 S2 b2 =>
    hp G.PN Z2 H2 x y d e _ _ R2.ctx (b1.grow S2.zZ S2.hH) b2 p2 fun z v Z' H' pz g rz => k _ _ _ _ _ _ pz (R2.grow g) ((S1.trans S2).trans g.step) (rz.up R2 (S1.trans S2).hN)⟩⟩
theorem az_bin {op : Operator} {r : R2} {sem : Sem2} {wa wb : WE D} (ho : OpR X (binaryOp op) r) (hp : Pure2 X.K r sem) (ha : AB X G a wa) (hb : AB X G b wb) : AZ X G (.BinOp a op b pos) (w2 sem wa wb) :=
  PEi (pe_op ho ha hb) fun _ _ _ h => tOp_of hp h
theorem az_cmp {op : CmpOp} {r : R2} {sem : Sem2} {wa wb : WE D} (ho : OpR X (compareOp op) r) (hp : Pure2 X.K r sem) (ha : AB X G a wa) (hb : AB X G b wb) (hm : behindInMarks op b = false := by first | exact nomark _ | rfl) : AZ X G (.Compare a [op] [b] pos) (w2 sem wa wb) :=
  PEi (pe_cmpR ho ha hb hm) fun _ _ _ h => tOp_of hp h
def wBool (w : WE Rz) : WE Bool := fun Γ P => w Γ fun z Γ' => match z with
  | .v (.dat (.bool k)) => P k Γ'
  | _ => False
theorem bool_of {K : Fg} {G : Gh} {w : WE Rz} {σ : L2.St} {H : Hp} {Q : Bool → Hp → Prop} (h : lift K G (fun _ _ _ _ (a b : Bool) => a = b) (wBool w) σ H Q) :
    lift K G (RzR K G) w σ H (fun x H' => ∃ k, x = .bl k ∧ Q k H') := by
  obtain ⟨Γ, Z, O, P, R, w, k⟩ := h
  refine ⟨Γ, Z, O, _, R, w, fun z Γ1 x Z1 O1 H1 p1 R1 S1 b1 => ?_⟩
  cases z with
  | v r =>
    cases r with
    | pen => exact p1.elim
    | dat d =>
      cases d with
      | bool c =>
        have : x = .bl c := by
          have b' : DR K Z1 x (.bool c) := b1
          cases b'; rfl
        exact ⟨c, this, k _ _ _ _ _ _ p1 R1 S1 rfl⟩
      | _ => exact p1.elim
  | _ => exact p1.elim
theorem at_cmp {op : CmpOp} {r : R2} {sem : Sem2} {wa wb : WE D} (ho : OpR X (compareOp op) r) (hp : Pure2 X.K r sem) (ha : AB X G a wa) (hb : AB X G b wb) (hm : behindInMarks op b = false := by first | exact nomark _ | rfl) : AT X G (.Compare a [op] [b] pos) (wBool (w2 sem wa wb)) :=
  PTi (pt_cmpR ho ha hb hm) fun _ _ _ h => tOp_of hp (bool_of h)
/-- an expression whose value is a bool, as a test -/
theorem AZ.at {w : WE Rz} (h : AZ X G e w) (he : ∀ whole, isTrue e X.env whole = (do let v ← whole; standAt e.pos; holding [v] (truthy v)) := by intro _; rfl) : AT X G e (wBool w) :=
  PTi (pt_val h he) fun _ _ _ h => bool_of h
/-- a < b < c -/
def wChain (s1 s2 : Sem2) (wa wb wc : WE D) : WE Rz := fun Γ P => wa Γ fun d Γ1 => wb Γ1 fun e Γ2 => s1 d e fun z => match z with
  | .v (.dat (.bool k)) => if k = true then wc Γ2 fun f Γ3 => s2 e f fun z => P z Γ3 else P (.v (.dat (.bool false))) Γ2
  | _ => False
theorem tChain_of {r r' : R2} {sem sem' : Sem2} (hp : Pure2 X.K r sem) (hp' : Pure2 X.K r' sem') {wa wb wc : WE D} {σ : L2.St} {H : Hp} {Q : VK} (h : lift X.K G (RzR X.K G) (wChain sem sem' wa wb wc) σ H Q) :
    tChain r r' (lift X.K G (fun _ Z _ H d v => BR X.K G.PN Z H v d) wa) (lift X.K G (fun _ Z _ H d v => BR X.K G.PN Z H v d) wb) (lift X.K G (fun _ Z _ H d v => BR X.K G.PN Z H v d) wc) σ H Q := by
  obtain ⟨Γ, Z, O, P, R, w, k⟩ := h
  refine ⟨Γ, Z, O, _, R, w, fun d Γ1 x Z1 O1 H1 p1 R1 S1 b1 => ⟨Γ1, Z1, O1, _, R1, p1, fun e Γ2 y Z2 O2 H2 p2 R2 S2 b2 => ?_⟩⟩
  refine hp G.PN Z2 H2 x y d e _ _ R2.ctx (b1.grow S2.zZ S2.hH) b2 p2 fun z v Z' H' pz g rz => ?_
  have R3 := R2.grow g
  have S3 : Step G.PN Z O H Z' O2 H' := (S1.trans S2).trans g.step
  cases z with
  | v r =>
    cases r with
    | pen => exact pz.elim
    | dat d =>
      cases d with
      | bool c =>
        have : v = .bl c := by
          have b' : DR X.K Z' v (.bool c) := rz
          cases b'; rfl
        refine ⟨c, this, ?_⟩
        cases c with
        | false => exact k _ _ _ _ _ _ pz R3 S3 (.bl false)
        | true =>
          refine ⟨Γ2, Z', O2, _, R3, pz, fun f Γ3 u Z3 O3 H3 p3 R4 S4 b3 => ?_⟩
          have b2' : BR X.K G.PN Z3 H3 y e := (b2.grow g.zz fun a o h _ => g.hh a o h).grow S4.zZ S4.hH
          exact hp' G.PN Z3 H3 y u e f _ _ R4.ctx b2' b3 p3 fun z v Z5 H5 pz g5 rz => k _ _ _ _ _ _ pz (R4.grow g5) ((S3.trans S4).trans g5.step) (rz.up R4 (S3.trans S4).hN)
      | _ => exact pz.elim
  | _ => exact pz.elim
theorem az_chain {op op' : CmpOp} {r r' : R2} {s1 s2 : Sem2} {wa wb wc : WE D} (ho : OpR X (compareOp op) r) (hp : Pure2 X.K r s1) (ho' : OpR X (compareOp op') r') (hp' : Pure2 X.K r' s2) (ha : AB X G a wa) (hb : AB X G b wb) (hc : AB X G c wc) (hm : lastMarks [op, op'] [b, c] = false := by rfl) :
    AZ X G (.Compare a [op, op'] [b, c] pos) (wChain s1 s2 wa wb wc) := PEi (pe_chain ho ho' ha hb hc hm) fun _ _ _ h => tChain_of hp hp' h
theorem at_chain {op op' : CmpOp} {r r' : R2} {s1 s2 : Sem2} {wa wb wc : WE D} (ho : OpR X (compareOp op) r) (hp : Pure2 X.K r s1) (ho' : OpR X (compareOp op') r') (hp' : Pure2 X.K r' s2) (ha : AB X G a wa) (hb : AB X G b wb) (hc : AB X G c wc) (hm : lastMarks [op, op'] [b, c] = false := by rfl) :
    AT X G (.Compare a [op, op'] [b, c] pos) (wBool (wChain s1 s2 wa wb wc)) := PTi (pt_chain ho ho' ha hb hc hm) fun _ _ _ h => tChain_of hp hp' (bool_of h)

/-! ### built-ins by name -/
def wN (sem : SemN) (ws : WE (List D)) : WE Rz := fun Γ P => ws Γ fun ds Γ1 => sem ds fun z => P z Γ1
theorem tCB_of {r : List V → Hp → VK → Prop} {sem : SemN} (hp : PureN X.K r sem) {ws : WE (List D)} {σ : L2.St} {H : Hp} {Q : VK} (h : lift X.K G (RzR X.K G) (wN sem ws) σ H Q) :
    tCB r (lift X.K G (fun _ Z _ H ds (vs : List V) => BRs X.K G.PN Z H vs ds) ws) σ H Q := by
  obtain ⟨Γ, Z, O, P, R, w, k⟩ := h
  exact ⟨Γ, Z, O, _, R, w, fun d Γ1 x Z1 O1 H1 p1 R1 S1 b1 => hp G.PN Z1 H1 x d _ _ R1.ctx b1 p1 fun z v Z' H' pz g rz => k _ _ _ _ _ _ pz (R1.grow g) (S1.trans g.step) (rz.up R1 S1.hN)⟩
theorem az_callB {x : Str} {p : Pos} {id : String} {r : List V → Hp → VK → Prop} {sem : SemN} {ws : WE (List D)} (hc : CallR X (.builtin id) r) (hp : PureN X.K r sem) (hg : Gl X x) (hm : X.mg x = none) (hv : bootBuiltins x = some (.builtin id)) (h : ABs X G (e :: es) ws)
    (hn : x ≠ "__name__" := by decide) (hdb : (x == ("__debug__" : Str)) = false := by decide) (he : starEach (e :: es) X.env = (false, eval e X.env) :: starEach es X.env := by rfl) (hpl : (backTo pos (starEach es X.env)).any (·.1) = false := by rfl) :
    AZ X G (.Call (.Name x p) (e :: es) [] pos) (wN sem ws) := PEi (pe_callB hc hg hm hv h hn hdb he hpl) fun _ _ _ h => tCB_of hp h
theorem az_callTy {x : Str} {p : Pos} {T : String} {r : List V → Hp → VK → Prop} {sem : SemN} {ws : WE (List D)} (hc : CallR X (.type T) r) (hp : PureN X.K r sem) (hg : Gl X x) (hm : X.mg x = none) (hv : bootBuiltins x = some (.type T)) (h : ABs X G (e :: es) ws)
    (hn : x ≠ "__name__" := by decide) (hdb : (x == ("__debug__" : Str)) = false := by decide) (he : starEach (e :: es) X.env = (false, eval e X.env) :: starEach es X.env := by rfl) (hpl : (backTo pos (starEach es X.env)).any (·.1) = false := by rfl) :
    AZ X G (.Call (.Name x p) (e :: es) [] pos) (wN sem ws) := PEi (pe_callTy hc hg hm hv h hn hdb he hpl) fun _ _ _ h => tCB_of hp h
end
end VL
namespace VL
open PySem PySem.Spec PyProof.Rows L2
section
variable {X : Cx} {G : Gh} {e a b c : Expr} {es rest : List Expr} {pos : Pos}
/-! ### and, or, not, if-else -/
def wAndT (wa wb : WE Bool) : WE Bool := fun Γ P => wa Γ fun k Γ1 => if k = true then wb Γ1 P else P false Γ1
def wOrT (wa wb : WE Bool) : WE Bool := fun Γ P => wa Γ fun k Γ1 => if k = true then P true Γ1 else wb Γ1 P
def wNotT (wa : WE Bool) : WE Bool := fun Γ P => wa Γ fun k Γ1 => P (!k) Γ1
theorem lift_imp {ρ υ : Type} {K : Fg} {RR : Hp → Hp → Ow → Hp → ρ → υ → Prop} {w w' : WE ρ} {σ : L2.St} {H : Hp} {Q : υ → Hp → Prop} (h : lift K G RR w σ H Q) (i : ∀ Γ P, w Γ P → w' Γ P) : lift K G RR w' σ H Q := by
  obtain ⟨Γ, Z, O, P, R, q, k⟩ := h
  exact ⟨Γ, Z, O, P, R, i _ _ q, k⟩
theorem at_not {wa : WE Bool} (h : AT X G a wa) : AT X G (.UnaryOp .Not a pos) (wNotT wa) := PTi (pt_not h) fun σ H Q ⟨Γ, Z, O, P, R, q, k⟩ =>
  ⟨Γ, Z, O, _, R, q, fun r Γ1 v Z1 O1 H1 p1 R1 S1 b1 => k _ _ _ _ _ _ p1 R1 S1 (by rw [b1])⟩
theorem aw_and1 {wa : WE Bool} (h : AT X G a wa) : AW X G (.BoolOp .And [a] pos) wa := pw_and1 h
theorem aw_or1 {wa : WE Bool} (h : AT X G a wa) : AW X G (.BoolOp .Or [a] pos) wa := pw_or1 h
theorem tAnd_of {wa wb : WE Bool} {σ : L2.St} {H : Hp} {Q : Bool → Hp → Prop} (h : lift X.K G (fun _ _ _ _ (a b : Bool) => a = b) (wAndT wa wb) σ H Q) :
    tAnd (lift X.K G (fun _ _ _ _ (a b : Bool) => a = b) wa) (lift X.K G (fun _ _ _ _ (a b : Bool) => a = b) wb) σ H Q := by
  obtain ⟨Γ, Z, O, P, R, q, k⟩ := h
  refine ⟨Γ, Z, O, _, R, q, fun r Γ1 v Z1 O1 H1 p1 R1 S1 b1 => ?_⟩
  subst b1
  cases r with
  | false => exact iteF (k _ _ _ _ _ _ p1 R1 S1 rfl)
  | true => exact iteT ⟨Γ1, Z1, O1, _, R1, p1, fun r Γ2 v Z2 O2 H2 p2 R2 S2 b2 => k _ _ _ _ _ _ p2 R2 (S1.trans S2) b2⟩
theorem tOr_of {wa wb : WE Bool} {σ : L2.St} {H : Hp} {Q : Bool → Hp → Prop} (h : lift X.K G (fun _ _ _ _ (a b : Bool) => a = b) (wOrT wa wb) σ H Q) :
    tOr (lift X.K G (fun _ _ _ _ (a b : Bool) => a = b) wa) (lift X.K G (fun _ _ _ _ (a b : Bool) => a = b) wb) σ H Q := by
  obtain ⟨Γ, Z, O, P, R, q, k⟩ := h
  refine ⟨Γ, Z, O, _, R, q, fun r Γ1 v Z1 O1 H1 p1 R1 S1 b1 => ?_⟩
  subst b1
  cases r with
  | true => exact iteT (k _ _ _ _ _ _ p1 R1 S1 rfl)
  | false => exact iteF ⟨Γ1, Z1, O1, _, R1, p1, fun r Γ2 v Z2 O2 H2 p2 R2 S2 b2 => k _ _ _ _ _ _ p2 R2 (S1.trans S2) b2⟩
theorem aw_and {wa wb : WE Bool} (ha : AT X G a wa) (hb : AW X G (.BoolOp .And (b :: rest) pos) wb) : AW X G (.BoolOp .And (a :: b :: rest) pos) (wAndT wa wb) := PWi (pw_and ha hb) fun _ _ _ h => tAnd_of h
theorem aw_or {wa wb : WE Bool} (ha : AT X G a wa) (hb : AW X G (.BoolOp .Or (b :: rest) pos) wb) : AW X G (.BoolOp .Or (a :: b :: rest) pos) (wOrT wa wb) := PWi (pw_or ha hb) fun _ _ _ h => tOr_of h
theorem AW.at {w : WE Bool} (h : AW X G e w) : AT X G e w := PW.pt h
/-- .. as values: all but the last are bools -/
def wAndV (wa : WE Rv) (wb : WE Rv) : WE Rv := fun Γ P => wa Γ fun r Γ1 => match r with
  | .dat (.bool k) => if k = true then wb Γ1 P else P (.dat (.bool false)) Γ1
  | _ => False
def wOrV (wa : WE Rv) (wb : WE Rv) : WE Rv := fun Γ P => wa Γ fun r Γ1 => match r with
  | .dat (.bool k) => if k = true then P (.dat (.bool true)) Γ1 else wb Γ1 P
  | _ => False
def wNotV (wa : WE Rv) : WE Rv := fun Γ P => wa Γ fun r Γ1 => match r with
  | .dat (.bool k) => P (.dat (.bool (!k))) Γ1
  | _ => False
theorem ae_one {op : BoolOp} {w : WE Rv} (h : AE X G a w) : AE X G (.BoolOp op [a] pos) w := pe_one h
theorem ae_and {wa wb : WE Rv} (ha : AE X G a wa) (hb : AE X G (.BoolOp .And (b :: rest) pos) wb) : AE X G (.BoolOp .And (a :: b :: rest) pos) (wAndV wa wb) := PEi (pe_and ha hb) fun σ H Q h => by
  obtain ⟨Γ, Z, O, P, R, q, k⟩ := h
  refine ⟨Γ, Z, O, _, R, q, fun r Γ1 v Z1 O1 H1 p1 R1 S1 b1 => ?_⟩
  cases r with
  | pen => exact p1.elim
  | dat d =>
    cases d with
    | bool c =>
      have : v = .bl c := by
        have b' : DR X.K Z1 v (.bool c) := b1
        cases b'; rfl
      refine ⟨c, this, ?_⟩
      cases c with
      | false => exact k _ _ _ _ _ _ p1 R1 S1 (.bl false)
      | true => exact ⟨Γ1, Z1, O1, _, R1, p1, fun r Γ2 v Z2 O2 H2 p2 R2 S2 b2 => k _ _ _ _ _ _ p2 R2 (S1.trans S2) b2⟩
    | _ => exact p1.elim
theorem ae_or {wa wb : WE Rv} (ha : AE X G a wa) (hb : AE X G (.BoolOp .Or (b :: rest) pos) wb) : AE X G (.BoolOp .Or (a :: b :: rest) pos) (wOrV wa wb) := PEi (pe_or ha hb) fun σ H Q h => by
  obtain ⟨Γ, Z, O, P, R, q, k⟩ := h
  refine ⟨Γ, Z, O, _, R, q, fun r Γ1 v Z1 O1 H1 p1 R1 S1 b1 => ?_⟩
  cases r with
  | pen => exact p1.elim
  | dat d =>
    cases d with
    | bool c =>
      have : v = .bl c := by
        have b' : DR X.K Z1 v (.bool c) := b1
        cases b'; rfl
      refine ⟨c, this, ?_⟩
      cases c with
      | true => exact k _ _ _ _ _ _ p1 R1 S1 (.bl true)
      | false => exact ⟨Γ1, Z1, O1, _, R1, p1, fun r Γ2 v Z2 O2 H2 p2 R2 S2 b2 => k _ _ _ _ _ _ p2 R2 (S1.trans S2) b2⟩
    | _ => exact p1.elim
theorem ae_not {wa : WE Rv} (ha : AE X G a wa) : AE X G (.UnaryOp .Not a pos) (wNotV wa) := PEi (pe_not ha) fun σ H Q h => by
  obtain ⟨Γ, Z, O, P, R, q, k⟩ := h
  refine ⟨Γ, Z, O, _, R, q, fun r Γ1 v Z1 O1 H1 p1 R1 S1 b1 => ?_⟩
  cases r with
  | pen => exact p1.elim
  | dat d =>
    cases d with
    | bool c =>
      have : v = .bl c := by
        have b' : DR X.K Z1 v (.bool c) := b1
        cases b'; rfl
      exact ⟨c, this, k _ _ _ _ _ _ p1 R1 S1 (.bl (!c))⟩
    | _ => exact p1.elim
def wIf {ρ : Type} (t : WE Bool) (wa wb : WE ρ) : WE ρ := fun Γ P => t Γ fun k Γ1 => if k = true then wa Γ1 P else wb Γ1 P
theorem ae_if {t : WE Bool} {wa wb : WE Rv} (hc : AT X G c t) (ha : AE X G a wa) (hb : AE X G b wb) : AE X G (.IfExp c a b pos) (wIf t wa wb) := PEi (pe_ifExp hc ha hb) fun σ H Q h => by
  obtain ⟨Γ, Z, O, P, R, q, k⟩ := h
  refine ⟨Γ, Z, O, _, R, q, fun r Γ1 v Z1 O1 H1 p1 R1 S1 b1 => ?_⟩
  subst b1
  cases r with
  | true => exact iteT ⟨Γ1, Z1, O1, _, R1, p1, fun r Γ2 v Z2 O2 H2 p2 R2 S2 b2 => k _ _ _ _ _ _ p2 R2 (S1.trans S2) b2⟩
  | false => exact iteF ⟨Γ1, Z1, O1, _, R1, p1, fun r Γ2 v Z2 O2 H2 p2 R2 S2 b2 => k _ _ _ _ _ _ p2 R2 (S1.trans S2) b2⟩
end

/-! ### statements -/
structure En where
  nx : Ga → Prop
  rt : Rv → Ga → Prop
  bk : Ga → Prop := fun _ => False
  ct : Ga → Prop := fun _ => False
abbrev WS := En → Ga → Prop
structure EnR (K : Fg) (G : Gh) (E : En) (T : Ends) : Prop where
  nx : ∀ Γ Z O σ H, E.nx Γ → Rel K G Γ Z O σ H → T.nx σ H
  rt : ∀ r Γ Z O σ H v, E.rt r Γ → Rel K G Γ Z O σ H → RvR K G.PN Z r v → T.rt v H
  bk : ∀ Γ Z O σ H, E.bk Γ → Rel K G Γ Z O σ H → T.bk σ H
  ct : ∀ Γ Z O σ H, E.ct Γ → Rel K G Γ Z O σ H → T.ct σ H
def liftS (K : Fg) (G : Gh) (w : WS) : TS := fun T σ H => ∃ Γ Z O E, Rel K G Γ Z O σ H ∧ w E Γ ∧ EnR K G E T
def AS (X : Cx) (G : Gh) (st : Stmt) (w : WS) : Prop := PS X st (liftS X.K G w)
def ASs (X : Cx) (G : Gh) (st : List Stmt) (w : WS) : Prop := PSs X st (liftS X.K G w)
section
variable {X : Cx} {G : Gh} {e a b c : Expr} {es : List Expr} {pos : Pos} {st : Stmt} {rest body : List Stmt}
def wNext : WS := fun E Γ => E.nx Γ
def wSeq (w u : WS) : WS := fun E Γ => w { E with nx := u E } Γ
theorem ass_nil : ASs X G [] wNext := PSsi pss_nil fun T σ H ⟨Γ, Z, O, E, R, w, k⟩ => k.nx _ _ _ _ _ w R
theorem ass_cons {w u : WS} (h : AS X G st w) (hr : ASs X G rest u) : ASs X G (st :: rest) (wSeq w u) :=
  PSsi (pss_cons h hr) fun T σ H ⟨Γ, Z, O, E, R, w, k⟩ => ⟨Γ, Z, O, _, R, w, ⟨fun Γ Z O σ H q R => ⟨Γ, Z, O, E, R, q, k⟩, k.rt, k.bk, k.ct⟩⟩
theorem ass_one {w : WS} (h : AS X G st w) : ASs X G [st] w := pss_one h
theorem as_never : AS X G st fun _ _ => False := PSi ps_never fun T σ H ⟨Γ, Z, O, E, R, w, k⟩ => w
theorem ass_never : ASs X G rest fun _ _ => False := PSsi pss_never fun T σ H ⟨Γ, Z, O, E, R, w, k⟩ => w
theorem as_pass : AS X G (.Pass pos) wNext := PSi ps_pass fun T σ H ⟨Γ, Z, O, E, R, w, k⟩ => k.nx _ _ _ _ _ w R
theorem as_break : AS X G (.Break pos) (fun E Γ => E.bk Γ) := PSi ps_break fun T σ H ⟨Γ, Z, O, E, R, w, k⟩ => k.bk _ _ _ _ _ w R
theorem as_continue : AS X G (.Continue pos) (fun E Γ => E.ct Γ) := PSi ps_continue fun T σ H ⟨Γ, Z, O, E, R, w, k⟩ => k.ct _ _ _ _ _ w R
def wRet (w : WE Rv) : WS := fun E Γ => w Γ E.rt
theorem as_ret {w : WE Rv} (h : AE X G e w) : AS X G (.Return (some e) pos) (wRet w) := PSi (ps_ret h) fun T σ H ⟨Γ, Z, O, E, R, w, k⟩ => ⟨Γ, Z, O, _, R, w, fun r Γ1 v Z1 O1 H1 p1 R1 S1 b1 => k.rt _ _ _ _ _ _ _ p1 R1 b1⟩
theorem as_retN : AS X G (.Return none pos) (fun E Γ => E.rt (.dat .none) Γ) := PSi ps_retN fun T σ H ⟨Γ, Z, O, E, R, w, k⟩ => k.rt _ _ _ _ _ _ _ w R .non
def wDrop (w : WE Rv) : WS := fun E Γ => w Γ fun _ Γ1 => E.nx Γ1
theorem as_expr {w : WE Rv} (h : AE X G e w) (hs : swapsWith e none pos.line X.env = pure false := by rfl) : AS X G (.Expr e pos) (wDrop w) :=
  PSi (ps_expr h hs) fun T σ H ⟨Γ, Z, O, E, R, w, k⟩ => ⟨Γ, Z, O, _, R, w, fun r Γ1 v Z1 O1 H1 p1 R1 S1 b1 => k.nx _ _ _ _ _ p1 R1⟩
def wIfS (t : WE Bool) (wa wb : WS) : WS := fun E Γ => t Γ fun k Γ1 => if k = true then wa E Γ1 else wb E Γ1
theorem as_if {sa sb : List Stmt} {t : WE Bool} {wa wb : WS} (hc : AT X G c t) (ha : ASs X G sa wa) (hb : ASs X G sb wb) : AS X G (.If c sa sb pos) (wIfS t wa wb) :=
  PSi (ps_if hc ha hb) fun T σ H ⟨Γ, Z, O, E, R, w, k⟩ => ⟨Γ, Z, O, _, R, w, fun r Γ1 v Z1 O1 H1 p1 R1 S1 b1 => by
    subst b1
    cases r with
    | true => exact iteT ⟨Γ1, Z1, O1, E, R1, p1, k⟩
    | false => exact iteF ⟨Γ1, Z1, O1, E, R1, p1, k⟩⟩
def wSet (i : Nat) (w : WE Rv) : WS := fun E Γ => w Γ fun r Γ1 => E.nx (Γ1.set i (.rv r))
theorem as_set (i : Nat) {x : Str} {w : WE Rv} {pos' : Pos} (hN : X.N.Nodup) (h : AE X G e w) (hi : X.N[i]? = some x := by rfl) (hx : Loc X.env.scope x := by first | exact Or.inl rfl | exact Or.inr rfl) (hs : swapsWith e (some (.Name x pos')) pos.line X.env = pure false := by rfl)
    (hf : X.fn x = true ∨ X.env.scope.names.lookup x = some .local := by first | exact .inl rfl | exact .inr rfl | assumption) : AS X G (.Assign [.Name x pos'] e pos) (wSet i w) :=
  PSi (ps_set hN hi hx h hs hf) fun T σ H ⟨Γ, Z, O, E, R, w, k⟩ => ⟨Γ, Z, O, _, R, w, fun r Γ1 v Z1 O1 H1 p1 R1 S1 b1 => k.nx _ _ _ _ _ p1 (R1.setRv i b1)⟩
/-- what a new object becomes in a slot -/
def Rz.sl : Rz → Sl
  | .v r => .rv r
  | .ls ds => .lst ds
  | .ls2 dss => .lst2 dss
  | .dk kvs => .dk kvs
  | .dt kvs => .dt kvs
theorem Rel.setZ {K : Fg} {Γ : Ga} {Hs Z H : Hp} {O : Ow} {σ : L2.St} (R : Rel K G Γ Z O σ H) (hs : ∀ a, Hs a = none → G.H0 a = none ∧ ¬ G.PN a) (i : Nat) {z : Rz} {v : V} (h : RzR K G Hs Z O H z v) : ∃ O', Rel K G (Γ.set i z.sl) Z O' (σ.set i (some v)) H := by
  cases z with
  | v r => exact ⟨_, R.setRv i h⟩
  | ls2 _ => exact h.elim
  | ls ds =>
    obtain ⟨a, vs, rfl, ⟨f1, f2, f3⟩, h1, h2⟩ := h
    exact ⟨_, R.setOwn i f2 f3 (hs a f1).1 (by rw [h1]; simp) (hs a f1).2 ⟨a, vs, rfl, ownO_self, h1, h2⟩⟩
  | dk ds =>
    obtain ⟨a, vs, rfl, ⟨f1, f2, f3⟩, h1, h2⟩ := h
    exact ⟨_, R.setOwn i f2 f3 (hs a f1).1 (by rw [h1]; simp) (hs a f1).2 ⟨a, vs, rfl, ownO_self, h1, h2⟩⟩
  | dt ds =>
    obtain ⟨a, vs, rfl, ⟨f1, f2, f3⟩, h1, h2⟩ := h
    exact ⟨_, R.setOwn i f2 f3 (hs a f1).1 (by rw [h1]; simp) (hs a f1).2 ⟨a, vs, rfl, ownO_self, h1, h2⟩⟩
def wSetZ (i : Nat) (w : WE Rz) : WS := fun E Γ => w Γ fun z Γ1 => E.nx (Γ1.set i z.sl)
theorem as_setZ (i : Nat) {x : Str} {w : WE Rz} {pos' : Pos} (hN : X.N.Nodup) (h : AZ X G e w) (hi : X.N[i]? = some x := by rfl) (hx : Loc X.env.scope x := by first | exact Or.inl rfl | exact Or.inr rfl) (hs : swapsWith e (some (.Name x pos')) pos.line X.env = pure false := by rfl)
    (hf : X.fn x = true ∨ X.env.scope.names.lookup x = some .local := by first | exact .inl rfl | exact .inr rfl | assumption) : AS X G (.Assign [.Name x pos'] e pos) (wSetZ i w) :=
  PSi (ps_set hN hi hx h hs hf) fun T σ H ⟨Γ, Z, O, E, R, w, k⟩ => ⟨Γ, Z, O, _, R, w, fun r Γ1 v Z1 O1 H1 p1 R1 S1 b1 => by
    obtain ⟨O', R'⟩ := R1.setZ (fun a h => ⟨R.H0free h, R.pfree h⟩) i b1
    exact k.nx _ _ _ _ _ p1 R'⟩
/-- a, b = x, y -/
theorem Step.rz {K : Fg} {Γ Γ' : Ga} {Hs Z H Z' H' : Hp} {O O' : Ow} {σ : L2.St} (R : Rel K G Γ Z O σ H) (R' : Rel K G Γ' Z' O' σ H') (S : Step G.PN Z O H Z' O' H') (hs : ∀ a, Hs a = none → G.H0 a = none ∧ ¬ G.PN a) {z : Rz} {v : V} (h : RzR K G Hs Z O H z v) : RzR K G Hs Z' O' H' z v := by
  have fr : ∀ a o, Fresh G Hs Z O a → H a = some o → Fresh G Hs Z' O' a := fun a o ⟨f1, f2, f3⟩ q => by
    refine ⟨f1, ?_, ?_⟩
    · cases e : Z' a with
      | none => rfl
      | some u =>
        rcases S.zN a (by rw [e]; simp) with r | r | r
        · exact absurd f2 r
        · rw [q] at r; cases r
        · exact absurd f3 r
    · cases e : O' a with
      | none => rfl
      | some j => rw [S.oO a j e] at f3; cases f3
  cases z with
  | v r => exact h.mono S.zZ
  | ls2 _ => exact h
  | ls ds =>
    obtain ⟨a, vs, rfl, f, h1, h2⟩ := h
    exact ⟨a, vs, rfl, fr a _ f h1, S.hH _ _ h1 (hs a f.1).2, h2.mono S.zZ⟩
  | dk ds =>
    obtain ⟨a, vs, rfl, f, h1, h2⟩ := h
    exact ⟨a, vs, rfl, fr a _ f h1, S.hH _ _ h1 (hs a f.1).2, h2.mono S.zZ⟩
  | dt ds =>
    obtain ⟨a, vs, rfl, f, h1, h2⟩ := h
    exact ⟨a, vs, rfl, fr a _ f h1, S.hH _ _ h1 (hs a f.1).2, h2.mono S.zZ⟩
/-- a new object that was made later than another one stands apart from it -/
theorem ownO_no {O : Ow} {i : Nat} {a b : Addr} (h : O b = none) (n : b ≠ a) : ownO O i a b = none := by
  unfold ownO dropO
  rw [if_neg n]
  split <;> first | rfl | exact h
theorem dropO_no {O : Ow} {i : Nat} {b : Addr} (h : O b = none) : dropO O i b = none := by
  unfold dropO
  split <;> first | rfl | exact h
theorem Rel.setZ2 {K : Fg} {Γ : Ga} {Hs H1 Z H : Hp} {O : Ow} {σ : L2.St} (R : Rel K G Γ Z O σ H) (hs : ∀ a, Hs a = none → G.H0 a = none ∧ ¬ G.PN a) (hs1 : ∀ a, H1 a = none → G.H0 a = none ∧ ¬ G.PN a) (i j : Nat) {z y : Rz} {v u : V}
    (h : RzR K G Hs Z O H z v) (h' : RzR K G H1 Z O H y u) (apart : ∀ a, v = .ref a → H1 a ≠ none ∨ ∃ r, z = .v r) : ∃ O', Rel K G ((Γ.set i z.sl).set j y.sl) Z O' ((σ.set i (some v)).set j (some u)) H := by
  have key : ∃ O1, Rel K G (Γ.set i z.sl) Z O1 (σ.set i (some v)) H ∧ ∀ b, O b = none → H1 b = none → O1 b = none := by
    cases z with
    | v r => exact ⟨_, R.setRv i h, fun b q _ => dropO_no q⟩
    | ls2 _ => exact h.elim
    | ls ds =>
      obtain ⟨a, vs, rfl, ⟨f1, f2, f3⟩, h1, h2⟩ := h
      refine ⟨_, R.setOwn i f2 f3 (hs a f1).1 (by rw [h1]; simp) (hs a f1).2 ⟨a, vs, rfl, ownO_self, h1, h2⟩, fun b q q1 => ownO_no q ?_⟩
      rintro rfl
      rcases apart b rfl with z | ⟨_, z⟩
      · exact z q1
      · cases z
    | dk ds =>
      obtain ⟨a, vs, rfl, ⟨f1, f2, f3⟩, h1, h2⟩ := h
      refine ⟨_, R.setOwn i f2 f3 (hs a f1).1 (by rw [h1]; simp) (hs a f1).2 ⟨a, vs, rfl, ownO_self, h1, h2⟩, fun b q q1 => ownO_no q ?_⟩
      rintro rfl
      rcases apart b rfl with z | ⟨_, z⟩
      · exact z q1
      · cases z
    | dt ds =>
      obtain ⟨a, vs, rfl, ⟨f1, f2, f3⟩, h1, h2⟩ := h
      refine ⟨_, R.setOwn i f2 f3 (hs a f1).1 (by rw [h1]; simp) (hs a f1).2 ⟨a, vs, rfl, ownO_self, h1, h2⟩, fun b q q1 => ownO_no q ?_⟩
      rintro rfl
      rcases apart b rfl with z | ⟨_, z⟩
      · exact z q1
      · cases z
  obtain ⟨O1, R1, fr⟩ := key
  have h2 : RzR K G H1 Z O1 H y u := by
    cases y with
    | v r => exact h'
    | ls2 _ => exact h'
    | ls ds => obtain ⟨a, vs, e, ⟨f1, f2, f3⟩, q⟩ := h'; exact ⟨a, vs, e, ⟨f1, f2, fr a f3 f1⟩, q⟩
    | dk ds => obtain ⟨a, vs, e, ⟨f1, f2, f3⟩, q⟩ := h'; exact ⟨a, vs, e, ⟨f1, f2, fr a f3 f1⟩, q⟩
    | dt ds => obtain ⟨a, vs, e, ⟨f1, f2, f3⟩, q⟩ := h'; exact ⟨a, vs, e, ⟨f1, f2, fr a f3 f1⟩, q⟩
  exact R1.setZ hs1 j h2
def wPar (i j : Nat) (wa wb : WE Rz) : WS := fun E Γ => wa Γ fun z Γ1 => wb Γ1 fun y Γ2 => E.nx ((Γ2.set i z.sl).set j y.sl)
theorem RzR.apart {K : Fg} {Hs Z H : Hp} {O : Ow} {z : Rz} {v : V} (h : RzR K G Hs Z O H z v) : ∀ a, v = .ref a → H a ≠ none ∨ ∃ r, z = .v r := fun a e => by
  cases z with
  | v r => exact .inr ⟨r, rfl⟩
  | ls2 _ => exact h.elim
  | ls ds => obtain ⟨b, vs, e', _, q, _⟩ := h; cases e.symm.trans e'; exact .inl (by rw [q]; simp)
  | dk ds => obtain ⟨b, vs, e', _, q, _⟩ := h; cases e.symm.trans e'; exact .inl (by rw [q]; simp)
  | dt ds => obtain ⟨b, vs, e', _, q, _⟩ := h; cases e.symm.trans e'; exact .inl (by rw [q]; simp)
theorem as_par (i j : Nat) {x y : Str} {wa wb : WE Rz} {px py pt : Pos} {kt k2 pt2} (hN : X.N.Nodup) (ha : AZ X G a wa) (hb : AZ X G b wb) (hc : X.calm = true := by rfl) (hi : X.N[i]? = some x := by rfl) (hj : X.N[j]? = some y := by rfl) (hij : i ≠ j := by decide)
    (hx : X.env.scope.names.lookup x = some .local := by rfl) (hy : X.env.scope.names.lookup y = some .local := by rfl)
    (hw : swappedStores [.Tuple [.Name x px, .Name y py] kt pt] (.Tuple [a, b] k2 pt2) X.env = pure (some [x, y]) := by rfl)
    (hs : swapsWithSole [.Tuple [.Name x px, .Name y py] kt pt] (.Tuple [a, b] k2 pt2) pos.line X.env = pure false := by rfl)
    (hq : starEach [a, b] X.env = (false, eval a X.env) :: starEach [b] X.env := by rfl) (hq2 : starEach [b] X.env = (false, eval b X.env) :: starEach [] X.env := by rfl) :
    AS X G (.Assign [.Tuple [.Name x px, .Name y py] kt pt] (.Tuple [a, b] k2 pt2) pos) (wPar i j wa wb) :=
  PSi (ps_par hc hN hi hj hij hx hy (pa_cons ha (pa_cons hb pa_nil hq2) hq) hw hs) fun T σ H ⟨Γ, Z, O, E, R, w, k⟩ => ⟨Γ, Z, O, _, R, w, fun z Γ1 v Z1 O1 H1 p1 R1 S1 b1 => ⟨Γ1, Z1, O1, _, R1, p1, fun y Γ2 u Z2 O2 H2 p2 R2 S2 b2 => by
    have b1' := S2.rz R1 R2 (fun a h => ⟨R.H0free h, R.pfree h⟩) b1
    obtain ⟨O', R'⟩ := R2.setZ2 (fun a h => ⟨R.H0free h, R.pfree h⟩) (fun a h => ⟨R1.H0free h, R1.pfree h⟩) i j b1' b2 b1.apart
    exact ⟨_, _, rfl, k.nx _ _ _ _ _ p2 R'⟩⟩⟩
end

/-! ### targets -/
abbrev WG := D → Ga → (Ga → Prop) → Prop
abbrev WGs := List D → Ga → (Ga → Prop) → Prop
def wipeG (Γ : Ga) : List Nat → Ga
  | [] => Γ
  | v :: vs => (wipeG Γ vs).set v .no
def liftG (K : Fg) (G : Gh) (vs : List Nat) (w : WG) : TG := fun v σ H Q => ∃ Γ Z O d P, Rel K G Γ Z O σ H ∧ DR K Z v d ∧ w d Γ P ∧ ∀ Γ' O' σ', P Γ' → Rel K G Γ' Z O' σ' H → (∀ us, (∀ i ∈ vs, i ∈ us) → wipe σ' us = wipe σ us) → (∀ a j, O' a = some j → O a = some j) → Q σ' H
def liftGs (K : Fg) (G : Gh) (vs : List Nat) (w : WGs) : TGs := fun v σ H Q => ∃ Γ Z O d P, Rel K G Γ Z O σ H ∧ DRs K Z v d ∧ w d Γ P ∧ ∀ Γ' O' σ', P Γ' → Rel K G Γ' Z O' σ' H → (∀ us, (∀ i ∈ vs, i ∈ us) → wipe σ' us = wipe σ us) → (∀ a j, O' a = some j → O a = some j) → Q σ' H
def AG (X : Cx) (G : Gh) (tg : Expr) (vs : List Nat) (w : WG) : Prop := PG X tg (liftG X.K G vs w)
def AGs (X : Cx) (G : Gh) (tg : List Expr) (vs : List Nat) (w : WGs) : Prop := PGs X tg (liftGs X.K G vs w)
section
variable {X : Cx} {G : Gh} {e a b c : Expr} {es : List Expr} {pos : Pos} {vs us : List Nat}
theorem PGi {t t' : TG} (h : PG X e t) (i : ∀ v σ H Q, t' v σ H Q → t v σ H Q) : PG X e t' := ⟨fun pins s σ H v u Q I r q => h.run pins s σ H v u Q I r (i v σ H Q q)⟩
theorem PGsi {t t' : TGs} (h : PGs X es t) (i : ∀ v σ H Q, t' v σ H Q → t v σ H Q) : PGs X es t' := ⟨fun pins s σ H v u Q I r q => h.run pins s σ H v u Q I r (i v σ H Q q)⟩
theorem wipe_set {σ : L2.St} {i : Nat} {x : Option V} : ∀ {us : List Nat}, i ∈ us → wipe (σ.set i x) us = wipe σ us
  | u :: us, h => by
    unfold wipe
    by_cases q : i ∈ us
    · rw [wipe_set q]
    · have : i = u := by
        rcases List.mem_cons.mp h with e | e
        · exact e
        · exact absurd e q
      subst this
      have key : ∀ us : List Nat, wipe (σ.set i x) us = wipe σ us ∨ wipe (σ.set i x) us = (wipe σ us).set i x := fun us => by
        induction us with
        | nil => exact .inr rfl
        | cons u us ih =>
          unfold wipe
          rcases ih with e | e
          · rw [e]; exact .inl rfl
          · rw [e]
            by_cases hu : u = i
            · subst hu; rw [List.set_set]; exact .inl rfl
            · rw [List.set_comm _ _ (Ne.symm hu)]; exact .inr rfl
      rcases key us with e | e
      · rw [e]
      · rw [e, List.set_set]
def gSet (i : Nat) : WG := fun d Γ P => P (Γ.set i (.rv (.dat d)))
theorem ag_name (i : Nat) {x : Str} (hN : X.N.Nodup) (hi : X.N[i]? = some x := by rfl) (hx : Loc X.env.scope x := by first | exact Or.inl rfl | exact Or.inr rfl) (hf : X.fn x = true ∨ X.env.scope.names.lookup x = some .local := by first | exact .inl rfl | exact .inr rfl | assumption) :
    AG X G (.Name x pos) [i] (gSet i) := PGi (pg_name hN hi hx hf) fun v σ H Q ⟨Γ, Z, O, d, P, R, r, w, k⟩ => k _ _ _ w (R.setRv i r) (fun us h => wipe_set (h i (by simp))) fun a j h => (dropO_some h).1
def gsNil : WGs := fun ds Γ P => match ds with
  | [] => P Γ
  | _ => False
def gsCons (w : WG) (u : WGs) : WGs := fun ds Γ P => match ds with
  | d :: r => w d Γ fun Γ' => u r Γ' P
  | [] => False
theorem ags_nil : AGs X G [] [] gsNil := PGsi pgs_nil fun v σ H Q ⟨Γ, Z, O, d, P, R, r, w, k⟩ => by
  cases r with
  | nil => exact ⟨rfl, k _ _ _ w R (fun us _ => rfl) fun _ _ h => h⟩
  | cons _ _ => exact w.elim
theorem ags_cons {w : WG} {u : WGs} (h : AG X G e vs w) (hr : AGs X G es us u) (hs : (assignEach (e :: es) X.env).map (·.2) = assign e X.env :: (assignEach es X.env).map (·.2) := by rfl) : AGs X G (e :: es) (vs ++ us) (gsCons w u) :=
  PGsi (pgs_cons h hr hs) fun v σ H Q ⟨Γ, Z, O, d, P, R, r, w, k⟩ => by
    cases r with
    | nil => exact w.elim
    | cons r1 r2 =>
      exact ⟨_, _, rfl, Γ, Z, O, _, _, R, r1, w, fun Γ1 O1 σ1 p1 R1 z1 o1 => ⟨Γ1, Z, O1, _, _, R1, r2, p1, fun Γ2 O2 σ2 p2 R2 z2 o2 => k _ _ _ p2 R2 (fun us h => by
        rw [z2 us fun i hi => h i (List.mem_append_right _ hi), z1 us fun i hi => h i (List.mem_append_left _ hi)]) fun a j h => o1 a j (o2 a j h)⟩⟩
def gTupV (n : Nat) (u : WGs) : WG := fun d Γ P => match d with
  | .tuple ds => ds.length = n ∧ u ds Γ P
  | _ => False
theorem ag_tup {k n : Nat} {u : WGs} (h : AGs X G es vs u) (hc : X.calm = true := by rfl) (hn : (assignEach es X.env).length = n := by rfl) (hst : (assignEach es X.env).findIdx? (·.1) = none := by rfl) : AG X G (.Tuple es k pos) vs (gTupV n u) :=
  PGi (pg_tup hc h hn hst) fun v σ H Q ⟨Γ, Z, O, d, P, R, r, w, k⟩ => by
    cases r with
    | tup q t => exact ⟨_, _, rfl, R.sub.sqT q, by rw [t.length]; exact w.1, Γ, Z, O, _, P, R, t, w.2, k⟩
    | _ => exact w.elim
/-- target = e, the target several names or one -/
def wAsg (w : WE Rv) (g : WG) : WS := fun E Γ => w Γ fun r Γ1 => match r with
  | .dat d => g d Γ1 E.nx
  | .pen => False
theorem as_asg {w : WE Rv} {g : WG} (h : AE X G e w) (hg : AG X G a vs g) (hs : swapsWithSole [a] e pos.line X.env = pure false := by rfl) (hw : swappedStores [a] e X.env = pure none := by rfl)
    (h1 : (assignEach [a] X.env).map (·.2) = [assign a X.env] := by rfl) : AS X G (.Assign [a] e pos) (wAsg w g) :=
  PSi (ps_asg h hg hs hw h1) fun T σ H ⟨Γ, Z, O, E, R, w, k⟩ => ⟨Γ, Z, O, _, R, w, fun r Γ1 v Z1 O1 H1 p1 R1 S1 b1 => by
    cases r with
    | pen => exact p1.elim
    | dat d => exact ⟨Γ1, Z1, O1, d, _, R1, b1, p1, fun Γ' O' σ' p' R' _ _ => k.nx _ _ _ _ _ p' R'⟩⟩
end

/-! ### what is walked -/
/-- J gives the items, while Z stands -/
def WalkD (K : Fg) (PN : Addr → Prop) (Z : Hp) (J : It) (items : List D) : Prop := ∃ (Gp : Hp → Prop) (Y : Nat → Hp → V → Hp → Prop), Walk J items.length Gp Y ∧ items.length ≤ sizeLine ∧ (∀ H, Sub Z H → Gp H) ∧
  ∀ i H x H' Zc, Sub Z Zc → Ctx PN Zc H → Y i H x H' → ∃ d Z', items[i]? = some d ∧ Grow Zc H Z' H' ∧ DR K Z' x d
def liftI (K : Fg) (G : Gh) (w : WE (List D)) : TI := fun σ H R => ∃ Γ Z O P, Rel K G Γ Z O σ H ∧ w Γ P ∧ ∀ items Γ' J Z' O' H', P items Γ' → Rel K G Γ' Z' O' σ H' → Step G.PN Z O H Z' O' H' → WalkD K G.PN Z' J items → R J H'
def AI (X : Cx) (G : Gh) (tg iter : Expr) (w : WE (List D)) : Prop := PI X tg iter (liftI X.K G w)
/-! ### for -/
def forW (g : WG) (wb : WS) (E : En) : List D → Ga → Prop
  | [], Γ => E.nx Γ
  | d :: r, Γ => g d Γ fun Γ' => wb { E with nx := forW g wb E r, ct := forW g wb E r, bk := E.nx } Γ'
def wFor (wi : WE (List D)) (g : WG) (wb : WS) : WS := fun E Γ => wi Γ fun items Γ1 => forW g wb E items Γ1
section
variable {X : Cx} {G : Gh} {tg iter : Expr} {body : List Stmt} {pos : Pos} {vs : List Nat}
abbrev Gh.wb (G : Gh) (Zb : Hp) : Gh := { G with Zb := Zb }
theorem Rel.wb {K : Fg} {Γ : Ga} {Z H : Hp} {O : Ow} {σ : L2.St} (R : Rel K G Γ Z O σ H) {Zb : Hp} (s : Sub Zb Z) : Rel K (G.wb Zb) Γ Z O σ H := ⟨R.len, R.sub, R.pen, R.own, R.sl, R.fH, R.fZ, s, R.fN⟩
theorem Rel.unwb {K : Fg} {Γ : Ga} {Z H Zb : Hp} {O : Ow} {σ : L2.St} (R : Rel K (G.wb Zb) Γ Z O σ H) (s : Sub G.Zb Zb) : Rel K G Γ Z O σ H := ⟨R.len, R.sub, R.pen, R.own, R.sl, R.fH, R.fZ, s.trans R.fB, R.fN⟩
theorem exG {tg : Expr} {ι : Type} {t : ι → TG} (h : ∀ i, PG X tg (t i)) : PG X tg (fun v σ H Q => ∃ i, t i v σ H Q) := ⟨fun pins s σ H v u Q I r ⟨i, q⟩ => (h i).run pins s σ H v u Q I r q⟩
theorem exE {e : Expr} {ι : Type} {t : ι → TE} (h : ∀ i, PE X e (t i)) : PE X e (fun σ H Q => ∃ i, t i σ H Q) := ⟨fun pins s σ H Q I ⟨i, q⟩ => (h i).run pins s σ H Q I q⟩
theorem exT {e : Expr} {ι : Type} {t : ι → TT} (h : ∀ i, PT X e (t i)) : PT X e (fun σ H Q => ∃ i, t i σ H Q) := ⟨fun pins s σ H Q I ⟨i, q⟩ => (h i).run pins s σ H Q I q⟩
theorem exI {tg e : Expr} {ι : Type} {t : ι → TI} (h : ∀ i, PI X tg e (t i)) : PI X tg e (fun σ H Q => ∃ i, t i σ H Q) := ⟨fun pins s σ H Q I ⟨i, q⟩ => (h i).run pins s σ H Q I q⟩
theorem exS {st : List Stmt} {ι : Type} {t : ι → TS} (h : ∀ i, PSs X st (t i)) : PSs X st (fun D σ H => ∃ i, t i D σ H) := ⟨fun pins s σ H D I ⟨i, q⟩ => (h i).run pins s σ H D I q⟩
theorem as_for {wi : WE (List D)} {g : WG} {wb : WS} (hp : PassesOwn (model X.prog X.w) X.A X.env X.xe) (hi : AI X G tg iter wi) (hg : ∀ Zb, AG X (G.wb Zb) tg vs g) (hb : ∀ Zb, ASs X (G.wb Zb) body wb) (hc : X.calm = true := by rfl) (hs : ∀ x, foldedSetIterable iter X.env x = pure x := by intro _; rfl) :
    AS X G (.For tg iter body [] pos) (wFor wi g wb) := PSi (ps_for hp hc hi (exG hg) (exS hb) hs) fun T σ H ⟨Γ, Z, O, E, R, w, k⟩ => by
  refine ⟨Γ, Z, O, _, R, w, fun items Γ1 J Z1 O1 H1 p1 R1 S1 ⟨Gp, Y, wk, hz, hG, hY⟩ => ?_⟩
  have sB : Sub G.Zb Z1 := R1.fB
  refine for_it (D := T) (g := fun v σ H Q => ∃ i, liftG X.K (G.wb i) vs g v σ H Q) (tb := fun D σ H => ∃ i, liftS X.K (G.wb i) wb D σ H) wk (fun i σ H => ∃ Γ Z O, Rel X.K (G.wb Z1) Γ Z O σ H ∧ forW g wb E (items.drop i) Γ) ⟨Γ1, Z1, O1, R1.wb Sub.refl, by simpa using p1⟩ (fun i σ H _ ⟨Γ, Z, O, R, _⟩ => hG H (R.fB.trans R.sub)) ?_ ?_
  · rintro i x σ H H' hi ⟨Γ, Z, O, R, q⟩ hy
    obtain ⟨d, Z', hd, gr, hr⟩ := hY i H x H' Z R.fB R.ctx hy
    have hdrop : items.drop i = d :: items.drop (i + 1) := by
      obtain ⟨h1, h2⟩ := List.getElem?_eq_some_iff.mp hd
      rw [← h2]; exact List.drop_eq_getElem_cons h1
    rw [hdrop] at q
    refine ⟨Z1, Γ, Z', O, d, _, R.grow gr, hr, q, fun Γ2 O2 σ2 p2 R2 _ _ => ?_⟩
    exact ⟨Z1, Γ2, Z', O2, _, R2, p2, ⟨fun Γ3 Z3 O3 σ3 H3 q3 R3 => ⟨Γ3, Z3, O3, R3, q3⟩, fun r Γ3 Z3 O3 σ3 H3 v q3 R3 => k.rt r Γ3 Z3 O3 σ3 H3 v q3 (R3.unwb sB), fun Γ3 Z3 O3 σ3 H3 q3 R3 => k.nx _ _ _ _ _ q3 (R3.unwb sB), fun Γ3 Z3 O3 σ3 H3 q3 R3 => ⟨Γ3, Z3, O3, R3, q3⟩⟩⟩
  · rintro σ H ⟨Γ, Z, O, R, q⟩
    rw [List.drop_length] at q
    exact k.nx _ _ _ _ _ q (R.unwb sB)

/-! ### while: by an invariant W and a measure -/
def wWhile (t : WE Bool) (wb : WS) : WS := fun E Γ => ∃ W : Nat → Ga → Prop, (∃ m, W m Γ) ∧ ∀ m Γ, W m Γ → t Γ fun k Γ1 => if k = true then ∃ N : Ga → Prop, (∀ Γ', N Γ' → ∃ m', m' < m ∧ W m' Γ') ∧ wb { E with nx := N, ct := N, bk := E.nx } Γ1 else E.nx Γ1
theorem as_while {c : Expr} {t : WE Bool} {wb : WS} (hp : PassesOwn (model X.prog X.w) X.A X.env X.xe) (hc : AT X G c t) (hb : ASs X G body wb) : AS X G (.While c body [] pos) (wWhile t wb) :=
  PSi (ps_while hp hc hb) fun T σ H ⟨Γ, Z, O, E, R, ⟨W, ⟨m0, w0⟩, turn⟩, k⟩ => by
    refine ⟨fun m σ H => ∃ Γ Z O, Rel X.K G Γ Z O σ H ∧ W m Γ, ⟨m0, Γ, Z, O, R, w0⟩, fun m σ H ⟨Γ, Z, O, R, w⟩ => ?_⟩
    refine ⟨Γ, Z, O, _, R, turn m Γ w, fun r Γ1 v Z1 O1 H1 p1 R1 S1 b1 => ?_⟩
    subst b1
    cases r with
    | false => exact iteF (k.nx _ _ _ _ _ p1 R1)
    | true =>
      obtain ⟨N, hN, p1⟩ := p1
      refine iteT ⟨fun σ H => ∃ Γ Z O, Rel X.K G Γ Z O σ H ∧ N Γ, fun σ' H' ⟨Γ, Z, O, R, w⟩ => ?_, Γ1, Z1, O1, _, R1, p1, ⟨fun Γ3 Z3 O3 σ3 H3 q3 R3 => ⟨Γ3, Z3, O3, R3, q3⟩, k.rt, fun Γ3 Z3 O3 σ3 H3 q3 R3 => k.nx _ _ _ _ _ q3 R3, fun Γ3 Z3 O3 σ3 H3 q3 R3 => ⟨Γ3, Z3, O3, R3, q3⟩⟩⟩
      obtain ⟨m', h1, h2⟩ := hN _ w
      exact ⟨m', h1, Γ, Z, O, R, h2⟩
end

/-! ### comprehensions -/
/-- tests of a comprehension -/
def ATs (X : Cx) (G : Gh) (ifs : List Expr) (w : WE Bool) : Prop := PTs X ifs (lift X.K G (fun _ _ _ _ (a b : Bool) => a = b) w)
def wYes : WE Bool := fun Γ P => P true Γ
/-- the elements, one after another; the block's own slots are forgotten behind each turn -/
def compW (vs : List Nat) (g : WG) (t : WE Bool) (w : WE Rv) : List D → List D → Ga → (List D → Ga → Prop) → Prop
  | [], acc, Γ, P => P acc Γ
  | d :: r, acc, Γ, P => g d Γ fun Γ1 => t Γ1 fun k Γ2 => if k = true then w Γ2 fun rv Γ3 => match rv with
      | .dat e => compW vs g t w r (acc ++ [e]) (wipeG Γ3 vs) P
      | .pen => False
    else compW vs g t w r acc (wipeG Γ2 vs) P
/-- slots that own nothing -/
def plainSl : Sl → Prop
  | .no => True
  | .rv _ => True
  | _ => False
def backG (Γ Γ0 : Ga) : List Nat → Ga
  | [] => Γ
  | v :: vs => (backG Γ Γ0 vs).set v (Γ0.at v)
def wComp (vs : List Nat) (wi : WE (List D)) (g : WG) (t : WE Bool) (w : WE Rv) : WE Rz := fun Γ P => (∀ v ∈ vs, plainSl (Γ.at v)) ∧ wi Γ fun items Γ1 => compW vs g t w items [] (wipeG Γ1 vs) fun acc Γ2 => P (.ls acc) (backG Γ2 Γ vs)
section
variable {X : Cx} {G : Gh} {tg iter elt : Expr} {ifs : List Expr} {pos : Pos} {vs : List Nat}
theorem ats_nil : ATs X G [] wYes := ⟨fun pins s σ H Q I ⟨Γ, Z, O, P, R, w, k⟩ => pts_nil.run pins s σ H Q I (k _ _ _ _ _ _ w R Step.refl rfl)⟩
theorem ats_one {c : Expr} {w : WE Bool} (h : AT X G c w) : ATs X G [c] w := pts_one h
theorem wipe_wipe {σ : L2.St} {us : List Nat} : wipe (wipe σ us) us = wipe σ us := by
  have key : ∀ ws : List Nat, (∀ i ∈ ws, i ∈ us) → wipe (wipe σ ws) us = wipe σ us := fun ws => by
    induction ws with
    | nil => intro _; rfl
    | cons w ws ih =>
      intro h
      show wipe ((wipe σ ws).set w none) us = _
      rw [wipe_set (h w (by simp)), ih fun i hi => h i (List.mem_cons_of_mem _ hi)]
  exact key us fun _ h => h
theorem Rel.wipeR {K : Fg} {Γ : Ga} {Z H : Hp} {O : Ow} {σ : L2.St} (R : Rel K G Γ Z O σ H) : ∀ vs : List Nat, ∃ O', Rel K G (wipeG Γ vs) Z O' (wipe σ vs) H ∧ ∀ a i, O' a = some i → O a = some i
  | [] => ⟨O, R, fun _ _ h => h⟩
  | v :: vs => by
    obtain ⟨O1, R1, h1⟩ := R.wipeR vs
    exact ⟨_, R1.setNo v (x := .no) (v := none) fun _ => trivial, fun a i h => h1 a i (dropO_some h).1⟩
theorem backG_len (Γ Γ0 : Ga) : ∀ vs : List Nat, (backG Γ Γ0 vs).s.length = Γ.s.length
  | [] => rfl
  | v :: vs => by show ((backG Γ Γ0 vs).s.set v _).length = _; rw [List.length_set, backG_len]
theorem backG_c (Γ Γ0 : Ga) : ∀ vs : List Nat, (backG Γ Γ0 vs).c = Γ.c
  | [] => rfl
  | v :: vs => backG_c Γ Γ0 vs
theorem backG_in {Γ Γ0 : Ga} (hl : Γ.s.length = Γ0.s.length) : ∀ {vs : List Nat} {i : Nat}, i ∈ vs → (backG Γ Γ0 vs).at i = Γ0.at i
  | v :: vs, i, h => by
    by_cases q : i = v
    · subst q
      by_cases hi : i < Γ0.s.length
      · exact Ga.at_same (Γ := backG Γ Γ0 vs) (by rw [backG_len, hl]; exact hi)
      · have e1 : (backG Γ Γ0 (i :: vs)).at i = .no := by
          show List.getD _ _ _ = _
          rw [List.getD_eq_getElem?_getD, List.getElem?_eq_none (by rw [backG_len, hl]; omega)]; rfl
        have e2 : Γ0.at i = .no := by
          show List.getD _ _ _ = _
          rw [List.getD_eq_getElem?_getD, List.getElem?_eq_none (by omega)]; rfl
        rw [e1, e2]
    · show ((backG Γ Γ0 vs).set v (Γ0.at v)).at i = _
      rw [Ga.at_set q]
      exact backG_in hl ((List.mem_cons.mp h).resolve_left q)
theorem backG_out {Γ Γ0 : Ga} : ∀ {vs : List Nat} {i : Nat}, i ∉ vs → (backG Γ Γ0 vs).at i = Γ.at i
  | [], _, _ => rfl
  | v :: vs, i, h => by
    show ((backG Γ Γ0 vs).set v (Γ0.at v)).at i = _
    rw [Ga.at_set (fun e => h (by simp [e]))]
    exact backG_out fun e => h (List.mem_cons_of_mem _ e)
theorem wipe_outD {σ : L2.St} {i : Nat} : ∀ {vs : List Nat}, i ∉ vs → (wipe σ vs).getD i none = σ.getD i none := fun {vs} h => by
  rw [List.getD_eq_getElem?_getD, List.getD_eq_getElem?_getD, wipe_out h]
/-- behind the block the slots are as they were -/
theorem Rel.back {K : Fg} {Γ Γ0 : Ga} {Z Z0 H H0 : Hp} {O O0 : Ow} {σ : L2.St} (R0 : Rel K G Γ0 Z0 O0 σ H0) (s : Sub Z0 Z) (R : Rel K G Γ Z O (wipe σ vs) H) (hp : ∀ v ∈ vs, plainSl (Γ0.at v)) : Rel K G (backG Γ Γ0 vs) Z O σ H where
  len := by rw [backG_len, R.len, wipe_length]
  sub := R.sub
  pen := fun p h => by rw [backG_c]; exact R.pen p h
  own := R.own
  sl := fun i => by
    by_cases h : i ∈ vs
    · rw [backG_in (by rw [R.len, wipe_length, R0.len]) h]
      have q := R0.sl i
      have z := hp i h
      cases e : Γ0.at i with
      | no => trivial
      | rv r => rw [e] at q; obtain ⟨u, a, b⟩ := q; exact ⟨u, a, b.mono s⟩
      | lst _ => rw [e] at z; exact z.elim
      | lst2 _ => rw [e] at z; exact z.elim
      | dk _ => rw [e] at z; exact z.elim
      | dt _ => rw [e] at z; exact z.elim
      | exc _ _ _ => rw [e] at z; exact z.elim
    · rw [backG_out h]
      have q := R.sl i
      rw [wipe_outD h] at q
      exact q
  fH := R.fH
  fZ := R.fZ
  fB := R.fB
  fN := R.fN
/-- while a comprehension runs: the new list at L holds what is made so far -/
def CompI (K : Fg) (G : Gh) (vs : List Nat) (σ : L2.St) (Z1 : Hp) (O1 : Ow) (H1 : Hp) (L : Addr) (n : Nat) (w : List D → Ga → Prop) (H : Hp) : Prop :=
  ∃ Γ Z O acc ds, Rel K (G.wb Z1) Γ Z O (wipe σ vs) H ∧ Step G.PN Z1 O1 H1 Z O H ∧ H L = some (.lst acc) ∧ Z L = none ∧ O L = none ∧ DRs K Z acc ds ∧ ds.length ≤ n ∧ w ds Γ
theorem Rel.updL {K : Fg} {Γ : Ga} {Z H : Hp} {O : Ow} {σ : L2.St} (R : Rel K G Γ Z O σ H) {L : Addr} {o : HO} (hz : Z L = none) (ho : O L = none) (h0 : G.H0 L = none) : Rel K G Γ Z O σ (upd H L o) where
  len := R.len
  sub := fun a u e => by rw [upd_ne (fun q => by rw [q, hz] at e; cases e)]; exact R.sub _ _ e
  pen := fun p h => by
    obtain ⟨h1, h4, h5, h6⟩ := R.pen p h
    exact ⟨h1.mono Sub.refl (fun o e => by rw [upd_ne (fun q => h6 (by rw [q]; exact h0))]; exact e) (Nat.le_refl _), h4, h5, h6⟩
  own := fun a i h => by
    obtain ⟨h1, h2, h3⟩ := R.own a i h
    exact ⟨h1, h2, by rw [upd_ne (fun q => by rw [q, ho] at h; cases h)]; exact h3⟩
  sl := fun i => (R.sl i).mono Sub.refl fun a u h e => by rw [upd_ne (fun q => by rw [q, ho] at h; cases h)]; exact e
  fH := fun a u e n => by rw [upd_ne (fun q => by rw [q, h0] at e; cases e)]; exact R.fH a u e n
  fZ := R.fZ
  fB := R.fB
  fN := R.fN
theorem Step.keepL {PN : Addr → Prop} {Z H Z' H' : Hp} {O O' : Ow} {L : Addr} {o : HO} (S : Step PN Z O H Z' O' H') (h : H L = some o) (hz : Z L = none) (ho : O L = none) (hp : ¬ PN L) : H' L = some o ∧ Z' L = none ∧ O' L = none := by
  refine ⟨S.hH _ _ h hp, ?_, ?_⟩
  · cases e : Z' L with
    | none => rfl
    | some u =>
      rcases S.zN L (by rw [e]; simp) with r | r | r
      · exact absurd hz r
      · rw [h] at r; cases r
      · exact absurd ho r
  · cases e : O' L with
    | none => rfl
    | some j => rw [S.oO L j e] at ho; cases ho
theorem Step.updL {PN : Addr → Prop} {Z H Z' H' : Hp} {O O' : Ow} {L : Addr} {o : HO} (S : Step PN Z O H Z' O' H') (h : H L = none) : Step PN Z O H Z' O' (upd H' L o) :=
  ⟨fun a u e n => by rw [upd_ne (fun q => by rw [q, h] at e; cases e)]; exact S.hH a u e n, fun a e => by
    by_cases q : a = L
    · rw [q]; exact h
    · rw [upd_ne q] at e; exact S.hN a e, S.zZ, S.zN, S.oO⟩
theorem az_comp {wi : WE (List D)} {g : WG} {t : WE Bool} {w : WE Rv} {scope : Scope} (own : List (Str × Nat)) (hN : X.N.Nodup) (hi : AI X G tg iter wi) (ok : BlkOk X.N X.env.scope scope own)
    (hg : ∀ (Zb : Hp) (s : Shared) (H : Hp) (C : Addr) (cl : List (Str × Addr)) (fp : List Addr), AG (X.blk s H scope (compEnvC scope cl C X.env) fp) (G.wb Zb) tg vs g)
    (ht : ∀ (Zb : Hp) (s : Shared) (H : Hp) (C : Addr) (cl : List (Str × Addr)) (fp : List Addr), ATs (X.blk s H scope (compEnvC scope cl C X.env) fp) (G.wb Zb) ifs t)
    (he : ∀ (Zb : Hp) (s : Shared) (H : Hp) (C : Addr) (cl : List (Str × Addr)) (fp : List Addr), AE (X.blk s H scope (compEnvC scope cl C X.env) fp) (G.wb Zb) elt w)
    (hv : ∀ i ∈ vs, i ∈ own.map (·.2) := by decide) (hc : X.calm = true := by rfl) (hs : ∀ x, foldedSetIterable iter X.env x = pure x := by intro _; rfl) : AZ X G (.ListComp elt [⟨tg, iter, ifs, 0⟩] scope pos) (wComp (own.map (·.2)) wi g t w) := by
  have exTs : ∀ (s : Shared) (H : Hp) (C : Addr) (cl : List (Str × Addr)) (fp : List Addr), PTs (X.blk s H scope (compEnvC scope cl C X.env) fp) ifs (fun σ H1 Q => ∃ Zb, lift X.K (G.wb Zb) (fun _ _ _ _ (a b : Bool) => a = b) t σ H1 Q) := fun s H C cl fp => ⟨fun pins s1 σ H1 Q I ⟨Zb, q⟩ => (ht Zb s H C cl fp).run pins s1 σ H1 Q I q⟩
  refine PEi (pe_lc hc hN hi ok (fun s H C cl fp => exG (t := fun Zb => liftG X.K (G.wb Zb) vs g) fun Zb => hg Zb s H C cl fp) exTs (fun s H C cl fp => exE (t := fun Zb => lift X.K (G.wb Zb) (fun _ Z _ _ r v => RvR X.K G.PN Z r v) w) fun Zb => he Zb s H C cl fp) hs) fun σ H Q ⟨Γ, Z, O, P, R, ⟨hp, q⟩, k⟩ => ?_
  refine ⟨Γ, Z, O, _, R, q, fun items Γ1 J Z1 O1 H1 p1 R1 S1 ⟨Gp, Y, wk, hz, hG, hY⟩ L hL => ?_⟩
  have sB : Sub G.Zb Z1 := R1.fB
  have h0 : G.H0 L = none := R1.H0free hL
  have hPN : ¬ G.PN L := R1.pfree hL
  obtain ⟨Ow', Rw, hO⟩ := R1.wipeR (own.map (·.2))
  refine lc_it (g := fun v σ H Q => ∃ i, liftG X.K (G.wb i) vs g v σ H Q) (tt := fun σ H1 Q => ∃ Zb, lift X.K (G.wb Zb) (fun _ _ _ _ (a b : Bool) => a = b) t σ H1 Q) (te := fun σ H Q => ∃ i, lift X.K (G.wb i) (fun _ Z _ _ r v => RvR X.K G.PN Z r v) w σ H Q) (vs := own.map (·.2)) (σ := σ) (H1 := H1) (D := L) (Qd := fun H => Q (.ref L) H) wk (fun i H => CompI X.K G (own.map (·.2)) σ Z1 O1 H1 L i (fun ds Γx => compW (own.map (·.2)) g t w (items.drop i) ds Γx fun acc Γ2 => P (.ls acc) (backG Γ2 Γ (own.map (·.2)))) H) ?_ (fun i H _ ⟨_, _, _, _, _, R, _⟩ => hG H (R.fB.trans R.sub)) ?_ ?_
  · exact ⟨_, Z1, Ow', [], [], (Rw.wb Sub.refl).updL (R1.sub.free hL) (Rw.ofree hL) h0, ⟨fun a u e n => by rw [upd_ne (fun q => by rw [q, hL] at e; cases e)]; exact e, fun a e => by
      by_cases q : a = L
      · rw [q]; exact hL
      · rw [upd_ne q] at e; exact e, Sub.refl, fun a e => .inl e, hO⟩, upd_same, R1.sub.free hL, Rw.ofree hL, .nil, Nat.le_refl _, by simpa using p1⟩
  · rintro i x H H' hi ⟨Γ2, Z2, O2, acc, ds, R2, S2, hl, hzl, hol, hds, hlen, q2⟩ hy
    obtain ⟨d, Z3, hd, gr, hr⟩ := hY i H x H' Z2 R2.fB R2.ctx hy
    have hdrop : items.drop i = d :: items.drop (i + 1) := by
      obtain ⟨h1, h2⟩ := List.getElem?_eq_some_iff.mp hd
      rw [← h2]; exact List.drop_eq_getElem_cons h1
    rw [hdrop] at q2
    have R3 := R2.grow gr
    have Sg : Step G.PN Z2 O2 H Z3 O2 H' := gr.step
    refine ⟨Z1, Γ2, Z3, O2, d, _, R3, hr, q2, fun Γ4 O4 σ4 p4 R4 z4 o4 => ⟨(z4 _ hv).trans wipe_wipe, Z1, Γ4, Z3, O4, _, R4, p4, fun r Γ5 v Z5 O5 H5 p5 R5 S5 b5 => ?_⟩⟩
    subst b5
    have S4 : Step G.PN Z2 O2 H Z3 O4 H' := ⟨Sg.hH, Sg.hN, Sg.zZ, Sg.zN, fun a j h => Sg.oO a j (o4 a j h)⟩
    have S5' : Step G.PN Z2 O2 H Z5 O5 H5 := S4.trans S5
    cases r with
    | false =>
      refine iteF ?_
      obtain ⟨O6, R6, hO6⟩ := R5.wipeR (own.map (·.2))
      rw [z4 _ hv] at R6
      obtain ⟨l1, l2, l3⟩ := S5'.keepL hl hzl hol hPN
      refine ⟨_, Z5, O6, acc, ds, by rw [← wipe_wipe]; exact R6, ?_, l1, l2, ?_, hds.mono S5'.zZ, Nat.le_succ_of_le hlen, p5⟩
      · have S6 := S2.trans S5'
        exact ⟨S6.hH, S6.hN, S6.zZ, S6.zN, fun a j h => S6.oO a j (hO6 a j h)⟩
      · cases e : O6 L with
        | none => rfl
        | some j => rw [hO6 L j e] at l3; cases l3
    | true =>
      refine iteT ⟨Z1, Γ5, Z5, O5, _, R5, p5, fun rv Γ7 v Z7 O7 H7 p7 R7 S7 b7 => ?_⟩
      have S8 : Step G.PN Z2 O2 H Z7 O7 H7 := S5'.trans S7
      obtain ⟨l1, l2, l3⟩ := S8.keepL hl hzl hol hPN
      have e1 := hds.length
      refine ⟨acc, l1, ?_, ?_⟩
      · rw [e1]; exact Nat.lt_of_lt_of_le (Nat.lt_of_le_of_lt hlen hi) hz
      cases rv with
      | pen => exact p7.elim
      | dat dd =>
        obtain ⟨O9, R9, hO9⟩ := R7.wipeR (own.map (·.2))
        rw [z4 _ hv] at R9
        have l9 : O9 L = none := by
          cases e : O9 L with
          | none => rfl
          | some j => rw [hO9 L j e] at l3; cases l3
        refine ⟨_, Z7, O9, acc ++ [v], ds ++ [dd], by rw [← wipe_wipe]; exact R9.updL l2 l9 h0, ?_, upd_same, l2, l9, (hds.mono S8.zZ).snoc b7, by rw [List.length_append]; exact Nat.succ_le_succ hlen, p7⟩
        have S10 := S2.trans S8
        have S11 : Step G.PN Z1 O1 H1 Z7 O9 H7 := ⟨S10.hH, S10.hN, S10.zZ, S10.zN, fun a j h => S10.oO a j (hO9 a j h)⟩
        exact S11.updL hL
  · rintro H ⟨Γ2, Z2, O2, acc, ds, R2, S2, hl, hzl, hol, hds, hlen, q2⟩
    rw [List.drop_length] at q2
    exact k _ _ _ _ _ _ q2 (Rel.back R ((S1.trans S2).zZ) (R2.unwb sB) hp) (S1.trans S2) ⟨L, acc, rfl, ⟨S1.hN L hL, hzl, hol⟩, hl, hds⟩
end
end VL
namespace VL
open PySem PySem.Spec PyProof.Rows L2

/-! ### errors -/
structure Exc where
  c : Str
  fs : List (Str × D)
/-- an error of the class that the module calls e.c, its own dict at dd -/
def ExR (K : Fg) (mg : Str → Option Value) (Z H : Hp) (e : Exc) (cls : Value) (d : Option Addr) : Prop :=
  ∃ (C dd : Addr) (fv : List (Str × V)), mg e.c = some (.ref C) ∧ cls = .ref C ∧ d = some dd ∧ Z dd = some (.xd fv) ∧ FsR K Z fv e.fs
def WEx (K : Fg) (mg : Str → Option Value) (G : Gh) (Ex : Exc → Ga → Prop) : WX := fun cls d σ H => ∃ e Γ Z O, Rel K (G.wb G.Z0) Γ Z O σ H ∧ ExR K mg Z H e cls d ∧ Ex e Γ

/-! ### the promise of a def, told by data -/
abbrev WF := List Rv → Nat → (Rv → Nat → Prop) → (Exc → Nat → Prop) → Prop
structure Fn (PN : Addr → Prop) (Z H Z' H' : Hp) (c : Nat) : Prop where
  hH : ∀ a o, H a = some o → ¬ PN a → H' a = some o
  hN : ∀ a, H' a = none → H a = none
  zZ : Sub Z Z'
  zs : Sub Z' H'
  zN : ∀ a, Z' a ≠ none → Z a ≠ none ∨ H a = none
  pen : ∀ p, PN p → PenOk Z' H' p c ∧ Z' p = none
def spOf (K : Fg) (mg : Str → Option Value) (W : WF) : Sp := fun vs H Q E => ∃ (PN : Addr → Prop) (Z : Hp) (c : Nat) (as : List Rv) (P : Rv → Nat → Prop) (R : Exc → Nat → Prop), Sub Z H ∧ (∀ p, PN p → PenOk Z H p c ∧ Z p = none) ∧ RvRs K PN Z as vs ∧ W as c P R ∧
  (∀ r c' v Z' H', P r c' → Fn PN Z H Z' H' c' → RvR K PN Z' r v → Q v H') ∧ (∀ e c' cls d Z' H', R e c' → Fn PN Z H Z' H' c' → ExR K mg Z' H' e cls d → E cls d H')
structure RoomG (k : Nat) (A : Around) : Prop where
  room : Room k A
  gd : A.guards = some []
theorem RoomG.mono {j k : Nat} {A : Around} (r : RoomG k A) (h : j ≤ k) : RoomG j A := ⟨r.room.mono h, r.gd⟩
/-- the def at f keeps W, with k calls' room at most -/
structure FnV (P : Program) (w : World) (K : Fg) (mg : Str → Option Value) (base : Heap) (k : Nat) (f : Addr) (fd : FuncData) (ps : List Str) (W : WF) : Prop where
  len : ∀ as c P R, W as c P R → as.length = ps.length
  run : ∀ (A : Around) (outer : List Env) (s : Shared) (H : Hp) (args : Args) (us : List Value) (vs : List V) (Q : VK) (E : XK), RoomG k A → Env0 P w K mg base A outer s H → BindsTo s fd args (ps.zip us) → Vals vs us → spOf K mg W vs H Q E →
    codeAny (model P w) A (.call (.ref f) args) (CR (L2.CX P w) outer P w H s Q E) s
theorem FnV.mono {P : Program} {w : World} {K : Fg} {mg : Str → Option Value} {base : Heap} {j k : Nat} {f : Addr} {fd : FuncData} {ps : List Str} {W : WF} (F : FnV P w K mg base j f fd ps W) (h : j ≤ k) : FnV P w K mg base k f fd ps W :=
  ⟨F.len, fun A o s H a u v Q E r => F.run A o s H a u v Q E (r.mono h)⟩
theorem FnV.imp {P : Program} {w : World} {K : Fg} {mg : Str → Option Value} {base : Heap} {k : Nat} {f : Addr} {fd : FuncData} {ps : List Str} {W W' : WF} (F : FnV P w K mg base k f fd ps W) (h : ∀ as c P R, W' as c P R → W as c P R) : FnV P w K mg base k f fd ps W' :=
  ⟨fun as c P R q => F.len as c P R (h _ _ _ _ q), fun A o s H a u v Q E r e b x ⟨PN, Z, c, as, P1, R1, h1, h2, h3, h4, h5, h6⟩ => F.run A o s H a u v Q E r e b x ⟨PN, Z, c, as, P1, R1, h1, h2, h3, h _ _ _ _ h4, h5, h6⟩⟩

section
variable {K : Fg} {G : Gh} {Γ : Ga} {Z H Z' H' : Hp} {O : Ow} {σ : L2.St}
theorem Rel.fn (R : Rel K G Γ Z O σ H) {c : Nat} (f : Fn G.PN Z H Z' H' c) : Rel K G ⟨Γ.s, c⟩ Z' O σ H' where
  len := R.len
  sub := f.zs
  pen := fun p hp => ⟨(f.pen p hp).1, (f.pen p hp).2, (R.pen p hp).2.2.1, (R.pen p hp).2.2.2⟩
  own := fun a i h => by
    obtain ⟨h1, h2, h3⟩ := R.own a i h
    refine ⟨?_, h2, fun e => h3 (f.hN a e)⟩
    cases e : Z' a with
    | none => rfl
    | some o =>
      rcases f.zN a (by rw [e]; simp) with q | q
      · exact absurd h1 q
      · exact absurd q h3
  sl := fun i => (R.sl i).mono f.zZ fun a o h e => f.hH a o e (R.npen h)
  fH := fun a o h n => f.hH a o (R.fH a o h n) n
  fZ := R.fZ.trans f.zZ
  fB := R.fB.trans f.zZ
  fN := fun a h => by
    rcases f.zN a h with q | q
    · exact R.fN a q
    · exact .inr (R.H0free q)
theorem Fn.step {PN : Addr → Prop} {c : Nat} (f : Fn PN Z H Z' H' c) : Step PN Z O H Z' O H' := ⟨f.hH, f.hN, f.zZ, fun a h => (f.zN a h).elim .inl fun h => .inr (.inl h), fun _ _ h => h⟩
end

section
variable {X : Cx} {G : Gh} {Ex : Exc → Ga → Prop} {e : Expr} {es : List Expr} {pos : Pos}
theorem run_fv {k : Nat} {f : Addr} {fd : FuncData} {ps : List Str} {W : WF} {T : WX} {pins : List (Addr × Obj)} {σ : L2.St} {H : Hp} {s : Shared} {Q : VK} {us : List Value} {vs : List V} (F : FnV X.prog X.w X.K X.mg X.base k f fd ps W) (room : RoomG k X.A) (hb : Binds X.K fd ps []) (tk : Takes X T)
    (I : Inv X pins σ H s) (r : Vals vs us) (h : spOf X.K X.mg W vs H Q fun cls d H' => T cls d σ H') : wpAny (model X.prog X.w) X.A (call (.ref f) us) (EP X pins σ Q) X.xe s := by
  have many : us.length = ps.length := by
    obtain ⟨_, _, _, as, _, _, _, _, h3, h4, _⟩ := h
    rw [← F.len _ _ _ _ h4, h3.length, Paired.length r]
  have bound := hb s us I.kIn (by rw [List.append_nil]; exact many)
  rw [List.append_nil] at bound
  refine wpAny_call (codeAny_mono (F.run X.A X.stack s H ⟨us, []⟩ us vs Q _ room I.env0 bound r h) ?_)
  rintro (er | fl) s' z
  · exact tk er s' (XE.of_call I (fun _ _ _ q => q) z)
  · cases fl <;> first | exact I.after z | exact False.elim z
def wCall (W : WF) (Ex : Exc → Ga → Prop) (ws : WE (List Rv)) : WE Rv := fun Γ P => ws Γ fun rs Γ1 => W rs Γ1.c (fun r c => P r ⟨Γ1.s, c⟩) fun e c => Ex e ⟨Γ1.s, c⟩
theorem call_sp {K : Fg} {mg : Str → Option Value} {W : WF} {Γ1 : Ga} {Z Z1 H H1 : Hp} {O O1 : Ow} {σ : L2.St} {P : Rv → Ga → Prop} {Q : VK} {rs : List Rv} {vs : List V} (R1 : Rel K G Γ1 Z1 O1 σ H1) (S1 : Step G.PN Z O H Z1 O1 H1) (b : RvRs K G.PN Z1 rs vs)
    (h : W rs Γ1.c (fun r c => P r ⟨Γ1.s, c⟩) fun e c => Ex e ⟨Γ1.s, c⟩) (k : ∀ r Γ' v Z' O' H', P r Γ' → Rel K G Γ' Z' O' σ H' → Step G.PN Z O H Z' O' H' → RvR K G.PN Z' r v → Q v H') : spOf K mg W vs H1 Q fun cls d H' => WEx K mg G Ex cls d σ H' :=
  ⟨G.PN, Z1, Γ1.c, rs, _, _, R1.sub, fun p hp => ⟨(R1.pen p hp).1, (R1.pen p hp).2.1⟩, b, h, fun r c v Z' H' p f q => k _ _ _ _ _ _ p (R1.fn f) (S1.trans f.step) q, fun e c cls d Z' H' q f x => ⟨e, _, Z', O1, (R1.fn f).wb (R1.fZ.trans f.zZ), x, q⟩⟩
theorem ae_call {k : Nat} {f : Addr} {fd : FuncData} {ps : List Str} {W : WF} {ws : WE (List Rv)} {x : Str} {p : Pos} (F : FnV X.prog X.w X.K X.mg X.base k f fd ps W) (room : RoomG k X.A) (hm : X.mg x = some (.ref f)) (hk : PySem.W.keepIn X.K (.ref f) = true) (hb : Binds X.K fd ps []) (tk : Takes X (WEx X.K X.mg G Ex))
    (ha : AA X G (e :: es) ws) (hg : Gl X x := by rfl) (hdb : (x == ("__debug__" : Str)) = false := by decide) (he : starEach (e :: es) X.env = (false, eval e X.env) :: starEach es X.env := by rfl) (hpl : (backTo pos (starEach es X.env)).any (·.1) = false := by rfl) :
    AE X G (.Call (.Name x p) (e :: es) [] pos) (wCall W Ex ws) := ⟨fun pins s σ H Q I ⟨Γ, Z, O, P, R, w, k⟩ => wpAny_Call_Name_kw (ld_glob I hg hm (PySem.W.callWith_K (h₀ := X.base) I.ok.mod.kin hk
      (thn (ha.run pos pins s σ H _ I ⟨Γ, Z, O, _, R, w, fun rs Γ1 vs Z1 O1 H1 p1 R1 S1 b1 => (show ∃ rs Γ1 Z1 O1, W rs Γ1.c (fun r c => P r ⟨Γ1.s, c⟩) (fun e c => Ex e ⟨Γ1.s, c⟩) ∧ Rel X.K G Γ1 Z1 O1 σ H1 ∧ Step G.PN Z O H Z1 O1 H1 ∧ RvRs X.K G.PN Z1 rs vs from ⟨rs, Γ1, Z1, O1, p1, R1, S1, b1.1⟩)⟩)
        fun us s1 ⟨vs, H1, I1, r, rs, Γ1, Z1, O1, p1, R1, S1, b1⟩ => ⟨I1.kIn, run_fv F room hb tk I1 r (call_sp R1 S1 b1 p1 k)⟩) he hpl) hdb)⟩
theorem ae_call0 {k : Nat} {f : Addr} {fd : FuncData} {ps : List Str} {W : WF} {x : Str} {p : Pos} (F : FnV X.prog X.w X.K X.mg X.base k f fd ps W) (room : RoomG k X.A) (hm : X.mg x = some (.ref f)) (hk : PySem.W.keepIn X.K (.ref f) = true) (hb : Binds X.K fd ps []) (tk : Takes X (WEx X.K X.mg G Ex)) (hg : Gl X x := by rfl)
    (hdb : (x == ("__debug__" : Str)) = false := by decide) : AE X G (.Call (.Name x p) [] [] pos) (wCall W Ex wNil) :=
  ⟨fun pins s σ H Q I ⟨Γ, Z, O, P, R, w, k⟩ => wpAny_Call_Name_kw (ld_glob I hg hm (PySem.W.callWith_K0 I.kIn hk (run_fv (us := []) F room hb tk I .nil (call_sp R Step.refl .nil w k))) hdb)⟩

/-! ### raise C(..), C an error with fields of its own -/
/-- what the top says of a class of errors with two fields (with one: g is none) -/
structure ErrT (K : Fg) (mg : Str → Option Value) (x : Str) (f : Str) (g : Option Str) (C fI : Addr) (fd : FuncData) (ps : List Str) : Prop where
  gC : mg x = some (.ref C)
  ox : OexC K C
  iC : PySem.W.findIn K (.ref C) "__init__" = some (some (.ref fI))
  tI : PySem.W.typeIn K (.ref fI) = some (.type "function")
  nf : PySem.W.findIn K (.ref C) f = some none
  ng : ∀ y, g = some y → PySem.W.findIn K (.ref C) y = some none
  bi : Binds K fd ps []
  ok : ∀ (P : Program) (w : World) (base : Heap), FnOk P w K mg base (L2.CX P w) 1 fI fd ps fun vs H Q _ => match g with
    | none => ∃ a v, vs = [.ref a, v] ∧ H a = some (exo a C none) ∧ ∀ d, H d = none → d ≠ a → Q .non (upd (upd H d (exd d [(f, v)])) a (exo a C (some d)))
    | some y => ∃ a v u, vs = [.ref a, v, u] ∧ H a = some (exo a C none) ∧ ∀ d, H d = none → d ≠ a → Q .non (upd (upd (upd H d (exd d [(f, v)])) a (exo a C (some d))) d (exd d [(y, u), (f, v)]))
def wRaise (x : Str) (f : Str) (g : Option Str) (Ex : Exc → Ga → Prop) (ws : WE (List Rv)) : WS := fun _ Γ => ws Γ fun rs Γ1 => dats rs fun ds => match g, ds with
  | none, [d] => Ex ⟨x, [(f, d)]⟩ Γ1
  | some y, [d, d'] => Ex ⟨x, [(y, d'), (f, d)]⟩ Γ1
  | _, _ => False
theorem upd_del {H : Hp} {a d : Addr} {H' : Hp} {o : HO} (ha : H a = none) (h : ∀ b, b ≠ a → b ≠ d → H' b = H b) : upd (del H' a) d o = upd H d o := by
  funext b
  by_cases q : b = d
  · subst q; rw [upd_same, upd_same]
  · rw [upd_ne q, upd_ne q]
    by_cases r : b = a
    · subst r; rw [del_same, ha]
    · rw [del_ne r]; exact h b r q
theorem as_raise {x f : Str} {g : Option Str} {C fI : Addr} {fd : FuncData} {ps : List Str} {ws : WE (List Rv)} {p : Pos} {pos' : Pos} (T : ErrT X.K X.mg x f g C fI fd ps) (room : RoomG 2 X.A) (tk : Takes X (WEx X.K X.mg G Ex)) (hx : Passes (L2.CX X.prog X.w) X (fun _ _ _ => False)) (ha : AA X G (e :: es) ws)
    (hl : (e :: es).length ≤ 1000 := by decide) (hc : X.calm = true := by rfl) (hg : Gl X x := by rfl) (hdb : (x == ("__debug__" : Str)) = false := by decide) (he : starEach (e :: es) X.env = (false, eval e X.env) :: starEach es X.env := by rfl) (hpl : (backTo pos (starEach es X.env)).any (·.1) = false := by rfl) :
    AS X G (.Raise (some (.Call (.Name x p) (e :: es) [] pos)) none pos') (wRaise x f g Ex ws) := by
  refine PSi (ps_raise hc tk (pmk_oex T.ox T.iC T.tI (T.ok X.prog X.w X.base) room.room T.bi .nil hx hg T.gC ha hdb he hpl)) fun T' σ H ⟨Γ, Z, O, E, R, w, k⟩ => ?_
  refine ⟨Γ, Z, O, _, R, w, fun rs Γ1 vs Z1 O1 H1 p1 R1 S1 ⟨b1, l1⟩ => ⟨by rw [l1]; exact hl, fun a han => ?_⟩⟩
  obtain ⟨ds, hds, q⟩ := dats_of b1 p1
  rw [List.append_nil]
  -- the end: the error with its fields
  have fin : ∀ (d : Addr) (fs : List (Str × V)) (es : List (Str × D)) (H2 : Hp), H1 d = none → (∀ b, b ≠ a → b ≠ d → H2 b = H1 b) → FsR X.K Z1 fs es → Ex ⟨x, es⟩ Γ1 → WEx X.K X.mg G Ex (.ref C) (some d) σ (upd (del H2 a) d (.xd fs)) := fun d fs es H2 hd h2 hf q => by
    rw [upd_del han h2]
    have g := Grow.new (o := .xd fs) R1.sub hd
    exact ⟨⟨x, es⟩, Γ1, _, O1, (R1.grow g).wb (R1.fZ.trans g.zz), ⟨C, d, fs, T.gC, rfl, rfl, upd_same, hf.mono g.zz⟩, q⟩
  cases g with
  | none =>
    match ds, vs, hds, q with
    | [d0], [v], .cons h1 .nil, q =>
      refine ⟨a, v, rfl, upd_same, fun d hd hda => ⟨rfl, d, [(f, v)], ?_, ?_, ?_, ?_⟩⟩
      · exact upd_same
      · rw [upd_ne hda, upd_same]
      · rw [upd_ne hda] at hd; exact hd
      · refine fin d _ [(f, d0)] _ (by rw [upd_ne hda] at hd; exact hd) (fun b h1 h2 => ?_) (.cons h1 .nil) q
        rw [upd_ne h1, upd_ne h2, upd_ne h1]
  | some y =>
    match ds, vs, hds, q with
    | [d0, d1], [v, u], .cons h1 (.cons h2 .nil), q =>
      refine ⟨a, v, u, rfl, upd_same, fun d hd hda => ⟨rfl, d, [(y, u), (f, v)], ?_, ?_, ?_, ?_⟩⟩
      · rw [upd_ne (Ne.symm hda)]; exact upd_same
      · exact upd_same
      · rw [upd_ne hda] at hd; exact hd
      · refine fin d _ [(y, d1), (f, d0)] _ (by rw [upd_ne hda] at hd; exact hd) (fun b h1 h2 => ?_) (.cons h2 (.cons h1 .nil)) q
        rw [upd_ne h2, upd_ne h1, upd_ne h2, upd_ne h1]
end

/-! ### the rule for a def -/
def startG (n : Nat) (as : List Rv) (c : Nat) : Ga := ⟨as.map .rv ++ List.replicate (n - as.length) .no, c⟩
def wDef (n m : Nat) (ws : (Exc → Ga → Prop) → WS) : WF := fun as c P R => as.length = m ∧ ws (fun e Γ => R e Γ.c) ⟨fun Γ => P (.dat .none) Γ.c, fun r Γ => P r Γ.c, fun _ => False, fun _ => False⟩ (startG n as c)
section
variable {P : Program} {w : World} {K : Fg} {mg : Str → Option Value} {base : Heap}
theorem start_get {N : List Str} {PN : Addr → Prop} {Z : Hp} {H : Hp} {G : Gh} {O : Ow} (hG : G.PN = PN) {as : List Rv} {vs : List V} (h : RvRs K PN Z as vs) (c : Nat) (i : Nat) : SlR K G Z O H i ((startG N.length as c).at i) ((L2.start N vs).getD i none) := by
  have key : ∀ {as : List Rv} {vs : List V} (i n : Nat), RvRs K PN Z as vs → (∃ r u, ((as.map Sl.rv) ++ List.replicate n Sl.no).getD i Sl.no = .rv r ∧ (vs.map some ++ List.replicate n none).getD i none = some u ∧ RvR K PN Z r u) ∨ ((as.map Sl.rv) ++ List.replicate n Sl.no).getD i Sl.no = .no := by
    intro as vs i n h
    induction h generalizing i with
    | nil =>
      right
      simp only [List.map_nil, List.nil_append, List.getD_eq_getElem?_getD, List.getElem?_replicate]
      split <;> rfl
    | cons a b ih =>
      cases i with
      | zero => exact .inl ⟨_, _, rfl, rfl, a⟩
      | succ i =>
        rcases ih i with ⟨r, u, q1, q2, q3⟩ | q
        · exact .inl ⟨r, u, by simpa using q1, by simpa using q2, q3⟩
        · right; simpa using q
  have e : vs.length = as.length := h.length.symm
  show SlR K G Z O H i ((as.map Sl.rv ++ List.replicate (N.length - as.length) Sl.no).getD i Sl.no) ((vs.map some ++ List.replicate (N.length - vs.length) none).getD i none)
  rw [e]
  rcases key i (N.length - as.length) h with ⟨r, u, q1, q2, q3⟩ | q
  · rw [q1, q2]; subst hG; exact ⟨u, rfl, q3⟩
  · rw [q]; trivial
theorem start_rel {N : List Str} {PN : Addr → Prop} {Z H : Hp} {as : List Rv} {vs : List V} {c : Nat} (s : Sub Z H) (p : ∀ p, PN p → PenOk Z H p c ∧ Z p = none) (h : RvRs K PN Z as vs) (hl : as.length ≤ N.length) : Rel K ⟨PN, Z, H, Z⟩ (startG N.length as c) Z (fun _ => none) (L2.start N vs) H where
  len := by
    have e := h.length
    show (as.map Sl.rv ++ List.replicate (N.length - as.length) Sl.no).length = (vs.map some ++ List.replicate (N.length - vs.length) none).length
    rw [List.length_append, List.length_append, List.length_map, List.length_map, List.length_replicate, List.length_replicate, e]
  sub := s
  pen := fun q hq => ⟨(p q hq).1, (p q hq).2, rfl, by
    exact (p q hq).1.there⟩
  own := fun a i e => by cases e
  sl := fun i => start_get rfl h c i
  fH := fun a o e _ => e
  fZ := Sub.refl
  fB := Sub.refl
  fN := fun a e => .inl e
theorem Rel.out {PN : Addr → Prop} {Z0 H0 Zb : Hp} {Γ : Ga} {Z H : Hp} {O : Ow} {σ : L2.St} (R : Rel K ⟨PN, Z0, H0, Zb⟩ Γ Z O σ H) : Fn PN Z0 H0 Z H Γ.c :=
  ⟨fun a o e n => R.fH a o e n, fun a e => R.H0free e, R.fZ, R.sub, R.fN, fun p hp => ⟨(R.pen p hp).1, (R.pen p hp).2.1⟩⟩
/-- THE RULE: a def of the text keeps what its body's derivation says -/
theorem fv_of {x qual : Str} {st : Stmt} {f : Addr} {fd : FuncData} {N ps : List Str} {k : Nat} {ws : (Exc → Ga → Prop) → WS} (F : Fun K x qual st f fd) (S : FnScope N ps (defScope st))
    (hbody : ∀ (cdv : Value) (A : Around) (outer : List Env) (s : Shared) (H : Hp) (E : XK) (G : Gh) (Ex : Exc → Ga → Prop), RoomG k (A.deeper (envOfC qual (defScope st) s.heap.objs.size f cdv)) →
      Takes (cxOf (L2.CX P w) P w K mg base N qual (defScope st) f cdv A outer s H E) (WEx K mg G Ex) → ASs (cxOf (L2.CX P w) P w K mg base N qual (defScope st) f cdv A outer s H E) (G.wb G.Z0) (defBody st) (ws Ex)) : FnV P w K mg base (k + 1) f fd ps (wDef N.length ps.length ws) := by
  obtain ⟨oc, od, kV, doc, pm, an, cdv, ct, osl, rfl, lk, hcd⟩ := F.ex
  have hpl : ps.length ≤ N.length := by have := congrArg List.length S.pre; rw [List.length_take] at this; omega
  have hlen : ∀ vs H Q E, spOf K mg (wDef N.length ps.length ws) vs H Q E → vs.length = ps.length := fun vs H Q E ⟨_, _, _, as, _, _, _, _, h3, h4, _⟩ => by rw [← h3.length]; exact h4.1
  refine ⟨fun as c P R q => q.1, fun A outer s H args us vs Q E room e0 hb hv hsp => ?_⟩
  -- HandS' rule, at this very A
  have hl := hlen _ _ _ _ hsp
  have KX : K.In s.heap := e0.mod.kin.keeps fun b o e => (e0.bs b o e).1
  have lim : s.heap.NoLimit := e0.mod.nolimit.keeps fun b o e => (e0.bs b o e).1
  have kinds : ∀ y ∈ ps.zip us, (defScope st).names.lookup y.1 = some .local ∨ ((defScope st).names.lookup y.1 = some .cell ∧ ((cellsFrom (s.heap.objs.size + 1) (defScope st).names []).lookup y.1).isSome = true) := by
    rintro ⟨n, v⟩ hy
    exact (S.par n (List.of_mem_zip hy).1).elim .inl fun q => .inr ⟨q, PySem.W.cellsFrom_some _ _ _ (.inl q)⟩
  refine codeAny_call_function room.room.depth (KX _ _ lk) rfl S.co S.gen rfl (PySem.W.codeRec_of KX hcd) (hb _ _ _ _ (wpAny_newFunctionEnv_cells S.kind kinds ?_))
  rintro env rfl s1 inCall
  refine ⟨lim.keeps inCall.toInCall.keep, codeAny_func ?_⟩
  obtain ⟨PN, Z, c, as, P1, R1, sub, pens, hr, ⟨hal, hw⟩, kQ, kE⟩ := hsp
  have room' : RoomG k (A.deeper (envOfC qual (defScope st) s.heap.objs.size f cdv)) := ⟨room.room.deeper _, room.gd⟩
  have body := hbody cdv A outer s H E ⟨PN, Z, H, Z⟩ (fun e Γ => R1 e Γ.c) room' ((takes_of rfl rfl rfl rfl).imp fun cls d σ H' ⟨e, Γ, Z', O, R, x, q⟩ => kE e _ cls d Z' H' q R.out x)
  have I := inv_start (CX := L2.CX P w) (E := E) S room.room.hd e0 hl hv inCall
  have start := body.run [] s1 (L2.start N vs) H { nx := fun _ H' => Q .non H', rt := Q } I ⟨_, Z, fun _ => none, _, start_rel sub pens hr (by rw [hal]; exact hpl), hw,
    ⟨fun Γ Z' O σ H' q R => kQ _ _ _ _ _ q R.out .non, fun r Γ Z' O σ H' v q R x => kQ _ _ _ _ _ q R.out x, fun _ _ _ _ _ q => q.elim, fun _ _ _ _ _ q => q.elim⟩⟩
  refine wpAny_mono start ?_ fun _ _ h => h
  intro fl s' q
  cases fl with
  | next => obtain ⟨σ', H', J, q⟩ := q; exact ⟨.non, H', J.os, J.bare, J.base, J.hok, rfl, q⟩
  | ret u => obtain ⟨v, σ', H', J, rv, q⟩ := q; exact ⟨v, H', J.os, J.bare, J.base, J.hok, rv, q⟩
  | brk => obtain ⟨_, _, _, q⟩ := q; exact q.elim
  | cont => obtain ⟨_, _, _, q⟩ := q; exact q.elim
end
end VL
namespace VL
open PySem PySem.Spec PyProof.Rows L2

/-! ### what is walked: the forms -/
section
variable {X : Cx} {G : Gh} {tg e e2 : Expr} {es : List Expr} {pos p : Pos}
theorem walkD_at {K : Fg} {PN : Addr → Prop} {Z : Hp} {J : It} {xs : List V} {ds : List D} {Gp : Hp → Prop} (w : Walk J xs.length Gp (YAt xs)) (hz : xs.length ≤ sizeLine) (hG : ∀ H, Sub Z H → Gp H) (h : DRs K Z xs ds) : WalkD K PN Z J ds := by
  have e := h.length
  refine ⟨Gp, YAt xs, by rw [← e]; exact w, by rw [← e]; exact hz, hG, ?_⟩
  rintro i H x H' Zc hs C ⟨rfl, hx⟩
  obtain ⟨d, h1, h2⟩ := h.getV hx
  exact ⟨d, Zc, h1, Grow.refl C.sub, h2.mono hs⟩
/-- a list or a tuple that stays -/
def wItems (w : WE Rv) : WE (List D) := fun Γ P => w Γ fun r Γ' => match r with
  | .dat (.list ds) => P ds Γ'
  | .dat (.tuple ds) => P ds Γ'
  | _ => False
theorem ai_seq {w : WE Rv} (h : AE X G e w) : AI X G tg e (wItems w) := by
  refine ⟨fun pins s σ H R I ⟨Γ, Z, O, P, Re, q, k⟩ => ?_⟩
  refine thn (h.run pins s σ H (fun v H1 => ∃ r Γ1 Z1 O1, (match r with | .dat (.list ds) => P ds Γ1 | .dat (.tuple ds) => P ds Γ1 | _ => False) ∧ Rel X.K G Γ1 Z1 O1 σ H1 ∧ Step G.PN Z O H Z1 O1 H1 ∧ RvR X.K G.PN Z1 r v) I ⟨Γ, Z, O, _, Re, q, fun r Γ1 v Z1 O1 H1 p1 R1 S1 b1 => ⟨r, Γ1, Z1, O1, p1, R1, S1, b1⟩⟩) ?_
  rintro u s1 ⟨v, H1, I1, rv, r, Γ1, Z1, O1, p1, R1, S1, b1⟩
  have pie : ∀ {a : Addr} {J : It} {tn : Nat → Heap → Prop} {h2 : Heap}, (∀ b o, s1.heap.get? b = some o → h2.get? b = some o) → Turn X.prog X.w X.K tg J [s1.heap.objs.size] s1.heap.objs.size tn → tn 0 h2 → R J H1 → PIE X pins σ tg R (.ref s1.heap.objs.size) { s1 with heap := h2 } := fun kk T t0 q => by
    refine ⟨_, _, _, _, H1, rfl, I1.kept (t' := s1.toks) kk, T, t0, fun b hb => ?_, q⟩
    obtain rfl : b = s1.heap.objs.size := by simpa using hb
    exact I1.fpOk (Nat.le_refl _) (I1.hok.fresh (Nat.le_refl _))
  cases r with
  | pen => exact p1.elim
  | dat d =>
    have b1' : DR X.K Z1 v d := b1
    cases b1' with
    | @lst a xs ds hq ht =>
      obtain rfl : u = .ref a := rv
      have hq' : SqL X.K H1 a xs := SqL.of (R1.sub _ _ hq)
      obtain ⟨its, rvs, pl, hz⟩ := I1.list hq'
      refine wpAny_pyIter_list pl.isList (pie (a := a) (fun b o e => Heap.get?_push_of_some _ e) (turn_list a _) ⟨_, Heap.get?_push_size _ rfl, rfl, rfl⟩ (k _ _ _ _ _ _ p1 R1 S1 (walkD_at walk_list hz (fun H s => SqL.of (s _ _ hq)) ht)))
    | @tup a xs ds hq ht =>
      obtain rfl : u = .ref a := rv
      obtain ⟨its, rvs, pl, hz⟩ := I1.tuple (R1.sub.sqT hq)
      refine wpAny_pyIter_tuple (show s1.heap.IsTuple a its.toArray from pl) (pie (a := a) (fun b o e => Heap.get?_push_of_some _ e) (turn_tuple a _) ⟨_, Heap.get?_push_size _ rfl, rfl, rfl⟩ (k _ _ _ _ _ _ p1 R1 S1 (walkD_at walk_tup hz (fun H s => s.sqT hq) ht)))
    | _ => exact p1.elim
/-- range(n), range(a, b) -/
def rangeD (lo : Int) (n : Nat) : List D := (List.range n).map fun i => .int (lo + (i : Nat))
theorem rangeD_get {lo : Int} {n i : Nat} (h : i < n) : (rangeD lo n)[i]? = some (.int (lo + (i : Nat))) := by
  unfold rangeD
  rw [List.getElem?_map, List.getElem?_range h]; rfl
theorem rangeD_length {lo : Int} {n : Nat} : (rangeD lo n).length = n := by unfold rangeD; rw [List.length_map, List.length_range]
theorem walkD_range {K : Fg} {PN : Addr → Prop} {Z : Hp} {lo : Int} {n : Nat} (hz : n ≤ sizeLine) : WalkD K PN Z (Itr lo n) (rangeD lo n) := by
  have w : Walk (Itr lo n) n (fun _ => True) (fun i H x H' => i < n ∧ H' = H ∧ x = .int (lo + (i : Nat))) := ⟨fun i H h _ => h, fun H _ => Nat.le_refl n, fun i H x H' h _ y => ⟨h, y.1, y.2⟩⟩
  refine ⟨_, _, by rw [rangeD_length]; exact w, by rw [rangeD_length]; exact hz, fun H _ => trivial, ?_⟩
  rintro i H x H' Zc hs C ⟨hi, rfl, rfl⟩
  exact ⟨_, Zc, rangeD_get hi, Grow.refl C.sub, .int _⟩
theorem BRs.one {K : Fg} {PN : Addr → Prop} {Z H : Hp} {vs : List V} {d : D} (h : BRs K PN Z H vs [d]) : ∃ v, vs = [v] ∧ BR K PN Z H v d := by
  cases h with | cons a b => cases b; exact ⟨_, rfl, a⟩
theorem BRs.two {K : Fg} {PN : Addr → Prop} {Z H : Hp} {vs : List V} {d e : D} (h : BRs K PN Z H vs [d, e]) : ∃ v u, vs = [v, u] ∧ BR K PN Z H v d ∧ BR K PN Z H u e := by
  cases h with | cons a b => cases b with | cons b c => cases c; exact ⟨_, _, rfl, a, b⟩
theorem line_is : (16777216 : Nat) = sizeLine := sizeLine_eq.symm
def wRange1 (ws : WE (List D)) : WE (List D) := fun Γ P => ws Γ fun ds Γ1 => match ds with
  | [.int n] => n ≤ 16777216 ∧ -(2 ^ 62) ≤ n ∧ P (rangeD 0 n.toNat) Γ1
  | _ => False
def wRange2 (ws : WE (List D)) : WE (List D) := fun Γ P => ws Γ fun ds Γ1 => match ds with
  | [.int a, .int b] => b - a ≤ 16777216 ∧ -(2 ^ 62) ≤ a ∧ a < 2 ^ 62 ∧ -(2 ^ 62) ≤ b ∧ b < 2 ^ 62 ∧ P (rangeD a (b - a).toNat) Γ1
  | _ => False
theorem ai_range1 {ws : WE (List D)} (hm : X.mg "range" = none) (h : ABs X G [e] ws) (hg : Gl X "range" := by rfl) (hs : starEach [e] X.env = [(false, eval e X.env)] := by rfl) : AI X G tg (.Call (.Name "range" p) [e] [] pos) (wRange1 ws) := by
  refine ⟨fun pins s σ H R I ⟨Γ, Z, O, P, Re, q, k⟩ => ?_⟩
  refine (pi_range1 hg hm h hs).run pins s σ H R I ⟨Γ, Z, O, _, Re, q, fun ds Γ1 vs Z1 O1 H1 p1 R1 S1 b1 => ?_⟩
  split at p1
  · rename_i n
    obtain ⟨v, rfl, b⟩ := b1.one
    obtain ⟨h1, h2, p1⟩ := p1
    obtain rfl := b.intI
    refine ⟨n, rfl, h2, by omega, ?_⟩
    exact k _ _ _ _ _ _ p1 R1 S1 (walkD_range (by rw [← line_is]; omega))
  · exact p1.elim
theorem ai_range2 {ws : WE (List D)} (hm : X.mg "range" = none) (h : ABs X G [e, e2] ws) (hg : Gl X "range" := by rfl) (hs : starEach [e, e2] X.env = [(false, eval e X.env), (false, eval e2 X.env)] := by rfl) (hs2 : starEach [e2] X.env = [(false, eval e2 X.env)] := by rfl) : AI X G tg (.Call (.Name "range" p) [e, e2] [] pos) (wRange2 ws) := by
  refine ⟨fun pins s σ H R I ⟨Γ, Z, O, P, Re, q, k⟩ => ?_⟩
  refine (pi_range2 hg hm h hs hs2).run pins s σ H R I ⟨Γ, Z, O, _, Re, q, fun ds Γ1 vs Z1 O1 H1 p1 R1 S1 b1 => ?_⟩
  split at p1
  · rename_i a c
    obtain ⟨v, u, rfl, b, b'⟩ := b1.two
    obtain ⟨h1, h2, h3, h4, h5, p1⟩ := p1
    obtain rfl := b.intI
    obtain rfl := b'.intI
    exact ⟨a, c, rfl, ⟨h2, h3, h4, h5⟩, k _ _ _ _ _ _ p1 R1 S1 (walkD_range (by rw [← line_is]; omega))⟩
  · exact p1.elim
end

/-! ### __init__ of an error -/
def spI (C : Addr) (K : Fg) (f : Str) (g : Option Str) : Sp := fun vs H Q _ => match g with
  | none => ∃ a v, vs = [.ref a, v] ∧ H a = some (exo a C none) ∧ ∀ d, H d = none → d ≠ a → Q .non (upd (upd H d (exd d [(f, v)])) a (exo a C (some d)))
  | some y => ∃ a v u, vs = [.ref a, v, u] ∧ H a = some (exo a C none) ∧ ∀ d, H d = none → d ≠ a → Q .non (upd (upd (upd H d (exd d [(f, v)])) a (exo a C (some d))) d (exd d [(y, u), (f, v)]))
theorem init1_rd {K : Fg} {C : Addr} {f : Str} {n0 n1 : Str} (ox : OexC K C) (hf : PySem.W.findIn K (.ref C) f = some none) (vs : List V) (H : Hp) (Q : VK) (E : XK) (h : spI C K f none vs H Q E) :
    tOst K f (tVar 0) (tVar 1) { nx := fun _ H' => Q .non H', rt := Q } (L2.start [n0, n1] vs) H := by
  obtain ⟨a, v, rfl, ha, k⟩ := h
  exact ⟨_, rfl, _, rfl, a, C, rfl, ox, hf, .inl ⟨ha, fun d hd hda => k d hd hda⟩⟩
theorem init2_rd {K : Fg} {C : Addr} {f y : Str} {n0 n1 n2 : Str} (ox : OexC K C) (hf : PySem.W.findIn K (.ref C) f = some none) (hy : PySem.W.findIn K (.ref C) y = some none) (vs : List V) (H : Hp) (Q : VK) (E : XK) (h : spI C K f (some y) vs H Q E) :
    tSeq (tOst K f (tVar 0) (tVar 1)) (tOst K y (tVar 0) (tVar 2)) { nx := fun _ H' => Q .non H', rt := Q } (L2.start [n0, n1, n2] vs) H := by
  obtain ⟨a, v, u, rfl, ha, k⟩ := h
  refine ⟨_, rfl, _, rfl, a, C, rfl, ox, hf, .inl ⟨ha, fun d hd hda => ?_⟩⟩
  exact ⟨_, rfl, _, rfl, a, C, rfl, ox, hy, .inr ⟨d, [(f, v)], upd_same, by rw [upd_ne hda, upd_same], by simp, k d hd hda⟩⟩
theorem spI_len1 {K : Fg} {C : Addr} {f : Str} (vs : List V) (H : Hp) (Q : VK) (E : XK) (h : spI C K f none vs H Q E) : vs.length = 2 := by
  obtain ⟨a, v, rfl, _⟩ := h; rfl
theorem spI_len2 {K : Fg} {C : Addr} {f y : Str} (vs : List V) (H : Hp) (Q : VK) (E : XK) (h : spI C K f (some y) vs H Q E) : vs.length = 3 := by
  obtain ⟨a, v, u, rfl, _⟩ := h; rfl

/-! ### try with several clauses, each with a name or without -/
/-- a clause: the class, the slot of its name (if it has one), the suite's reading -/
structure Cl where
  c : Value
  i : Option Nat
  ts : Addr → Value → Option Addr → TS
def Cl.enter (l : Cl) (σ : L2.St) (a : Addr) : L2.St := match l.i with
  | none => σ
  | some i => σ.set i (some (.ref a))
def Cl.leave (l : Cl) (σ : L2.St) : L2.St := match l.i with
  | none => σ
  | some i => σ.set i none
def wCls (K : Fg) (Wout : WX) (T : Ends) : List Cl → WX
  | [] => Wout
  | l :: r => fun cls d σ H => ∃ b, PySem.W.exmOne K cls l.c = some b ∧
      (b = true → ∀ a, H a = none → l.ts a cls d { nx := fun σ' H' => T.nx (l.leave σ') H', rt := T.rt, bk := fun σ' H' => T.bk (l.leave σ') H', ct := fun σ' H' => T.ct (l.leave σ') H' } (l.enter σ a) H) ∧ (b = false → wCls K Wout T r cls d σ H)
inductive ClsOk (X : Cx) : List ExceptHandler → List Cl → Prop where
  | nil : ClsOk X [] []
  | bare {x : Str} {c : Value} {ts : Addr → Value → Option Addr → TS} {first : Stmt} {more : List Stmt} {np hp : Pos} {hs : List ExceptHandler} {l : List Cl} (hc : Names X x c)
      (hsu : ∀ (a : Addr) (oe : Obj) (cls : Value) (d : Option Addr) (pn : List (Addr × Obj)), Zc cls d oe → (∃ vs, oe.data = .fields vs) → PSs (X.suite a ((a, oe) :: pn)) (first :: more) (ts a cls d)) (r : ClsOk X hs l) : ClsOk X (.ExceptHandler (some (.Name x np)) none (first :: more) hp :: hs) (⟨c, none, ts⟩ :: l)
  | as {x n : Str} {i : Nat} {c : Value} {ts : Addr → Value → Option Addr → TS} {first : Stmt} {more : List Stmt} {np hp : Pos} {hs : List ExceptHandler} {l : List Cl} (hc : Names X x c) (hi : X.N[i]? = some n) (hn : X.env.kindOf n = some .local)
      (hsu : ∀ (a : Addr) (oe : Obj) (cls : Value) (d : Option Addr) (pn : List (Addr × Obj)), Zc cls d oe → (∃ vs, oe.data = .fields vs) → PSs (X.suite a ((a, oe) :: pn)) (first :: more) (ts a cls d)) (r : ClsOk X hs l) : ClsOk X (.ExceptHandler (some (.Name x np)) (some n) (first :: more) hp :: hs) (⟨c, some i, ts⟩ :: l)
section
variable {X : Cx} {body : List Stmt} {h₀ : ExceptHandler} {hds : List ExceptHandler} {ls : List Cl} {pos : Pos} {tb : WX → TS} {Wout : WX}
theorem ps_try_cls (stk : X.stack = X.env :: X.outer) (frm : X.env.frame = some X.env.locals) (nd : X.N.Nodup) (tk : Takes X Wout)
    (hb : ∀ (W : WX) (pn : List (Addr × Obj)) (xe : Value → Shared → Prop), Takes (X.tr pn xe) W → PassesOwn (model X.prog X.w) X.A X.env xe → PSs (X.tr pn xe) body (tb W)) (hh : ClsOk X (h₀ :: hds) ls) : PS X (.Try body (h₀ :: hds) [] [] pos) (fun T σ H => tb (wCls X.K Wout T ls) T σ H) := by
  refine ⟨fun pins s σ H T I h => wpAny_Try_except ?_⟩
  have ok := I.ok
  have frames : X.A.frames = some (X.env :: X.outer) := by rw [ok.frames, stk]
  refine wpAny_mono ((hb (wCls X.K Wout T ls) (X.pn ++ pins) (fun e s₁ => wpAny (model X.prog X.w) X.A (noteFrame e X.env) (fun _ s₂ => wpAny (model X.prog X.w) X.A (setFlight e none) (fun _ s₃ => wpAny (model X.prog X.w) X.A (handleBy e X.env (h₀ :: hds)) (SP X pins T) X.xe s₃) X.xe s₂) X.xe s₁) (fun u s' caught => ?_) PassesOwn.looking).run [] s σ H T (I.toTry _) h) (fun f s1 done => ?_) (fun e s1 q => q)
  · obtain ⟨a, B, sI, pins', σ', H', cls, d, rfl, J', nb, up, sky, fresh, os, ag, wish⟩ := caught
    have J : Inv X pins σ' H' sI := J'.ofTry ok
    have sky' : Sky B (X.env :: X.outer) a (Zc cls d) X.env.locals s'.heap := stk ▸ sky
    show wpAny (model X.prog X.w) X.A (noteFrame (.ref a) X.env) _ _ _
    refine Sky.land Zc.steady frames frm sky' fun h3 fly up3 => ?_
    have J3 : Inv X pins σ' H' { s' with heap := h3 } := J.landed nb fly.1 (up.trans up3) os ag
    obtain ⟨oe3, vs3, he3, hz3, hd3⟩ := fly.there
    have apart : a ∉ frs (X.env :: X.outer) := fun hm => by
      obtain ⟨_, o', e', no⟩ := fly.2.2.1.mem hm
      rw [he3] at e'; cases e'
      exact no _ hd3
    have nL : a ≠ X.env.locals := fun z => apart (List.mem_filterMap.mpr ⟨X.env, List.mem_cons_self, by rw [frm, z]⟩)
    have nF : a ∉ X.fs := fun hm => by
      obtain ⟨e, he, q⟩ := List.mem_filterMap.mp hm
      exact apart (List.mem_filterMap.mpr ⟨e, List.mem_cons_of_mem _ he, q⟩)
    have S3 := J3.suite he3 hd3 fresh nL nF
    -- the clause's class is asked
    have asked : ∀ {x : Str} {c : Value} {np : Pos}, Names X x c → ∀ {Q : Value → Shared → Prop} {E : Value → Shared → Prop}, Q c { s' with heap := h3 } → wpAny (model X.prog X.w) (X.A.mark (some (.ref a))) (eval (.Name x np) X.env) Q E { s' with heap := h3 } := by
      rintro x c np ⟨hg, hd, hm | ⟨hm, hv, hn⟩⟩ Q E q
      · exact ld_glob (X := X.suite a ((a, oe3) :: (X.pn ++ pins))) S3 hg hm q hd
      · exact ld_blt (X := X.suite a ((a, oe3) :: (X.pn ++ pins))) S3 hg hm hv q hn hd
    have same : ∀ {b : Bool} {c : Value}, PySem.W.exmOne X.K cls c = some b → _ := fun {b c} q => PySem.W.exm_one (M := model X.prog X.w) (h := h3) (e := a) J3.kIn (fun A Q E s k q => wpAny_typeOf_ref (k _ _ he3) (by rw [hz3.1]; exact q)) q
    have go : ∀ {hs' : List ExceptHandler} {l' : List Cl}, ClsOk X hs' l' → wCls X.K Wout T l' cls d σ' H' → wpAny (model X.prog X.w) X.A (handleBy (.ref a) X.env hs') (SP X pins T) X.xe { s' with heap := h3 } := by
      intro hs' l' hk
      induction hk with
      | nil =>
        intro w
        refine wpAny_handleBy_nil ?_
        obtain ⟨_, _, _, oe, vs, tb0, _, _, he, _, hd, h1, _⟩ := id fly
        have on : wpAny (model X.prog X.w) X.A (setFlight (.ref a) X.env.frame) (fun _ s4 => wpAny (model X.prog X.w) X.A (throw (.ref a) : Sem Flow) (SP X pins T) X.xe s4) X.xe { s' with heap := h3 } := by
          rw [frm]
          exact HandSPX.setFlight_upZ fly fun h4 held up4 => wpAny_throw (tk _ _ ⟨a, B, sI, pins, σ', H', cls, d, rfl, J, nb, (up.trans up3).trans up4, .inr (.inr (stk ▸ held)), fresh, os, ag, w⟩)
        unfold PySem.passOn
        refine wpAny_bind (wpAny_field he hd h1 ?_)
        rw [if_neg (show ¬ ((Value.ref tb0 == Value.none) = true) by simp)]
        first | exact wpAny_bind (wpAny_pure (wpAny_bind on)) | exact wpAny_bind on
      | bare hc hsu r ih =>
        rintro ⟨b, yes, w1, w2⟩
        refine wpAny_handleBy_cons (codeAny_handlers_test (asked hc ((same yes).here ?_))) (by rintro ⟨⟩)
        cases b with
        | false => exact ih (w2 rfl)
        | true =>
          refine codeAny_handlers_suite (HandSPX.lands_againZ fly fun h4 fly4 up4 => ?_)
          have J4 : Inv X pins σ' H' { s' with heap := h4 } := J.landed nb fly4.1 ((up.trans up3).trans up4) os ag
          obtain ⟨oe4, vs4, he4, hz4, hd4⟩ := fly4.there
          refine wpAny_mono ((hsu a oe4 cls d (X.pn ++ pins) hz4 ⟨_, hd4⟩).run [] _ _ H' _ (J4.suite he4 hd4 fresh nL nF) (w1 rfl a fresh)) (fun f s6 q => ?_) (fun _ _ z => z.elim)
          cases f with
          | ret u => obtain ⟨v6, σ6, H6, S6, r6, q6⟩ := q; exact ⟨_, _, _, S6.unsuite ok, r6, q6⟩
          | next => obtain ⟨σ6, H6, S6, q6⟩ := q; exact ⟨_, _, S6.unsuite ok, q6⟩
          | brk => obtain ⟨σ6, H6, S6, q6⟩ := q; exact ⟨_, _, S6.unsuite ok, q6⟩
          | cont => obtain ⟨σ6, H6, S6, q6⟩ := q; exact ⟨_, _, S6.unsuite ok, q6⟩
      | @as x n i c ts first more np hp hs l hc hi hn hsu r ih =>
        rintro ⟨b, yes, w1, w2⟩
        refine wpAny_handleBy_cons (codeAny_handlers_test (asked hc ((same yes).here ?_))) (by rintro ⟨⟩)
        cases b with
        | false => exact ih (w2 rfl)
        | true =>
          refine codeAny_handlers_suite_as (HandSPX.lands_againZ fly fun h4 fly4 up4 => ?_)
          have J4 : Inv X pins σ' H' { s' with heap := h4 } := J.landed nb fly4.1 ((up.trans up3).trans up4) os ag
          obtain ⟨oe4, vs4, he4, hz4, hd4⟩ := fly4.there
          refine store_ok (X := X.suite a ((a, oe4) :: (X.pn ++ pins))) (v := .ref a) (J4.suite he4 hd4 fresh nL nF) nd hi (.inl hn) rfl (fun s5 S5 => ?_) (.inr hn)
          refine wpAny_mono ((hsu a oe4 cls d (X.pn ++ pins) hz4 ⟨_, hd4⟩).run [] s5 _ H' _ S5 (w1 rfl a fresh)) (fun f s6 q => ?_) (fun _ _ z => z.elim)
          have gone : ∀ {σ6 : L2.St} {H6 : Hp} {Q : Shared → Prop}, Inv (X.suite a ((a, oe4) :: (X.pn ++ pins))) [] σ6 H6 s6 → (∀ s7, Inv X pins (σ6.set i none) H6 s7 → Q s7) → wpAny (model X.prog X.w) X.A (do bindName X.env n .none; unbindBehindTheSuite X.env n hp) (fun _ s7 => Q s7) X.xe s6 := fun S6 k => gone_ok (S6.unsuite ok) nd hi hn k
          cases f with
          | ret u => obtain ⟨v6, σ6, H6, S6, r6, q6⟩ := q; exact gone S6 fun s7 J7 => ⟨_, _, _, J7, r6, q6⟩
          | next => obtain ⟨σ6, H6, S6, q6⟩ := q; exact gone S6 fun s7 J7 => ⟨_, _, J7, q6⟩
          | brk => obtain ⟨σ6, H6, S6, q6⟩ := q; exact gone S6 fun s7 J7 => ⟨_, _, J7, q6⟩
          | cont => obtain ⟨σ6, H6, S6, q6⟩ := q; exact gone S6 fun s7 J7 => ⟨_, _, J7, q6⟩
    exact go hh wish
  · cases f with
    | ret u => obtain ⟨v, σ', H', J', r, q⟩ := done; exact ⟨v, σ', H', J'.ofTry ok, r, q⟩
    | next => obtain ⟨σ', H', J', q⟩ := done; exact wpAny_execs_nil ⟨σ', H', J'.ofTry ok, q⟩
    | brk => obtain ⟨σ', H', J', q⟩ := done; exact ⟨σ', H', J'.ofTry ok, q⟩
    | cont => obtain ⟨σ', H', J', q⟩ := done; exact ⟨σ', H', J'.ofTry ok, q⟩
end
/-! ### .. told by data -/
structure VCl where
  x : Str
  i : Option Nat
  ws : Addr → Option Addr → WS
def enterG (Γ : Ga) (i : Option Nat) (s : Sl) : Ga := match i with
  | none => Γ
  | some i => Γ.set i s
def leaveE (E : En) (i : Option Nat) : En := ⟨fun Γ => E.nx (enterG Γ i .no), E.rt, fun Γ => E.bk (enterG Γ i .no), fun Γ => E.ct (enterG Γ i .no)⟩
abbrev CMt := Str → Str → Option Bool
/-- which clause takes the error, and what its suite gives -/
def wHs (CM : CMt) (Ex : Exc → Ga → Prop) (E : En) : List VCl → Exc → Ga → Prop
  | [], e, Γ => Ex e Γ
  | h :: r, e, Γ => ∃ b, CM e.c h.x = some b ∧ (b = true → (h.i = none ∨ e.c = h.x) ∧ ∀ a dd, h.ws a (some dd) (leaveE E h.i) (enterG Γ h.i (.exc a dd e.fs))) ∧ (b = false → wHs CM Ex E r e Γ)
def wTry (CM : CMt) (Ex : Exc → Ga → Prop) (hs : List VCl) (wb : (Exc → Ga → Prop) → WS) : WS := fun E Γ => wb (wHs CM Ex E hs) E Γ
inductive VClsOk (X : Cx) (G : Gh) (CM : CMt) : List ExceptHandler → List VCl → List Cl → Prop where
  | nil : VClsOk X G CM [] [] []
  | bare {x : Str} {c : Value} {ws : Addr → Option Addr → WS} {first : Stmt} {more : List Stmt} {np hp : Pos} {hs : List ExceptHandler} {l : List VCl} {m : List Cl} (hc : Names X x c) (hm : ∀ y C b, CM y x = some b → X.mg y = some (.ref C) → PySem.W.exmOne X.K (.ref C) c = some b)
      (hsu : ∀ (a : Addr) (oe : Obj) (cls : Value) (d : Option Addr) (pn : List (Addr × Obj)), Zc cls d oe → (∃ vs, oe.data = .fields vs) → ASs (X.suite a ((a, oe) :: pn)) G (first :: more) (ws a d)) (r : VClsOk X G CM hs l m) :
      VClsOk X G CM (.ExceptHandler (some (.Name x np)) none (first :: more) hp :: hs) (⟨x, none, ws⟩ :: l) (⟨c, none, fun a cls d => liftS X.K G (ws a d)⟩ :: m)
  | as {x n : Str} {i : Nat} {C : Addr} {ws : Addr → Option Addr → WS} {first : Stmt} {more : List Stmt} {np hp : Pos} {hs : List ExceptHandler} {l : List VCl} {m : List Cl} (hx : X.mg x = some (.ref C)) (hc : Names X x (.ref C)) (hm : ∀ y D b, CM y x = some b → X.mg y = some (.ref D) → PySem.W.exmOne X.K (.ref D) (.ref C) = some b) (hi : X.N[i]? = some n) (hn : X.env.kindOf n = some .local)
      (hsu : ∀ (a : Addr) (oe : Obj) (d : Option Addr) (pn : List (Addr × Obj)), Zc (.ref C) d oe → (∃ vs, oe.data = .fields vs) → ASs (X.suite a ((a, oe) :: pn)) G (first :: more) (ws a d)) (r : VClsOk X G CM hs l m) :
      VClsOk X G CM (.ExceptHandler (some (.Name x np)) (some n) (first :: more) hp :: hs) (⟨x, some i, ws⟩ :: l) (⟨.ref C, some i, fun a cls d T σ H => cls = .ref C ∧ liftS X.K G (ws a d) T σ H⟩ :: m)
section
variable {X : Cx} {G : Gh} {CM : CMt} {Ex : Exc → Ga → Prop} {body : List Stmt} {h₀ : ExceptHandler} {hds : List ExceptHandler} {ls : List VCl} {ms : List Cl} {pos : Pos}
theorem VClsOk.cls (h : VClsOk X G CM hds ls ms) : ClsOk X hds ms := by
  induction h with
  | nil => exact .nil
  | bare hc _ hsu _ ih => exact .bare hc hsu ih
  | as _ hc _ hi hn hsu _ ih =>
    refine .as hc hi hn (fun a oe cls d pn hz hf => ⟨fun pins s σ H T I ⟨ec, q⟩ => ?_⟩) ih
    subst ec
    exact (hsu a oe d pn hz hf).run pins s σ H T I q
theorem hs_take {E : En} {T : Ends} {e : Exc} {cls : Value} {d : Option Addr} {σ : L2.St} {H : Hp} {Γ : Ga} {Z : Hp} {O : Ow} {hs : List ExceptHandler} {ls : List VCl} {ms : List Cl} (hh : VClsOk X (G.wb G.Z0) CM hs ls ms) (k : EnR X.K (G.wb G.Z0) E T) (R : Rel X.K (G.wb G.Z0) Γ Z O σ H) (x : ExR X.K X.mg Z H e cls d)
    (q : wHs CM Ex E ls e Γ) : wCls X.K (WEx X.K X.mg G Ex) T ms cls d σ H := by
  induction hh with
  | nil => exact ⟨e, Γ, Z, O, R, x, q⟩
  | @bare x' c ws first more np hp hs l m hc hm hsu r ih =>
    obtain ⟨b, h1, h2, h3⟩ := q
    obtain ⟨C, dd, fv, e1, e2, e3, e4, e5⟩ := id x
    refine ⟨b, by rw [e2]; exact hm _ _ _ h1 e1, fun hb a ha => ?_, fun hb => ih (h3 hb)⟩
    subst e3
    exact ⟨Γ, Z, O, _, R, (h2 hb).2 a dd, ⟨k.nx, k.rt, k.bk, k.ct⟩⟩
  | @as x' n i C0 ws first more np hp hs l m hx hc hm hi hn hsu r ih =>
    obtain ⟨b, h1, h2, h3⟩ := q
    obtain ⟨C, dd, fv, e1, e2, e3, e4, e5⟩ := id x
    refine ⟨b, by rw [e2]; exact hm _ _ _ h1 e1, fun hb a ha => ?_, fun hb => ih (h3 hb)⟩
    subst e3
    obtain ⟨h4, h5⟩ := h2 hb
    have ec : cls = .ref C0 := by
      rcases h4 with z | z
      · cases z
      · have z' : e.c = x' := z
        rw [z', hx] at e1
        rw [e2]; exact (Option.some.inj e1).symm
    refine ⟨ec, _, Z, _, _, R.setNo i (x := .exc a dd e.fs) (v := some (.ref a)) fun _ => ⟨fv, rfl, e4, e5⟩, h5 a dd, ⟨?_, k.rt, ?_, ?_⟩⟩
    · exact fun Γ Z O σ H q R => k.nx _ _ _ _ _ q (R.setNo i (x := .no) (v := none) fun _ => trivial)
    · exact fun Γ Z O σ H q R => k.bk _ _ _ _ _ q (R.setNo i (x := .no) (v := none) fun _ => trivial)
    · exact fun Γ Z O σ H q R => k.ct _ _ _ _ _ q (R.setNo i (x := .no) (v := none) fun _ => trivial)
theorem as_try {wb : (Exc → Ga → Prop) → WS} (nd : X.N.Nodup) (tk : Takes X (WEx X.K X.mg G Ex))
    (hb : ∀ (Ex' : Exc → Ga → Prop) (pn : List (Addr × Obj)) (xe : Value → Shared → Prop), Takes (X.tr pn xe) (WEx X.K X.mg G Ex') → PassesOwn (model X.prog X.w) X.A X.env xe → ASs (X.tr pn xe) (G.wb G.Z0) body (wb Ex'))
    (hh : VClsOk X (G.wb G.Z0) CM (h₀ :: hds) ls ms) (stk : X.stack = X.env :: X.outer := by rfl) (frm : X.env.frame = some X.env.locals := by rfl) : AS X (G.wb G.Z0) (.Try body (h₀ :: hds) [] [] pos) (wTry CM Ex ls wb) := by
  -- the body's reading, for any wish that is one of data
  have hb' : ∀ (W : WX) (pn : List (Addr × Obj)) (xe : Value → Shared → Prop), Takes (X.tr pn xe) W → PassesOwn (model X.prog X.w) X.A X.env xe → PSs (X.tr pn xe) body (fun T σ H => ∃ Ex', (∀ c d σ H, WEx X.K X.mg G Ex' c d σ H → W c d σ H) ∧ liftS X.K (G.wb G.Z0) (wb Ex') T σ H) := fun W pn xe tk' po =>
    ⟨fun pins s σ H T I ⟨Ex', hW, q⟩ => (hb Ex' pn xe (tk'.imp hW) po).run pins s σ H T I q⟩
  exact PSi (ps_try_cls stk frm nd tk hb' hh.cls) fun T σ H ⟨Γ, Z, O, E, R, w, k⟩ => ⟨wHs CM Ex E ls, fun cls d σ H ⟨e, Γ, Z, O, R, x, q⟩ => hs_take hh k R x q, Γ, Z, O, E, R, w, k⟩
/-- e.f in a suite -/
def wXf (a : Addr) (d : Option Addr) (i : Nat) (f : Str) : WE Rv := fun Γ P => match Γ.at i with
  | .exc a' dd fs => a' = a ∧ d = some dd ∧ ∃ v, fs.lookup f = some v ∧ P (.dat v) Γ
  | _ => False
theorem FsR.look {K : Fg} {Z : Hp} {f : Str} {v : D} : ∀ {fv : List (Str × V)} {fs : List (Str × D)}, FsR K Z fv fs → fs.lookup f = some v → ∃ u, fv.lookup f = some u ∧ DR K Z u v
  | _, _, .nil, h => by cases h
  | _, _, @FsR.cons _ _ n u vs d ds h t, q => by
    by_cases e : f == n
    · rw [List.lookup_cons, e] at q
      rw [List.lookup_cons, e]
      cases q
      exact ⟨u, rfl, h⟩
    · have e' : (f == n) = false := by simpa using e
      rw [List.lookup_cons, e'] at q
      rw [List.lookup_cons, e']
      exact t.look q
theorem ae_xf (i : Nat) {a C : Addr} {oe : Obj} {d : Option Addr} {pn : List (Addr × Obj)} {x f : Str} {np : Pos} (T : XfC X.K C) (hno : PySem.W.findIn X.K (.ref C) f = some none) (hz : Zc (.ref C) d oe) (hf : ∃ vs, oe.data = .fields vs)
    (hN : X.N[i]? = some x := by rfl) (hv : Vis X.env.scope x := by first | exact Or.inl rfl | exact Or.inr (Or.inl rfl) | exact Or.inr (Or.inr rfl)) (hd : (x == ("__debug__" : Str)) = false := by decide) (hcd : (x == ("__classdict__" : Str)) = false := by decide)
    (hb : attributeBase (.Name x np) f X.env (eval (.Name x np) X.env) = eval (.Name x np) X.env := by rfl) : AE (X.suite a ((a, oe) :: pn)) G (.Attribute (.Name x np) f pos) (wXf a d i f) := by
  have h0 : PE (X.suite a ((a, oe) :: pn)) (.Name x np) (tVar i) := pe_var (X := X.suite a ((a, oe) :: pn)) hN hv hd hcd
  refine PEi (pe_xf T hno hz hf h0 hb) fun σ H Q ⟨Γ, Z, O, P, R, w, k⟩ => ?_
  unfold wXf at w
  cases e : Γ.at i with
  | exc a' dd fs =>
    rw [e] at w
    obtain ⟨rfl, rfl, v, hl, w⟩ := w
    obtain ⟨fv, e1, e2, e3⟩ := R.slAt e
    obtain ⟨u, e4, e5⟩ := e3.look hl
    exact ⟨_, getD_some e1, rfl, rfl, dd, fv, u, rfl, R.sub _ _ e2, e4, k _ _ _ _ _ _ w R Step.refl e5⟩
  | _ => rw [e] at w; exact w.elim
end
end VL
namespace VL
open PySem PySem.Spec PyProof.Rows L2

/-! ### operators -/
abbrev vI (i : Int) : Rz := .v (.dat (.int i))
abbrev vB (b : Bool) : Rz := .v (.dat (.bool b))
section
variable {K : Fg}
theorem Pure2.of {r : R2} {sem : Sem2} (h : ∀ (PN : Addr → Prop) (Z H : Hp) (x y : V) (d e : D) (P : Rz → Prop) (Q : VK), Ctx PN Z H → BR K PN Z H x d → BR K PN Z H y e → sem d e P → (∀ z v Z' H', P z → Grow Z H Z' H' → RzN K H Z' H' z v → Q v H') → r x y H Q) : Pure2 K r sem := h
/-- a result that stays, nothing laid -/
theorem keepS {PN : Addr → Prop} {Z H : Hp} {P : Rz → Prop} {Q : VK} (C : Ctx PN Z H) (k : ∀ z v Z' H', P z → Grow Z H Z' H' → RzN K H Z' H' z v → Q v H') {d : D} {v : V} (p : P (.v (.dat d))) (r : DR K Z v d) : Q v H := k _ _ _ _ p (Grow.refl C.sub) r
/-- a new list -/
theorem newL {PN : Addr → Prop} {Z H : Hp} {P : Rz → Prop} {Q : VK} (C : Ctx PN Z H) (k : ∀ z v Z' H', P z → Grow Z H Z' H' → RzN K H Z' H' z v → Q v H') {ds : List D} {vs : List V} (p : P (.ls ds)) (r : DRs K Z vs ds) : ∀ q, H q = none → Q (.ref q) (upd H q (.lst vs)) :=
  fun q hq => k _ _ _ _ p (Grow.new' C.sub hq) ⟨q, vs, rfl, hq, C.sub.free hq, upd_same, r⟩
/-- a new tuple -/
theorem newT {PN : Addr → Prop} {Z H : Hp} {P : Rz → Prop} {Q : VK} (C : Ctx PN Z H) (k : ∀ z v Z' H', P z → Grow Z H Z' H' → RzN K H Z' H' z v → Q v H') {ds : List D} {vs : List V} (p : P (.v (.dat (.tuple ds)))) (r : DRs K Z vs ds) : ∀ q, H q = none → Q (.ref q) (upd H q (.tup vs)) :=
  fun q hq => k _ _ _ _ p (Grow.new C.sub hq) (.tup (SqT.of upd_same) (r.mono (Sub.upd (C.sub.free hq))))
def sInt (C : Int → Int → Prop) (f : Int → Int → D) : Sem2 := fun d e P => match d, e with
  | .int i, .int j => C i j ∧ P (.v (.dat (f i j)))
  | _, _ => False
theorem pure_int {C : Int → Int → Prop} {f : Int → Int → D} {g : Int → Int → V} (h : ∀ i j Z, DR K Z (g i j) (f i j)) : Pure2 K (rI C g) (sInt C f) := by
  intro PN Z H x y d e P Q Cx bx bz s k
  unfold sInt at s
  split at s
  · obtain rfl := bx.intI
    obtain rfl := bz.intI
    exact ⟨_, _, rfl, rfl, s.1, keepS Cx k s.2 (h _ _ _)⟩
  · exact s.elim
theorem pure_int0 {f : Int → Int → D} {g : Int → Int → V} (h : ∀ i j Z, DR K Z (g i j) (f i j)) : Pure2 K (rI0 g) (sInt (fun _ _ => True) f) := by
  intro PN Z H x y d e P Q Cx bx bz s k
  unfold sInt at s
  split at s
  · obtain rfl := bx.intI
    obtain rfl := bz.intI
    exact ⟨_, _, rfl, rfl, keepS Cx k s.2 (h _ _ _)⟩
  · exact s.elim
abbrev sSub : Sem2 := sInt (fun _ _ => True) fun i j => .int (i - j)
theorem p_sub : Pure2 K (rI0 fun i j => .int (i - j)) sSub := pure_int0 fun _ _ _ => .int _
abbrev sFdiv : Sem2 := sInt CDivN fun i j => .int (i.fdiv j)
theorem p_fdiv : Pure2 K (rI CDivN fun i j => .int (i.fdiv j)) sFdiv := pure_int fun _ _ _ => .int _
abbrev sMod : Sem2 := sInt (fun _ j => j ≠ 0) fun i j => .int (i.fmod j)
theorem p_mod : Pure2 K (rI (fun _ j => j ≠ 0) fun i j => .int (i.fmod j)) sMod := pure_int fun _ _ _ => .int _
abbrev sPow : Sem2 := sInt CPow fun i j => .int (i ^ j.toNat)
theorem p_pow : Pure2 K (rI CPow fun i j => .int (i ^ j.toNat)) sPow := pure_int fun _ _ _ => .int _
/-- a + b -/
def sAdd : Sem2 := fun d e P => match d, e with
  | .int i, .int j => P (vI (i + j))
  | .list a, .list b => a.length + b.length ≤ 16777216 ∧ P (.ls (a ++ b))
  | .tuple a, .tuple b => a.length + b.length ≤ 16777216 ∧ P (.v (.dat (.tuple (a ++ b))))
  | .str a, .str b => a.length + b.length ≤ 16777216 ∧ P (.v (.dat (.str (a ++ b))))
  | _, _ => False
abbrev rStrAdd : R2 := fun x y H Q => ∃ i j, x = .str i ∧ y = .str j ∧ i.length + j.length ≤ sizeLine ∧ Q (.str (i ++ j)) H
def rAddV (K : Fg) : R2 := fun x y H Q => rI0 (fun i j => .int (i + j)) x y H Q ∨ rCat x y H Q ∨ rCatA K x y H Q ∨ rStrAdd x y H Q
theorem o_add {X : Cx} : OpR X (binaryOp .Add) (rAddV X.K) := op_add.or (op_cat.or (op_catA.or op_add_str))
theorem p_add : Pure2 K (rAddV K) sAdd := by
  intro PN Z H x y d e P Q Cx bx bz s k
  unfold sAdd at s
  split at s
  · obtain rfl := bx.intI
    obtain rfl := bz.intI
    exact .inl ⟨_, _, rfl, rfl, keepS Cx k s (.int _)⟩
  · obtain ⟨a, vs, rfl, h1, t1⟩ := bx.listI Cx.sub
    obtain ⟨b, us, rfl, h2, t2⟩ := bz.listI Cx.sub
    exact .inr (.inl ⟨a, b, vs, us, rfl, rfl, h1, h2, by rw [t1.length, t2.length, ← line_is]; exact s.1, newL Cx k s.2 (t1.append t2)⟩)
  · obtain ⟨a, vs, rfl, h1, h1', t1⟩ := bx.tupI Cx.sub
    obtain ⟨b, us, rfl, h2, h2', t2⟩ := bz.tupI Cx.sub
    refine .inr (.inr (.inl ⟨a, b, vs, us, rfl, rfl, h1, h2, by rw [t1.length, t2.length, ← line_is]; exact s.1, fun q => ?_, fun _ q => ?_, fun _ _ => newT Cx k s.2 (t1.append t2)⟩))
    · subst q; cases t1; exact keepS Cx k s.2 (.tup h2' t2)
    · subst q; cases t2
      have s2 := s.2
      rw [List.append_nil] at s2
      exact keepS Cx k s2 (.tup h1' t1)
  · obtain rfl := bx.strI
    obtain rfl := bz.strI
    exact .inr (.inr (.inr ⟨_, _, rfl, rfl, by rw [← line_is]; exact s.1, keepS Cx k s.2 (.str _)⟩))
  · exact s.elim
/-- a * b -/
def sMul : Sem2 := fun d e P => match d, e with
  | .int i, .int j => CMul i j ∧ P (vI (i * j))
  | .list a, .int j => -(2 ^ 63) ≤ j ∧ j < 2 ^ 63 ∧ a.length * j.toNat ≤ 16777216 ∧ P (.ls (List.replicate j.toNat a).flatten)
  | _, _ => False
def rMulV : R2 := fun x y H Q => rI CMul (fun i j => .int (i * j)) x y H Q ∨ rRep x y H Q
theorem o_mul {X : Cx} : OpR X (binaryOp .Mult) rMulV := op_mul.or op_rep
theorem p_mul : Pure2 K rMulV sMul := by
  intro PN Z H x y d e P Q Cx bx bz s k
  unfold sMul at s
  split at s
  · obtain rfl := bx.intI
    obtain rfl := bz.intI
    exact .inl ⟨_, _, rfl, rfl, s.1, keepS Cx k s.2 (.int _)⟩
  · obtain ⟨a, vs, rfl, h1, t1⟩ := bx.listI Cx.sub
    obtain rfl := bz.intI
    exact .inr ⟨a, _, vs, rfl, rfl, h1, s.1, s.2.1, by rw [t1.length, ← line_is]; exact s.2.2.1, newL Cx k s.2.2.2 (t1.rep _)⟩
  · exact s.elim

/-! ### comparisons -/
abbrev sCmp (p : Int → Int → Bool) : Sem2 := sInt (fun _ _ => True) fun i j => .bool (p i j)
abbrev sLt : Sem2 := sCmp fun i j => decide (i < j)
abbrev sLe : Sem2 := sCmp fun i j => decide (i ≤ j)
abbrev sGt : Sem2 := sCmp fun i j => decide (j < i)
abbrev sGe : Sem2 := sCmp fun i j => decide (j ≤ i)
theorem p_lt : Pure2 K (rI0 fun i j => .bl (decide (i < j))) sLt := pure_int0 fun _ _ _ => .bl _
theorem p_le : Pure2 K (rI0 fun i j => .bl (decide (i ≤ j))) sLe := pure_int0 fun _ _ _ => .bl _
theorem p_gt : Pure2 K (rI0 fun i j => .bl (decide (j < i))) sGt := pure_int0 fun _ _ _ => .bl _
theorem p_ge : Pure2 K (rI0 fun i j => .bl (decide (j ≤ i))) sGe := pure_int0 fun _ _ _ => .bl _
def okD (d : D) : Prop := nodict d = true ∧ SeqAt.shaped d = true
def eqOk : D → D → Prop
  | .str _, .str _ => True
  | .int _, .int _ => True
  | d, e => okD d ∧ okD e
def sEq : Sem2 := fun d e P => eqOk d e ∧ P (vB (PyData.eqv d e))
def sNe : Sem2 := fun d e P => eqOk d e ∧ P (vB (!PyData.eqv d e))
abbrev rEqS (K : Fg) : R2 := fun x y H Q => rEq x y H Q ∨ rEqD K x y H Q
abbrev rNeS (K : Fg) : R2 := fun x y H Q => rNe x y H Q ∨ rNeD K x y H Q
theorem o_eq {X : Cx} (hu : X.A.units + 64 < cLine) : OpR X (compareOp .Eq) (rEqS X.K) := op_eq.or (op_eqD hu)
theorem o_ne {X : Cx} (hu : X.A.units + 64 < cLine) : OpR X (compareOp .NotEq) (rNeS X.K) := op_ne.or (op_neD hu)
theorem eqv_s (x y : Str) : PyData.eqv (.str x) (.str y) = decide (V.str x = V.str y) := by
  by_cases h : x = y <;> simp [PyData.eqv, h]
theorem eqv_i (x y : Int) : PyData.eqv (.int x) (.int y) = decide (V.int x = V.int y) := by
  by_cases h : x = y <;> simp [PyData.eqv, h]
theorem p_eq : Pure2 K (rEqS K) sEq := by
  intro PN Z H x y d e P Q Cx bx bz ⟨h, p⟩ k
  unfold eqOk at h
  split at h
  · obtain rfl := bx.strI
    obtain rfl := bz.strI
    rw [eqv_s] at p
    exact .inl ⟨rfl, keepS Cx k p (.bl _)⟩
  · obtain rfl := bx.intI
    obtain rfl := bz.intI
    rw [eqv_i] at p
    exact .inl ⟨rfl, keepS Cx k p (.bl _)⟩
  · obtain ⟨h1, h2⟩ := h
    exact .inr ⟨_, _, bx.dp Cx.sub h1.1, bz.dp Cx.sub h2.1, h1.2, h2.2, keepS Cx k p (.bl _)⟩
theorem p_ne : Pure2 K (rNeS K) sNe := by
  intro PN Z H x y d e P Q Cx bx bz ⟨h, p⟩ k
  unfold eqOk at h
  split at h
  · obtain rfl := bx.strI
    obtain rfl := bz.strI
    rw [eqv_s] at p
    exact .inl ⟨rfl, keepS Cx k p (.bl _)⟩
  · obtain rfl := bx.intI
    obtain rfl := bz.intI
    rw [eqv_i] at p
    exact .inl ⟨rfl, keepS Cx k p (.bl _)⟩
  · obtain ⟨h1, h2⟩ := h
    exact .inr ⟨_, _, bx.dp Cx.sub h1.1, bz.dp Cx.sub h2.1, h1.2, h2.2, keepS Cx k p (.bl _)⟩
def isN : D → Bool
  | .none => true
  | _ => false
def sIsN : Sem2 := fun d e P => match e with
  | .none => P (vB (isN d))
  | _ => False
def sNotN : Sem2 := fun d e P => match e with
  | .none => P (vB (!isN d))
  | _ => False
abbrev rIsN : R2 := fun x y H Q => y = .non ∧ Q (.bl (decide (x = .non))) H
abbrev rNotN : R2 := fun x y H Q => y = .non ∧ Q (.bl (!decide (x = .non))) H
theorem BR.isN {PN : Addr → Prop} {Z H : Hp} {v : V} {d : D} (b : BR K PN Z H v d) : decide (v = .non) = VL.isN d := by
  cases b with
  | z b => cases b <;> first | rfl | exact decide_eq_false (fun q => nomatch q)
  | _ => exact decide_eq_false (fun q => nomatch q)
theorem p_isN : Pure2 K rIsN sIsN := by
  intro PN Z H x y d e P Q Cx bx bz s k
  unfold sIsN at s
  split at s
  · obtain rfl := bz.noneI
    exact ⟨rfl, by rw [bx.isN]; exact keepS Cx k s (.bl _)⟩
  · exact s.elim
theorem p_notN : Pure2 K rNotN sNotN := by
  intro PN Z H x y d e P Q Cx bx bz s k
  unfold sNotN at s
  split at s
  · obtain rfl := bz.noneI
    exact ⟨rfl, by rw [bx.isN]; exact keepS Cx k s (.bl _)⟩
  · exact s.elim
/-- x is True, x is not True: of bools -/
def sIsB : Sem2 := fun d e P => match d, e with
  | .bool a, .bool b => P (vB (decide (a = b)))
  | _, _ => False
def sNotB : Sem2 := fun d e P => match d, e with
  | .bool a, .bool b => P (vB (!decide (a = b)))
  | _, _ => False
/-- x in xs: a list -/
def sIn : Sem2 := fun d e P => match e with
  | .list ds => okD d ∧ okD (.list ds) ∧ P (vB (ds.any fun z => PyData.eqv z d))
  | _ => False
def sNotIn : Sem2 := fun d e P => match e with
  | .list ds => okD d ∧ okD (.list ds) ∧ P (vB (!ds.any fun z => PyData.eqv z d))
  | _ => False
theorem p_in : Pure2 K (rInD K) sIn := by
  intro PN Z H x y d e P Q Cx bx bz s k
  unfold sIn at s
  split at s
  · exact ⟨_, _, bx.dp Cx.sub s.1.1, bz.dp Cx.sub s.2.1.1, s.1.2, s.2.1.2, keepS Cx k s.2.2 (.bl _)⟩
  · exact s.elim
theorem p_notIn : Pure2 K (rNotInD K) sNotIn := by
  intro PN Z H x y d e P Q Cx bx bz s k
  unfold sNotIn at s
  split at s
  · exact ⟨_, _, bx.dp Cx.sub s.1.1, bz.dp Cx.sub s.2.1.1, s.1.2, s.2.1.2, keepS Cx k s.2.2 (.bl _)⟩
  · exact s.elim

/-! ### built-ins -/
def lenD : D → Option Nat
  | .list a => some a.length
  | .tuple a => some a.length
  | _ => none
def sLen : SemN := fun ds P => match ds with
  | [.list a] => P (vI a.length)
  | [.tuple a] => P (vI a.length)
  | _ => False
abbrev rLen (K : Fg) : List V → Hp → VK → Prop := fun xs H Q => ∃ x n, xs = [x] ∧ LenV K x H n ∧ Q (.int n) H
theorem p_len : PureN K (rLen K) sLen := by
  intro PN Z H xs ds P Q Cx b s k
  unfold sLen at s
  split at s
  · obtain ⟨v, rfl, bb⟩ := b.one
    obtain ⟨a, vs, rfl, h, t⟩ := bb.listI Cx.sub
    exact ⟨_, _, rfl, .inl ⟨vs, SqL.of h, t.length.symm⟩, keepS Cx k s (.int _)⟩
  · obtain ⟨v, rfl, bb⟩ := b.one
    obtain ⟨a, vs, rfl, h, _, t⟩ := bb.tupI Cx.sub
    exact ⟨_, _, rfl, .inr ⟨vs, h, t.length.symm⟩, keepS Cx k s (.int _)⟩
  · exact s.elim
def sList : SemN := fun ds P => match ds with
  | [.list a] => P (.ls a)
  | [.tuple a] => P (.ls a)
  | _ => False
abbrev rList (K : Fg) : List V → Hp → VK → Prop := fun xs H Q => ∃ p ys, xs = [.ref p] ∧ (SqL K H p ys ∨ SqT K H p ys) ∧ ∀ l, H l = none → Q (.ref l) (upd H l (.lst ys))
theorem p_list : PureN K (rList K) sList := by
  intro PN Z H xs ds P Q Cx b s k
  unfold sList at s
  split at s
  · obtain ⟨v, rfl, bb⟩ := b.one
    obtain ⟨a, vs, rfl, h, t⟩ := bb.listI Cx.sub
    exact ⟨_, _, rfl, .inl (SqL.of h), newL Cx k s t⟩
  · obtain ⟨v, rfl, bb⟩ := b.one
    obtain ⟨a, vs, rfl, h, _, t⟩ := bb.tupI Cx.sub
    exact ⟨_, _, rfl, .inr h, newL Cx k s t⟩
  · exact s.elim
def sTuple : SemN := fun ds P => match ds with
  | [.list a] => P (.v (.dat (.tuple a)))
  | [.tuple a] => P (.v (.dat (.tuple a)))
  | _ => False
abbrev rTuple (K : Fg) : List V → Hp → VK → Prop := fun xs H Q => ∃ p ys, xs = [.ref p] ∧ ((SqL K H p ys ∧ ∀ l, H l = none → Q (.ref l) (upd H l (.tup ys))) ∨ (SqT K H p ys ∧ Q (.ref p) H))
theorem p_tuple : PureN K (rTuple K) sTuple := by
  intro PN Z H xs ds P Q Cx b s k
  unfold sTuple at s
  split at s
  · obtain ⟨v, rfl, bb⟩ := b.one
    obtain ⟨a, vs, rfl, h, t⟩ := bb.listI Cx.sub
    exact ⟨_, _, rfl, .inl ⟨SqL.of h, newT Cx k s t⟩⟩
  · obtain ⟨v, rfl, bb⟩ := b.one
    obtain ⟨a, vs, rfl, h, h', t⟩ := bb.tupI Cx.sub
    exact ⟨_, _, rfl, .inr ⟨h, keepS Cx k s (.tup h' t)⟩⟩
  · exact s.elim
def sInt1 : SemN := fun ds P => match ds with
  | [.int i] => P (vI i)
  | [.bool b] => P (vI (if b then 1 else 0))
  | _ => False
abbrev rInt1 : List V → Hp → VK → Prop := fun xs H Q => (∃ i, xs = [.int i] ∧ Q (.int i) H) ∨ ∃ k, xs = [.bl k] ∧ Q (.int (if k then 1 else 0)) H
theorem p_int1 : PureN K rInt1 sInt1 := by
  intro PN Z H xs ds P Q Cx b s k
  unfold sInt1 at s
  split at s
  · obtain ⟨v, rfl, bb⟩ := b.one
    obtain rfl := bb.intI
    exact .inl ⟨_, rfl, keepS Cx k s (.int _)⟩
  · obtain ⟨v, rfl, bb⟩ := b.one
    obtain rfl := bb.boolI
    exact .inr ⟨_, rfl, keepS Cx k s (.int _)⟩
  · exact s.elim
/-- repr -/
def rRepr (K : Fg) : List V → Hp → VK → Prop := fun xs H Q => ∃ x d, xs = [x] ∧ Dp K H x d ∧ d.showable = true ∧ d.hasDict = false ∧ d.depth ≤ 64 ∧ d.shown.length ≤ sizeLine ∧ Q (.str d.shown) H
theorem c_repr {X : Cx} (hg : X.A.guards = some []) (hu : X.A.units + 66 < cLine) : CallR X (.builtin "repr") (rRepr X.K) := by
  intro pins s σ H xs us Q I r h
  obtain ⟨x, d, rfl, hd, h1, h2, h3, h4, q⟩ := h
  obtain ⟨u, rfl, rv⟩ := vals1 r
  obtain ⟨as, rd⟩ := Dp.reads I d x u hd rv
  cases hd with
  | non => cases rv; exact PySem.P.repr_of_none ⟨.str _, H, I.tok _, ⟨_, rfl⟩, by simpa [PyData.shown] using q⟩
  | bl b => cases rv; exact PySem.P.repr_of_bool ⟨.str _, H, I.tok _, ⟨_, rfl⟩, by simpa [PyData.shown] using q⟩
  | int i =>
    obtain ⟨t, rfl⟩ := rv
    exact PySem.P.repr_of_int (by simpa [PyData.showable] using h1) ⟨.str _, H, I.tok _, ⟨_, rfl⟩, by simpa [PyData.shown] using q⟩
  | str y =>
    obtain ⟨t, rfl⟩ := rv
    exact PySem.P.repr_of_str ⟨.str _, H, I.tok _, ⟨_, rfl⟩, by simpa [PyData.shown] using q⟩ (by simpa [PyData.shown] using h4)
  | lst a b =>
    cases rv
    exact repr_of_reads' rd h1 (PyData.noDict_hsm h2) hg (by omega) (fun _ _ e => e) (fun h' u tk kk => ⟨.str _, H, I.kept kk, ⟨_, rfl⟩, q⟩) h4
  | tup a b =>
    cases rv
    exact repr_of_reads' rd h1 (PyData.noDict_hsm h2) hg (by omega) (fun _ _ e => e) (fun h' u tk kk => ⟨.str _, H, I.kept kk, ⟨_, rfl⟩, q⟩) h4
def sRepr : SemN := fun ds P => match ds with
  | [d] => nodict d = true ∧ d.showable = true ∧ d.hasDict = false ∧ d.depth ≤ 64 ∧ d.shown.length ≤ 16777216 ∧ P (.v (.dat (.str d.shown)))
  | _ => False
theorem p_repr : PureN K (rRepr K) sRepr := by
  intro PN Z H xs ds P Q Cx b s k
  unfold sRepr at s
  split at s
  · obtain ⟨v, rfl, bb⟩ := b.one
    exact ⟨_, _, rfl, bb.dp Cx.sub s.1, s.2.1, s.2.2.1, s.2.2.2.1, by rw [← line_is]; exact s.2.2.2.2.1, keepS Cx k s.2.2.2.2.2 (.str _)⟩
  · exact s.elim
/-! isinstance -/
def tyN : D → String
  | .none => "NoneType"
  | .bool _ => "bool"
  | .int _ => "int"
  | .str _ => "str"
  | .list _ => "list"
  | .tuple _ => "tuple"
  | .dict _ => "dict"
inductive Ty6 where
  | int | bool | str | tuple | list | dict
def Ty6.name : Ty6 → String
  | .int => "int"
  | .bool => "bool"
  | .str => "str"
  | .tuple => "tuple"
  | .list => "list"
  | .dict => "dict"
def isiD : Ty6 → D → Bool
  | .int, .int _ => true
  | .int, .bool _ => true
  | .bool, .bool _ => true
  | .str, .str _ => true
  | .tuple, .tuple _ => true
  | .list, .list _ => true
  | .dict, .dict _ => true
  | _, _ => false
theorem tyx_of {K : Fg} {H : Hp} {a : Addr} {xs : List V} (h : SqT K H a xs) : TyX K H (.ref a) (.type "tuple") := by
  rcases h with (h | ⟨o, h⟩) | ⟨o, its, n, h1, h2, _⟩
  · exact .base (.tup h)
  · exact .fTuple h
  · exact .kTuple h1 h2
theorem BR.tyx {PN : Addr → Prop} {Z H : Hp} (s : Sub Z H) {v : V} {d : D} (b : BR K PN Z H v d) (n : ∀ kvs, d ≠ .dict kvs) : TyX K H v (.type (tyN d)) := by
  cases b with
  | z b =>
    cases b with
    | non => exact .base .non
    | bl b => exact .base (.bl b)
    | int b => exact .base (.int b)
    | str b => exact .base (.str b)
    | lst h _ => exact .base (.lst (s _ _ h))
    | tup h _ => exact tyx_of (s.sqT h)
    | dk _ _ => exact absurd rfl (n _)
    | dt _ _ => exact absurd rfl (n _)
  | l _ h _ => exact .base (.lst h)
  | dk _ _ _ => exact absurd rfl (n _)
  | dt _ _ _ => exact absurd rfl (n _)
theorem kit_isi (T : Ty6) (d : D) : PySem.W.kitOne K (.type (tyN d)) (.type T.name) = some (isiD T d) := by
  refine kit_ty ?_
  cases T <;> cases d <;> (simp only [tyN, Ty6.name, isiD]; decide +kernel)
end
section
variable {X : Cx} {G : Gh} {e a b : Expr} {es : List Expr} {pos p p2 : Pos}
def wIsi (T : Ty6) (w : WE D) : WE Rv := fun Γ P => w Γ fun d Γ1 => (match d with | .dict _ => False | _ => True) ∧ P (.dat (.bool (isiD T d))) Γ1
theorem boot_ty (T : Ty6) : bootBuiltins (Str.ofString T.name) = some (.type T.name) := by
  cases T
  · exact boot_int
  · exact boot_bool
  · exact boot_str
  · exact boot_tuple
  · exact boot_list
  · exact boot_dict
theorem ae_isi {w : WE D} (T : Ty6) (h : AB X G a w) (hm : X.mg "isinstance" = none) (hmT : X.mg (Str.ofString T.name) = none) (hg : Gl X "isinstance" := by rfl) (hgT : Gl X (Str.ofString T.name) := by rfl)
    (hn : Str.ofString T.name ≠ "__name__" := by decide) (hd : ((Str.ofString T.name) == ("__debug__" : Str)) = false := by decide) (he : starEach [a, .Name (Str.ofString T.name) p2] X.env = (false, eval a X.env) :: starEach [.Name (Str.ofString T.name) p2] X.env := by rfl) (he2 : starEach [.Name (Str.ofString T.name) p2] X.env = (false, eval (.Name (Str.ofString T.name) p2) X.env) :: starEach [] X.env := by rfl) (hpl : (backTo pos (starEach [.Name (Str.ofString T.name) p2] X.env)).any (·.1) = false := by rfl) :
    AE X G (.Call (.Name "isinstance" p) [a, .Name (Str.ofString T.name) p2] [] pos) (wIsi T w) := by
  have hc : PE X (.Name (Str.ofString T.name) p2) (tC (.ty T.name)) := pe_bltn hgT hmT (boot_ty T) rfl hn hd
  refine PEi (pe_callB call_isi hg hm boot_isinstance (pa_cons h (pa_cons hc pa_nil he2) he) (by decide) (by decide) he hpl) fun σ H Q ⟨Γ, Z, O, P, R, q, k⟩ => ?_
  refine ⟨Γ, Z, O, _, R, q, fun d Γ1 v Z1 O1 H1 p1 R1 S1 b1 => ?_⟩
  refine ⟨v, .ty T.name, .type (tyN d), .type T.name, _, rfl, .ty T.name, b1.tyx R1.sub ?_, kit_isi T d, k _ _ _ _ _ _ p1.2 R1 S1 (.bl _)⟩
  rintro kvs rfl
  exact p1.1
end
end VL
namespace VL
open PySem PySem.Spec PyProof.Rows L2

/-! ### what is known of the top -/
section
variable (P : Program) (w : World) (K : Fg) (mg : Str → Option Value) (base : Heap)
/-- a def of the top: x, with the parameters ps, keeps W -/
def CallOk (k : Nat) (x : Str) (ps : List Str) (W : WF) : Prop := ∃ (f : Addr) (fd : FuncData), FnV P w K mg base k f fd ps W ∧ PySem.W.keepIn K (.ref f) = true ∧ Binds K fd ps [] ∧ mg x = some (.ref f)
/-- a class of errors of the top -/
def ErrOk (x f : Str) (g : Option Str) : Prop := ∃ (C fI : Addr) (fd : FuncData) (ps : List Str), ErrT K mg x f g C fI fd ps ∧ XfC K C
end
section
variable {X : Cx} {G : Gh} {Ex : Exc → Ga → Prop} {e : Expr} {es : List Expr} {pos p : Pos}
theorem CallOk.imp {P : Program} {w : World} {K : Fg} {mg : Str → Option Value} {base : Heap} {k : Nat} {x : Str} {ps : List Str} {W W' : WF} (c : CallOk P w K mg base k x ps W) (h : ∀ as c P R, W' as c P R → W as c P R) : CallOk P w K mg base k x ps W' := by
  obtain ⟨f, fd, F, r⟩ := c
  exact ⟨f, fd, F.imp h, r⟩
theorem ae_callC {k k' : Nat} {x : Str} {ps : List Str} {W : WF} {ws : WE (List Rv)} (c : CallOk X.prog X.w X.K X.mg X.base k x ps W) (room : RoomG k' X.A) (tk : Takes X (WEx X.K X.mg G Ex)) (ha : AA X G (e :: es) ws) (hk : k ≤ k' := by decide)
    (hg : Gl X x := by rfl) (hdb : (x == ("__debug__" : Str)) = false := by decide) (he : starEach (e :: es) X.env = (false, eval e X.env) :: starEach es X.env := by rfl) (hpl : (backTo pos (starEach es X.env)).any (·.1) = false := by rfl) :
    AE X G (.Call (.Name x p) (e :: es) [] pos) (wCall W Ex ws) := by
  obtain ⟨f, fd, F, kp, bd, hm⟩ := c
  exact ae_call F (room.mono hk) hm kp bd tk ha hg hdb he hpl
theorem ae_callC0 {k k' : Nat} {x : Str} {ps : List Str} {W : WF} (c : CallOk X.prog X.w X.K X.mg X.base k x ps W) (room : RoomG k' X.A) (tk : Takes X (WEx X.K X.mg G Ex)) (hk : k ≤ k' := by decide) (hg : Gl X x := by rfl) (hdb : (x == ("__debug__" : Str)) = false := by decide) : AE X G (.Call (.Name x p) [] [] pos) (wCall W Ex wNil) := by
  obtain ⟨f, fd, F, kp, bd, hm⟩ := c
  exact ae_call0 F (room.mono hk) hm kp bd tk hg hdb
theorem pass_no {X : Cx} : Passes (L2.CX X.prog X.w) X (fun _ _ _ => False) := fun _ _ _ _ _ _ _ ⟨_, _, _, _, _, _, _, _, _, _, _, _, z⟩ => z.elim
abbrev Ex0 : Exc → Ga → Prop := fun _ _ => False
theorem tk0 {X : Cx} {G : Gh} : Takes X (WEx X.K X.mg G Ex0) := takes_none5.imp fun _ _ _ _ ⟨_, _, _, _, _, _, q⟩ => q
theorem as_raiseC {k' : Nat} {x f : Str} {g : Option Str} {ws : WE (List Rv)} {pos' : Pos} (c : ErrOk X.K X.mg x f g) (room : RoomG k' X.A) (tk : Takes X (WEx X.K X.mg G Ex)) (ha : AA X G (e :: es) ws) (hk : 2 ≤ k' := by decide) (hl : (e :: es).length ≤ 1000 := by decide) (hc : X.calm = true := by rfl)
    (hg : Gl X x := by rfl) (hdb : (x == ("__debug__" : Str)) = false := by decide) (he : starEach (e :: es) X.env = (false, eval e X.env) :: starEach es X.env := by rfl) (hpl : (backTo pos (starEach es X.env)).any (·.1) = false := by rfl) :
    AS X G (.Raise (some (.Call (.Name x p) (e :: es) [] pos)) none pos') (wRaise x f g Ex ws) := by
  obtain ⟨C, fI, fd, ps, T, _⟩ := c
  exact as_raise T (room.mono hk) tk pass_no ha hl hc hg hdb he hpl
/-! negation -/
def sNeg : D → (Rz → Prop) → Prop := fun d P => match d with
  | .int i => P (vI (-i))
  | _ => False
def w1 (sem : D → (Rz → Prop) → Prop) (wa : WE D) : WE Rz := fun Γ P => wa Γ fun d Γ1 => sem d fun z => P z Γ1
theorem az_neg {a : Expr} {wa : WE D} (ha : AB X G a wa) : AZ X G (.UnaryOp .USub a pos) (w1 sNeg wa) := PEi (pe_un un_neg ha) fun σ H Q ⟨Γ, Z, O, P, R, w, k⟩ => ⟨Γ, Z, O, _, R, w, fun d Γ1 x Z1 O1 H1 p1 R1 S1 b1 => by
  unfold sNeg at p1
  split at p1
  · obtain rfl := b1.intI
    exact ⟨_, rfl, k _ _ _ _ _ _ p1 R1 S1 (.int _)⟩
  · exact p1.elim⟩
/-! subscripts of lists, tuples, texts -/
def sIx : Sem2 := fun d e P => match d, e with
  | .list ds, .int i => ∃ v, atI ds i = some v ∧ P (.v (.dat v))
  | .tuple ds, .int i => ∃ v, atI ds i = some v ∧ P (.v (.dat v))
  | _, _ => False
def IxPure (K : Fg) (r : R2) (sem : Sem2) : Prop := Pure2 K r sem
theorem DRs.atI {K : Fg} {Z : Hp} {vs : List V} {ds : List D} {i : Int} {d : D} (h : DRs K Z vs ds) (e : atI ds i = some d) : ∃ v, L2.atI vs i = some v ∧ DR K Z v d := by
  unfold L2.atI at e ⊢
  rw [h.length]
  cases q : ixN ds.length i with
  | none => rw [q] at e; cases e
  | some j =>
    rw [q] at e
    exact h.get e
theorem p_ix {K : Fg} : Pure2 K (rIx K) sIx := by
  intro PN Z H x y d e P Q Cx bx bz s k
  unfold sIx at s
  split at s
  · obtain ⟨u, hu, s⟩ := s
    obtain ⟨a, vs, rfl, h, t⟩ := bx.listI Cx.sub
    obtain rfl := bz.intI
    obtain ⟨v, h1, h2⟩ := t.atI hu
    exact .inl ⟨a, vs, _, v, rfl, rfl, SqL.of h, h1, keepS Cx k s h2⟩
  · obtain ⟨u, hu, s⟩ := s
    obtain ⟨a, vs, rfl, h, _, t⟩ := bx.tupI Cx.sub
    obtain rfl := bz.intI
    obtain ⟨v, h1, h2⟩ := t.atI hu
    exact .inr (.inl ⟨a, vs, _, v, rfl, rfl, h, h1, keepS Cx k s h2⟩)
  · exact s.elim
theorem az_ix {a b : Expr} {wa wb : WE D} (ha : AB X G a wa) (hb : AB X G b wb) (hs : PlainIx b := by exact fun _ _ => rfl) : AZ X G (.Subscript a b pos) (w2 sIx wa wb) := PEi (pe_ix ix_seq ha hb hs) fun _ _ _ h => tOp_of p_ix h
end

/-! ### the pen -/
section
variable {P : Program} {w : World} {K : Fg} {mg : Str → Option Value} {base : Heap}
theorem FnV.ofOk {k : Nat} {f : Addr} {fd : FuncData} {ps : List Str} {sp : Sp} {W : WF} (F : FnOk P w K mg base CX0 k f fd ps sp) (hl : ∀ as c P R, W as c P R → as.length = ps.length) (h : ∀ vs H Q E, spOf K mg W vs H Q E → sp vs H Q E) : FnV P w K mg base k f fd ps W :=
  ⟨hl, fun A outer s H args us vs Q E room e0 hb hv hsp => codeAny_mono (F.run A outer s H args us vs Q E room.room e0 hb hv (h _ _ _ _ hsp)) fun r s' q => by
    cases r with
    | error e => exact q.elim
    | ok fl => cases fl <;> exact q⟩
def W_draw : WF := fun as c P _ => ∃ many : Int, as = [.pen, .dat (.int many)] ∧ 0 < many ∧ many < 1073741824 ∧ c < 2 ^ 50 ∧ ∀ r : Int, 0 ≤ r → r < many → P (.dat (.int r)) (c + 1)
abbrev penA (a : Addr) (i d k f : Int) : List (Key × V) := [(.inr "cells", .ref a), (.inr "at", .int i), (.inr "digits", .int d), (.inr "count", .int k), (.inr "fold", .int f)]
/-- many from the pen at p -/
def spDraw : Sp := fun vs H Q _ => ∃ (p a : Addr) (ns : List Int) (many i d k f : Int), vs = [.ref p, .int many] ∧ 0 < many ∧ many < 1073741824 ∧ H p = some (.dK (penA a i d k f)) ∧ H a = some (.lst (ns.map V.int)) ∧ a ≠ p ∧
  0 ≤ i ∧ 0 ≤ d ∧ 0 ≤ k ∧ k < 2 ^ 50 ∧ 0 ≤ f ∧ f < 2 ^ 32 ∧ ∀ i' d' f' r : Int, 0 ≤ i' → 0 ≤ d' → 0 ≤ f' → f' < 2 ^ 32 → 0 ≤ r → r < many → Q (.int r) (upd H p (.dK (penA a i' d' (k + 1) f')))
theorem draw_sp (vs : List V) (H : Hp) (Q : VK) (E : XK) (h : spOf K mg W_draw vs H Q E) : spDraw vs H Q E := by
  obtain ⟨PN, Z, c, as, P1, R1, sub, pens, hr, ⟨many, rfl, h1, h2, h3, h4⟩, kQ, _⟩ := h
  cases hr with
  | cons b1 hr =>
    cases hr with
    | cons b2 hr =>
      cases hr
      obtain ⟨p, rfl, hp⟩ := b1
      have b2' : DR K Z _ (.int many) := b2
      cases b2'
      obtain ⟨⟨kvs, hk, a, ns, i, d, k, f, rfl, ha, q1, q2, q3, q4, q5, q6⟩, hz⟩ := pens p hp
      have hap : a ≠ p := by rintro rfl; rw [hz] at ha; cases ha
      refine ⟨p, a, ns, many, i, d, k, f, rfl, h1, h2, hk, sub _ _ ha, hap, q1, q2, q3, by omega, q5, q6, fun i' d' f' r g1 g2 g3 g4 g5 g6 => kQ _ _ _ Z _ (h4 r g5 g6) ?_ (.int r)⟩
      refine ⟨fun b o e n => by rw [upd_ne (fun z => n (by rw [z]; exact hp))]; exact e, fun b e => ?_, Sub.refl, fun b o e => ?_, fun b e => .inl e, fun b hb => ?_⟩
      · by_cases z : b = p
        · rw [z, upd_same] at e; cases e
        · rw [upd_ne z] at e; exact e
      · rw [upd_ne (fun z => by rw [z, hz] at e; cases e)]; exact sub _ _ e
      · by_cases z : b = p
        · subst z
          exact ⟨⟨_, upd_same, a, ns, i', d', k + 1, f', rfl, ha, g1, g2, by omega, by omega, g3, g4⟩, hz⟩
        · obtain ⟨u1, u2⟩ := pens b hb
          exact ⟨u1.mono Sub.refl (fun o e => by rw [upd_ne z]; exact e) (by omega), u2⟩
theorem draw_len (as : List Rv) (c : Nat) (P : Rv → Nat → Prop) (R : Exc → Nat → Prop) (h : W_draw as c P R) : as.length = 2 := by
  obtain ⟨_, rfl, _⟩ := h; rfl
end
end VL
namespace VL
open PySem PySem.Spec PyProof.Rows L2

/-! ### the law: its first statement makes the pen, the rest is told by data -/
/-- _law_pen(script): a new pen over a new list of the script's ints -/
def spPen (K : Fg) : Sp := fun vs H Q _ => ∃ (a : Addr) (ns : List Int), vs = [.ref a] ∧ SqL K H a (ns.map V.int) ∧ ns.length ≤ 63 ∧
  ∀ (p c : Addr) (f : Int) (H' : Hp), 0 ≤ f → f < 2 ^ 32 → H p = none → H c = none → c ≠ p → H' = upd (upd H c (.lst (ns.map V.int))) p (.dK (penA c 0 0 0 f)) → Q (.ref p) H'
def lawG (n : Nat) : Ga := ⟨.no :: .rv .pen :: List.replicate (n - 2) .no, 0⟩
def wTrue (ws : WS) (n : Nat) : Prop := ws ⟨fun _ => False, fun r _ => r = .dat (.bool true), fun _ => False, fun _ => False⟩ (lawG n)
section
variable {P : Program} {w : World} {K : Fg} {mg : Str → Option Value} {base : Heap}
theorem lawG_no {n i : Nat} : (lawG n).at (i + 2) = .no := by
  unfold lawG Ga.at
  rw [List.getD_eq_getElem?_getD, List.getElem?_cons_succ, List.getElem?_cons_succ, List.getElem?_replicate]
  split <;> rfl
theorem pen_rel {n : Nat} {p c a : Addr} {f : Int} {ns : List Int} {H H' : Hp} (hp : H p = none) (hc : H c = none) (ne : c ≠ p) (e : H' = upd (upd H c (.lst (ns.map V.int))) p (.dK (penA c 0 0 0 f))) (f0 : 0 ≤ f) (f1 : f < 2 ^ 32) :
    ∃ Z, Rel K ⟨fun q => q = p, Z, H', Z⟩ (lawG n) Z (fun _ => none) (some (.ref a) :: some (.ref p) :: List.replicate (n - 2) none) H' := by
  have hcp : H' c = some (.lst (ns.map V.int)) := by rw [e, upd_ne ne, upd_same]
  refine ⟨fun b => if b = c then some (.lst (ns.map V.int)) else none, ⟨by simp [lawG], fun b o q => ?_, ?_, fun b i q => (by cases q), fun i => ?_, fun b o q _ => q, Sub.refl, Sub.refl, fun b q => .inl q⟩⟩
  · by_cases z : b = c
    · subst z; rw [if_pos rfl] at q; rw [← q]; exact hcp
    · rw [if_neg z] at q; cases q
  · rintro q rfl
    refine ⟨⟨_, by rw [e]; exact upd_same, c, ns, 0, 0, 0, f, rfl, if_pos rfl, by decide, by decide, by decide, by simp [lawG], f0, f1⟩, if_neg (Ne.symm ne), rfl, ?_⟩
    show H' q ≠ none
    rw [e, upd_same]; simp
  · match i with
    | 0 => trivial
    | 1 => exact ⟨_, rfl, p, rfl, rfl⟩
    | i + 2 => rw [lawG_no]; trivial
/-- what the law's call leaves -/
def LawDone (P : Program) (w : World) (H : Hp) (s : Shared) (r : Result) (s' : Shared) : Prop := r = .ok (.ret (.bool true)) ∧ ∃ H', s'.os = s.os ∧ AllBare s'.gens ∧ Un (frs []) [] H H' s.heap s'.heap ∧ HOk P w H' s'.heap
/-- the law's body, at the outermost frame -/
theorem law_body {st first : Stmt} {rest : List Stmt} {fa : Addr} {fd : FuncData} {N : List Str} {k : Nat} {ws : WS} {a : Addr} {ns : List Int} {s : Shared} {H : Hp}
    (F : Fun K "law" "law" st fa fd) (S : FnScope N ["script"] (defScope st)) (hN : 2 ≤ N.length) (hs : defBody st = first :: rest)
    (room : RoomG (k + 1) callerA) (hscr : (defScope st).names.lookup (Str.ofString "script") = some .local)
    (hfirst : ∀ (cdv : Value) (A : Around) (outer : List Env) (s : Shared) (H : Hp), RoomG k (A.deeper (envOfC "law" (defScope st) s.heap.objs.size fa cdv)) →
      PS (cxOf (L2.CX P w) P w K mg base N "law" (defScope st) fa cdv A outer s H fun _ _ _ => False) first (tAsg (tCall (spPen K) [] E0 (tCons (tVar 0) tNil)) (gName 1)))
    (hbody : ∀ (cdv : Value) (A : Around) (outer : List Env) (s : Shared) (H : Hp) (G : Gh), RoomG k (A.deeper (envOfC "law" (defScope st) s.heap.objs.size fa cdv)) → ASs (cxOf (L2.CX P w) P w K mg base N "law" (defScope st) fa cdv A outer s H fun _ _ _ => False) G rest ws)
    (hw : wTrue ws N.length) (e0 : Env0 P w K mg base callerA [] s H) (hS : SqL K H a (ns.map V.int)) (hn : ns.length ≤ 63) (hb : BindsTo s fd ⟨[.ref a], []⟩ [(Str.ofString "script", .ref a)]) :
    codeAny (model P w) callerA (.call (.ref fa) ⟨[.ref a], []⟩) (LawDone P w H s) s := by
  obtain ⟨oc, od, kV, doc, pm, an, cdv, ct, osl, rfl, lk, hcd⟩ := F.ex
  have KX : K.In s.heap := e0.mod.kin.keeps fun b o e => (e0.bs b o e).1
  have lim : s.heap.NoLimit := e0.mod.nolimit.keeps fun b o e => (e0.bs b o e).1
  refine codeAny_call_function room.room.depth (KX _ _ lk) rfl S.co S.gen rfl (PySem.W.codeRec_of KX hcd) (hb _ _ _ _ (wpAny_newFunctionEnv_cells S.kind (fun y hy => ?_) ?_))
  · obtain rfl : y = (Str.ofString "script", Value.ref a) := List.mem_singleton.mp hy
    exact .inl hscr
  rintro env rfl s1 inCall
  refine ⟨lim.keeps inCall.toInCall.keep, codeAny_func ?_⟩
  have room' : RoomG k (callerA.deeper (envOfC "law" (defScope st) s.heap.objs.size fa cdv)) := ⟨room.room.deeper _, room.gd⟩
  have I := inv_start (CX := L2.CX P w) (E := fun _ _ _ => False) (vs := [.ref a]) S room.room.hd e0 rfl (.cons rfl .nil) inCall
  have hst : L2.start N [.ref a] = some (.ref a) :: none :: List.replicate (N.length - 2) none := by
    obtain ⟨m, hm⟩ : ∃ m, N.length = m + 2 := ⟨N.length - 2, by omega⟩
    simp [L2.start, hm, List.replicate_succ]
  rw [hst] at I
  have whole := pss_cons (hfirst cdv callerA [] s H room') (u := fun D σ H' => ∃ G, liftS K G ws D σ H') ⟨fun pins s σ H D I ⟨G, q⟩ => (hbody cdv callerA [] _ _ G room').run pins s σ H D I q⟩
  have done := whole.run [] s1 _ H { nx := fun _ _ => False, rt := fun v _ => v = .bl true } I ⟨_, rfl, a, ns, rfl, hS, hn, fun p c f H' f0 f1 hp hc ne e => ?_⟩
  · rw [← hs] at done
    refine wpAny_mono done (fun fl s' q => ?_) fun er s' q => ?_
    · cases fl with
      | next => obtain ⟨_, _, _, q⟩ := q; exact q.elim
      | brk => obtain ⟨_, _, _, q⟩ := q; exact q.elim
      | cont => obtain ⟨_, _, _, q⟩ := q; exact q.elim
      | ret u =>
        obtain ⟨v, σ', H', J, rv, q⟩ := q
        subst q
        obtain rfl : u = Value.bool true := rv
        exact ⟨rfl, H', J.os, J.bare, J.base, J.hok⟩
    · exact wpAny_mono q (fun _ _ ⟨_, _, _, _, _, _, _, _, _, _, _, _, z⟩ => z.elim) fun _ _ ⟨_, _, _, _, _, _, _, _, _, _, _, _, z⟩ => z.elim
  · obtain ⟨Z, R⟩ := pen_rel (K := K) (n := N.length) (a := a) hp hc ne e f0 f1
    exact ⟨_, _, Z, _, _, R, hw, ⟨fun Γ Z' O σ H' q _ => q.elim, fun r Γ Z' O σ H' v q _ x => by subst q; cases x; rfl, fun _ _ _ _ _ q => q.elim, fun _ _ _ _ _ q => q.elim⟩⟩
/-- the law's call, from any heap in which the script is a list of ints -/
theorem law_enter {mb : Str → Option Value} {fa a : Addr} {s : Shared} {vs : List Value} {ns : List Int} (KX : K.In s.heap) (hm : s.heap.Ns mainGlobals mg) (hb : s.heap.Ns builtinsNs mb) (hbb : ∀ x : Str, x ≠ "__name__" → mb x = bootBuiltins x) (lim : s.heap.NoLimit) (hg : s.gens = #[])
    (ha : s.heap.get? a = some { cls := .type "list", data := .seq vs.toArray }) (hi : IntsAre vs ns) (hl : ns.length ≤ 63)
    (F : ∀ (base : Heap) (H : Hp), K.In base → SqL K H a (ns.map V.int) → Env0 P w K mg base callerA [] s H → codeAny (model P w) callerA (.call (.ref fa) ⟨[.ref a], []⟩) (LawDone P w H s) s) :
    codeAny (model P w) callerA (.call (.ref fa) ⟨[.ref a], []⟩) (fun r s' => r = .ok (.ret (.bool true)) ∧ OldK s.heap s'.heap ∧ s'.os = s.os ∧ AllBare s'.gens) s := by
  have hz : ns.length ≤ sizeLine := Nat.le_trans hl (by decide)
  have hvs := vals_ints hi
  -- only the script may be tracked, and only where it is none of the module's own
  let ob : Obj := { cls := .type "list", data := .seq vs.toArray }
  let H : Hp := fun b => if b = a ∧ K.lookup a = none then some (.frz ob (.lst (ns.map V.int))) else none
  have hH : ∀ b u, H b = some u → b = a ∧ K.lookup a = none ∧ u = .frz ob (.lst (ns.map V.int)) := fun b u e => by
    by_cases q : b = a ∧ K.lookup a = none
    · rw [show H b = _ from if_pos q] at e; exact ⟨q.1, q.2, (Option.some.inj e).symm⟩
    · rw [show H b = _ from if_neg q] at e; cases e
  have hS : SqL K H a (ns.map V.int) := by
    cases e : K.lookup a with
    | none => exact .inl (.inr ⟨ob, if_pos ⟨rfl, e⟩⟩)
    | some o =>
      have e2 := KX a o e
      rw [ha] at e2; cases e2
      exact .inr ⟨_, vs.toArray, _, e, rfl, rfl, rfl, by rw [List.size_toArray, hi.length]; exact hz, by simpa using hvs⟩
  have hok : HOk P w H s.heap := fun b u e => by
    obtain ⟨rfl, _, rfl⟩ := hH b u e
    exact ⟨ha, by rw [List.length_map]; exact hz, vs, _, hvs, ha⟩
  have free : ∀ {b : Addr} {o : Obj}, s.heap.get? b = some o → (b = a → K.lookup a ≠ none) → H b = none := fun {b o} e n => by
    cases q : H b with
    | none => rfl
    | some u => obtain ⟨h1, h2, _⟩ := hH b u q; exact absurd h2 (n h1)
  have toB : ∀ {b : Addr} {o : Obj}, s.heap.get? b = some o → H b = none → (hidT s.heap H).get? b = some o := fun e n => hidT_get e n
  have ns' : ∀ {b : Addr} {m : Str → Option Value}, s.heap.Ns b m → (hidT s.heap H).Ns b m := fun {b m} ⟨o, es, ep, e, d, r⟩ => ⟨o, es, ep, toB e (by
    cases q : H b with
    | none => rfl
    | some u =>
      obtain ⟨rfl, _, _⟩ := hH b u q
      rw [ha] at e; cases e; cases d), d, r⟩
  have inB : K.In (hidT s.heap H) := fun b o e => toB (KX b o e) (free (KX b o e) fun q => by subst q; rw [e]; simp)
  have mod : Mod K mg (hidT s.heap H) := ⟨inB, ns' hm, ⟨mb, ns' hb, hbb⟩, by obtain ⟨m, h1, h2⟩ := lim; exact ⟨m, ns' h1, h2⟩⟩
  have e0 : Env0 P w K mg (hidT s.heap H) callerA [] s H := ⟨rfl, mod, fun b o e => of_hidT e, Nat.le_of_eq (hidT_size _ _), trivial, fun b hb => (by cases hb), hok, .of_eq hg⟩
  refine codeAny_mono (F _ H inB hS e0) fun r s' q => ?_
  obtain ⟨rfl, H', os, bare, un, hok'⟩ := q
  refine ⟨rfl, OldK.of_keep fun b o e => ?_, os, bare⟩
  cases q : H b with
  | none => exact un.keep b o e q (fun z => by cases z) (by simp)
  | some u =>
    obtain ⟨rfl, h2, rfl⟩ := hH b u q
    have e2 := (hok' b _ (un.frzs b ob _ q)).1
    rw [ha] at e; cases e
    exact e2
/-- THE END: the goal that k_head leaves for the law's call -/
theorem vl_walk {l : PySem.W.OpenLaw} {q : Program} {loose : List Str} {XP : (Str → Option Value) → Heap → Prop} {YP : World → Heap → Prop} {d : DefRec} (hn : l.most = some 63) (hd : d.params.defaults = [])
    (F : ∀ (w : World) (mg : Str → Option Value) (fa : Addr) (h : Heap), YP w h → h.Ns mainGlobals mg → mg d.name = some (.ref fa) → ∃ K : Fg, K.In h ∧
      ∀ (base : Heap) (H : Hp) (a : Addr) (ns : List Int) (s : Shared), ns.length ≤ 63 → K.In base → SqL K H a (ns.map V.int) → Env0 l.prog w K mg base callerA [] s H → codeAny (model l.prog w) callerA (.call (.ref fa) ⟨[.ref a], []⟩) (LawDone l.prog w H s) s) :
    PySem.W.WalkO q loose XP YP l.row.toRowW d [] (fun f vs => PySem.call f vs) :=
  Att.attach_call hn hd fun w s₀ s₁ mg mb fa o pm cd doc a vs ns G Y ho hdt hcd hmg hobj hints hlen hg => by
    obtain ⟨K, KX, k⟩ := F w mg fa _ Y G.T.g hmg
    exact law_enter KX G.T.g G.T.b G.T.builtins G.T.nolimit hg hobj hints hlen fun base H h1 h2 h3 => k base H a ns s₁ hlen h1 h2 h3
/-- the same over k_head's written part -/
theorem vl_walkK {l : PySem.W.OpenLaw} {q : Program} {loose : List Str} {XP : (Str → Option Value) → Heap → Prop} {YP : World → Heap → Prop} {d : DefRec} {K : Params → Fg} (hn : l.most = some 63) (hd : d.params.defaults = []) (hY : ∀ (w : World) (h : Heap), YP w h → (K w.params).In h)
    (F : ∀ (w : World) (mg : Str → Option Value) (fa : Addr) (h : Heap), (K w.params).In h → h.Ns mainGlobals mg → mg d.name = some (.ref fa) →
      ∀ (base : Heap) (H : Hp) (a : Addr) (ns : List Int) (s : Shared), ns.length ≤ 63 → (K w.params).In base → SqL (K w.params) H a (ns.map V.int) → Env0 l.prog w (K w.params) mg base callerA [] s H → codeAny (model l.prog w) callerA (.call (.ref fa) ⟨[.ref a], []⟩) (LawDone l.prog w H s) s) :
    PySem.W.WalkO q loose XP YP l.row.toRowW d [] (fun f vs => PySem.call f vs) := vl_walk hn hd fun w mg fa h Y G e => ⟨K w.params, hY w h Y, F w mg fa h (hY w h Y) G e⟩
end
end VL
namespace VL
open PySem PySem.Spec PyProof.Rows L2

/-! ### the two defs of the pen -/
abbrev rAddI : R2 := rI0 fun i j => .int (i + j)
abbrev rSubI : R2 := rI0 fun i j => .int (i - j)
abbrev rMulI : R2 := rI CMul fun i j => .int (i * j)
abbrev rModI : R2 := rI (fun _ j => 0 < j) fun i j => .int (i % j)
abbrev rDivI : R2 := rI CDivN fun i j => .int (i.fdiv j)
abbrev rPowI : R2 := rI CPow fun i j => .int (i ^ j.toNat)
abbrev rGeI : R2 := rI0 fun i j => .bl (decide (j ≤ i))
abbrev rGtI : R2 := rI0 fun i j => .bl (decide (j < i))
abbrev rLtI : R2 := rI0 fun i j => .bl (decide (i < j))
abbrev rLstP (K : Fg) : List V → Hp → VK → Prop := fun xs H Q => ∃ p ys, xs = [.ref p] ∧ (SqL K H p ys ∨ SqT K H p ys) ∧ ∀ l, H l = none → Q (.ref l) (upd H l (.lst ys))
abbrev kS (s : String) : TE := tC (.str s)
abbrev kI (i : Int) : TE := tC (.int i)
def tPen (K : Fg) (c0 c1 c2 : Int) : TS :=
  tSeq (tAsg (kI c0) (gName 1)) (tSeq (tFor (iList K (tVar 0)) (gName 2) (tAsg (tOp rModI (tCB rInt1 (tCons (tOp rAddI (tOp rMulI (tVar 1) (kI c1)) (tVar 2)) tNil)) (kI c2)) (gName 1)))
  (tRet (tDisp [(kS "cells", tCB (rLstP K) (tCons (tVar 0) tNil)), (kS "at", kI 0), (kS "digits", kI 0), (kS "count", kI 0), (kS "fold", tVar 1)])))
theorem pen_goal {K : Fg} {c0 c1 c2 : Int} (h0 : 0 ≤ c0) (h0' : c0 < 2 ^ 32) (h1 : 0 ≤ c1) (h1' : c1 < 2 ^ 32) (h2 : 0 < c2) (h2' : c2 < 2 ^ 32) {vs : List V} {H : Hp} {Q : VK} {E : XK} (h : spPen K vs H Q E) {N : List Str} (hN : N.length = 3) :
    tPen K c0 c1 c2 { nx := fun _ H' => Q .non H', rt := Q } (L2.start N vs) H := by
  obtain ⟨a, ns, rfl, hS, hn, k⟩ := h
  have hst : L2.start N [.ref a] = [some (.ref a), none, none] := by simp [L2.start, hN, List.replicate_succ]
  rw [hst]
  dsimp only [tPen, tSeq, tAsg, tC, gName, List.set]
  refine ⟨_, rfl, a, rfl, ⟨_, hS⟩, fun i m σ H' => ∃ (f : Int) (x : Option V), 0 ≤ f ∧ f < 2 ^ 32 ∧ m = ns.length - i ∧ H' = H ∧ σ = [some (.ref a), some (.int f), x], ⟨_, c0, none, h0, h0', rfl, rfl, rfl⟩, ?_⟩
  rintro i m σ H' ⟨f, x, f0, f1, rfl, rfl, rfl⟩
  by_cases hi : i < ns.length
  · refine .inr ⟨⟨_, V.int ns[i], hS, by simp [hi]⟩, _, fun _ _ z => z, fun x' H2 ⟨e, hx⟩ => ?_⟩
    subst e
    have e := hx _ hS
    rw [List.getElem?_map, List.getElem?_eq_getElem hi] at e
    obtain rfl : V.int ns[i] = x' := Option.some.inj e
    show tAsg _ _ _ [some (.ref a), some (.int f), some (.int ns[i])] H2
    refine ⟨_, rfl, f, c1, rfl, rfl, .inl ⟨by omega, by omega⟩, _, rfl, _, _, rfl, rfl, .inl ⟨_, rfl, _, c2, rfl, rfl, h2, ?_⟩⟩
    refine ⟨_, Nat.sub_lt_sub_left hi (Nat.lt_succ_self i), _, _, Int.emod_nonneg _ (by omega), ?_, rfl, rfl, rfl⟩
    have := Int.emod_lt_of_pos (f * c1 + ns[i]) h2
    omega
  · refine .inl ⟨⟨_, hS, by simpa using hi⟩, fun p hp => ?_⟩
    have hS' : SqL K (upd H' p (.dK [])) a (ns.map V.int) := by
      have up : ∀ {o : HO}, H' a = some o → upd H' p (.dK []) a = some o := fun {o} e => by rw [upd_ne (fun z => by rw [z, hp] at e; cases e)]; exact e
      rcases hS with (r | ⟨o, r⟩) | r
      · exact .inl (.inl (up r))
      · exact .inl (.inr ⟨o, up r⟩)
      · exact .inr r
    refine ⟨_, rfl, a, _, rfl, .inl hS', fun c hc => ?_⟩
    have cp : c ≠ p := by rintro rfl; rw [upd_same] at hc; cases hc
    refine ⟨_, rfl, ?_, penA c 0 0 0 f, rfl, by simp [penA], ?_⟩
    · rw [upd_ne (Ne.symm cp), upd_same]
    · rw [show mergeK [] (penA c 0 0 0 f) = penA c 0 0 0 f from rfl]
      refine k p c f _ f0 f1 hp (by rw [upd_ne cp] at hc; exact hc) cp ?_
      funext b
      by_cases q : b = p
      · rw [q, upd_same, upd_same]
      · rw [upd_ne q, upd_ne q]
        by_cases q' : b = c
        · rw [q', upd_same, upd_same]
        · rw [upd_ne q', upd_ne q', upd_ne q]
abbrev tD (i : Nat) (k : String) : TE := tDGet (tVar i) (kS k)
abbrev tPut (k : String) (v : TE) : TS := sDPut (tVar 0) (kS k) v
abbrev tIntOf (t : TE) : TE := tCB rInt1 (tCons t tNil)
abbrev rLenP (K : Fg) : List V → Hp → VK → Prop := fun xs H Q => ∃ p ys, xs = [.ref p] ∧ (SqL K H p ys ∨ SqT K H p ys) ∧ Q (.int ys.length) H
/-- slots: pen, many, cell, digit, blend -/
def tDraw (K : Fg) (c1 c2 c3 c4 c5 c6 c7 : Int) : TS :=
  tSeq (tPut "count" (tOp rAddI (tD 0 "count") (kI 1)))
  (tSeq (tIfS (tAnd (tB (tOp rEq (tD 0 "digits") (kI 0))) (tB (tOp rLtI (tD 0 "at") (tCB (rLenP K) (tCons (tD 0 "cells") tNil)))))
    (tSeq (tAsg (tOp (rIx K) (tD 0 "cells") (tD 0 "at")) (gName 2))
    (tSeq (tPut "at" (tOp rAddI (tD 0 "at") (kI 1)))
      (tIfS (tB (tOp rGeI (tVar 2) (tOp rPowI (kI 10) (kI 18)))) (tPut "digits" (tOp rSubI (tVar 2) (tOp rPowI (kI 10) (kI 18))))
        (tPut "fold" (tOp rModI (tIntOf (tOp rAddI (tOp rMulI (tD 0 "fold") (kI c1)) (tVar 2))) (kI c2))))))
    tNext)
  (tSeq (tIfS (tB (tOp rGtI (tD 0 "digits") (kI 0)))
    (tSeq (tAsg (tOp rModI (tIntOf (tD 0 "digits")) (tVar 1)) (gName 3)) (tSeq (tPut "digits" (tOp rDivI (tD 0 "digits") (tVar 1))) (tRet (tVar 3))))
    tNext)
  (tSeq (tAsg (tOp rAddI (tOp rAddI (tD 0 "fold") (tOp rMulI (tD 0 "count") (kI c3))) (kI c4)) (gName 4))
    (tRet (tOp rModI (tOp rDivI (tIntOf (tOp rModI (tOp rPowI (tVar 4) (kI c5)) (kI c6))) (kI c7)) (tVar 1))))))
theorem upd_twice {H : Hp} {p : Addr} {o o' : HO} : upd (upd H p o) p o' = upd H p o' := by
  funext b
  by_cases q : b = p
  · rw [q, upd_same, upd_same]
  · rw [upd_ne q, upd_ne q, upd_ne q]
theorem lt5 {a : Addr} {i d k f : Int} : (penA a i d k f).length < sizeLine := by show 5 < sizeLine; decide
theorem draw_goal {K : Fg} {c1 c2 c3 c4 c5 c6 c7 : Int} (h1 : 0 ≤ c1 ∧ c1 < 2 ^ 32) (h2 : 0 < c2 ∧ c2 < 2 ^ 32) (h3 : 0 ≤ c3 ∧ c3 < 10000) (h4 : 0 ≤ c4 ∧ c4 < 2 ^ 32) (h5 : 0 ≤ c5 ∧ c5 < 100) (h6 : 0 < c6) (h7 : 0 < c7 ∧ c7 < 1073741824)
    {vs : List V} {H : Hp} {Q : VK} {E : XK} (h : spDraw vs H Q E) {N : List Str} (hN : N.length = 5) : tDraw K c1 c2 c3 c4 c5 c6 c7 { nx := fun _ H' => Q .non H', rt := Q } (L2.start N vs) H := by
  obtain ⟨p, a, ns, many, i, d, k, f, rfl, m0, m1, hp, ha, ap, i0, d0, k0, k1, f0, f1, kQ⟩ := h
  have hst : L2.start N [.ref p, .int many] = [some (.ref p), some (.int many), none, none, none] := by simp [L2.start, hN, List.replicate_succ]
  rw [hst]
  -- what stands behind the second statement
  have rest : ∀ (i d f : Int) (x : Option V), 0 ≤ i → 0 ≤ d → 0 ≤ f → f < 2 ^ 32 → (tSeq (tIfS (tB (tOp rGtI (tD 0 "digits") (kI 0)))
    (tSeq (tAsg (tOp rModI (tIntOf (tD 0 "digits")) (tVar 1)) (gName 3)) (tSeq (tPut "digits" (tOp rDivI (tD 0 "digits") (tVar 1))) (tRet (tVar 3))))
    tNext)
  (tSeq (tAsg (tOp rAddI (tOp rAddI (tD 0 "fold") (tOp rMulI (tD 0 "count") (kI c3))) (kI c4)) (gName 4))
    (tRet (tOp rModI (tOp rDivI (tIntOf (tOp rModI (tOp rPowI (tVar 4) (kI c5)) (kI c6))) (kI c7)) (tVar 1))))) { nx := fun _ H' => Q .non H', rt := Q } [some (.ref p), some (.int many), x, none, none] (upd H p (.dK (penA a i d (k + 1) f))) := by
    intro i d f x i0 d0 f0 f1
    refine ⟨_, rfl, p, _, rfl, DGet.k (k := .inr "digits") upd_same, d, 0, rfl, rfl, _, rfl, ?_⟩
    dsimp only
    by_cases hd : 0 < d
    · rw [decide_eq_true hd, if_pos rfl]
      refine ⟨_, rfl, p, _, rfl, DGet.k (k := .inr "digits") upd_same, .inl ⟨_, rfl, _, rfl, _, _, rfl, rfl, m0, ?_⟩⟩
      refine ⟨_, rfl, p, _, rfl, DGet.k (k := .inr "digits") upd_same, _, rfl, _, _, rfl, rfl, ⟨by omega, by omega⟩, _, rfl, p, _, rfl, DPut.k (k := .inr "digits") upd_same lt5, _, rfl, ?_⟩
      rw [upd_twice]
      exact kQ _ _ _ _ i0 (by rw [Int.fdiv_eq_ediv_of_nonneg _ (by omega)]; exact Int.ediv_nonneg (by omega) (by omega)) f0 f1 (Int.emod_nonneg _ (by omega)) (Int.emod_lt_of_pos _ m0)
    · rw [decide_eq_false hd, if_neg (by decide)]
      refine ⟨_, rfl, p, _, rfl, DGet.k (k := .inr "fold") upd_same, _, rfl, p, _, rfl, DGet.k (k := .inr "count") upd_same, _, _, rfl, rfl, .inr ⟨by omega, by omega⟩, _, _, rfl, rfl, _, _, rfl, rfl, ?_⟩
      have b0 : 0 ≤ (k + 1) * c3 := Int.mul_nonneg (by omega) h3.1
      have b1 : (k + 1) * c3 ≤ (k + 1) * 10000 := Int.mul_le_mul_of_nonneg_left (by omega) (by omega)
      refine ⟨_, rfl, _, _, rfl, rfl, ⟨h5.1, by omega, by omega⟩, _, _, rfl, rfl, h6, .inl ⟨_, rfl, _, _, rfl, rfl, ⟨by omega, by omega⟩, _, rfl, _, _, rfl, rfl, m0, ?_⟩⟩
      exact kQ _ _ _ _ i0 d0 f0 f1 (Int.emod_nonneg _ (by omega)) (Int.emod_lt_of_pos _ m0)
  have fz : tIntOf = tIntOf := rfl
  refine ⟨_, rfl, p, _, rfl, DGet.k (k := .inr "count") hp, k, 1, rfl, rfl, _, rfl, p, _, rfl, DPut.k (k := .inr "count") hp lt5, ?_⟩
  show (tSeq _ _) _ _ (upd H p (.dK (penA a i d (k + 1) f)))
  have ha' : ∀ o, upd H p o a = some (.lst (ns.map V.int)) := fun o => by rw [upd_ne ap]; exact ha
  refine ⟨_, rfl, p, _, rfl, DGet.k (k := .inr "digits") upd_same, rfl, _, rfl, ?_⟩
  dsimp only
  by_cases hd : V.int d = V.int 0
  · rw [decide_eq_true hd, if_pos rfl]
    have hd : d = 0 := by cases hd; rfl
    refine ⟨_, rfl, p, _, rfl, DGet.k (k := .inr "at") upd_same, _, rfl, p, _, rfl, DGet.k (k := .inr "cells") upd_same, a, _, rfl, .inl (SqL.of (ha' _)), i, _, rfl, rfl, _, rfl, ?_⟩
    dsimp only
    by_cases hi : i < (ns.map V.int).length
    · rw [decide_eq_true hi, if_pos rfl]
      have hi' : i.toNat < ns.length := by rw [List.length_map] at hi; omega
      have hg : L2.atI (ns.map V.int) i = some (.int ns[i.toNat]) := by
        unfold L2.atI
        rw [show ixN (ns.map V.int).length i = some i.toNat from by unfold ixN; rw [List.length_map] at hi ⊢; simp [i0, hi]]
        simp [hi']
      refine ⟨_, rfl, p, _, rfl, DGet.k (k := .inr "cells") upd_same, _, rfl, p, _, rfl, DGet.k (k := .inr "at") upd_same, .inl ⟨a, _, i, _, rfl, rfl, SqL.of (ha' _), hg, ?_⟩⟩
      refine ⟨_, rfl, p, _, rfl, DGet.k (k := .inr "at") upd_same, i, 1, rfl, rfl, _, rfl, p, _, rfl, DPut.k (k := .inr "at") upd_same lt5, ?_⟩
      rw [upd_twice]
      refine ⟨_, rfl, 10, 18, rfl, rfl, ⟨by decide, by decide, by decide⟩, _, _, rfl, rfl, _, rfl, ?_⟩
      dsimp only
      by_cases hc : (10 : Int) ^ (18 : Int).toNat ≤ ns[i.toNat]
      · rw [decide_eq_true hc, if_pos rfl]
        refine ⟨_, rfl, 10, 18, rfl, rfl, ⟨by decide, by decide, by decide⟩, _, _, rfl, rfl, _, rfl, p, _, rfl, DPut.k (k := .inr "digits") upd_same lt5, ?_⟩
        rw [upd_twice]
        exact rest _ _ _ _ (by omega) (by omega) f0 f1
      · rw [decide_eq_false hc, if_neg (by decide)]
        refine ⟨_, rfl, p, _, rfl, DGet.k (k := .inr "fold") upd_same, f, c1, rfl, rfl, .inl ⟨by omega, by omega⟩, _, rfl, _, _, rfl, rfl, .inl ⟨_, rfl, _, c2, rfl, rfl, h2.1, _, rfl, p, _, rfl, DPut.k (k := .inr "fold") upd_same lt5, ?_⟩⟩
        rw [upd_twice]
        have := Int.emod_lt_of_pos (f * c1 + ns[i.toNat]) h2.1
        exact rest _ _ _ _ (by omega) d0 (Int.emod_nonneg _ (by omega)) (by omega)
    · rw [decide_eq_false hi, if_neg (by decide)]
      exact rest _ _ _ _ i0 d0 f0 f1
  · rw [decide_eq_false hd, if_neg (by decide)]
    exact rest _ _ _ _ i0 d0 f0 f1
end VL
namespace VL
open PySem PySem.Spec PyProof.Rows L2

/-! ### the top of a law's program -/
theorem RoomG.u64 {k : Nat} {A : Around} (r : RoomG k A) : A.units + 64 < cLine := r.room.units
theorem RoomG.u65 {k : Nat} {A : Around} (r : RoomG k A) : A.units + 65 < cLine := by have := r.room.un; omega
theorem RoomG.u66 {k : Nat} {A : Around} (r : RoomG k A) : A.units + 66 < cLine := by have := r.room.un; omega
def cmOf (l : List ((Str × Str) × Bool)) : CMt := fun y x => l.lookup (y, x)
theorem lookup_mem {α β : Type} [BEq α] [LawfulBEq α] {k : α} {b : β} : ∀ {l : List (α × β)}, l.lookup k = some b → (k, b) ∈ l
  | [], h => by cases h
  | (x, y) :: r, h => by
    rw [List.lookup_cons] at h
    split at h
    · rename_i e
      have e' : k = x := by simpa using e
      cases h; rw [e']; exact .head _
    · exact .tail _ (lookup_mem h)
section
variable (K : Fg) (mg : Str → Option Value)
def DefAt (x : Str) (st : Stmt) : Prop := ∃ (f : Addr) (fd : FuncData), Fun K x x st f fd ∧ mg x = some (.ref f)
structure ErrIn (x f : Str) (g : Option Str) (st : Stmt) (q : Str) (C fI : Addr) (fd : FuncData) : Prop where
  gC : mg x = some (.ref C)
  ox : OexC K C
  xf : XfC K C
  iC : PySem.W.findIn K (.ref C) "__init__" = some (some (.ref fI))
  tI : PySem.W.typeIn K (.ref fI) = some (.type "function")
  nf : PySem.W.findIn K (.ref C) f = some none
  ng : ∀ y, g = some y → PySem.W.findIn K (.ref C) y = some none
  fn : Fun K "__init__" q st fI fd
def ErrAt (x f : Str) (g : Option Str) (st : Stmt) (q : Str) : Prop := ∃ (C fI : Addr) (fd : FuncData), ErrIn K mg x f g st q C fI fd
/-- a class of errors as a clause and its suite see it -/
def SeeAt (x : Str) (fs : List Str) : Prop := ∃ C : Addr, mg x = some (.ref C) ∧ XfC K C ∧ ∀ f ∈ fs, PySem.W.findIn K (.ref C) f = some none
def CmAt (l : List ((Str × Str) × Bool)) : Prop := ∀ y x b, cmOf l y x = some b → ∃ D C : Addr, mg y = some (.ref D) ∧ mg x = some (.ref C) ∧ PySem.W.exmOne K (.ref D) (.ref C) = some b
end
section
variable {P : Program} {w : World} {K : Fg} {mg : Str → Option Value} {base : Heap} {h : Heap}
theorem defAt_of {x : Str} {st : Stmt} (X : K.In h) (G : h.Ns mainGlobals mg) {f : Addr} {oc : Value} {od an : Option Addr} {osl : Array (Option Value)} {kV doc pm cdv ct : Value} (a : PySem.W.nsIn K mainGlobals x = some (some (.ref f)))
    (l : K.lookup f = some ⟨oc, od, .func (PySem.W.fnOf x x (defArgs st) (defBody st) (defScope st) .none kV doc pm an cdv ct), osl⟩) (c : PySem.W.codeIn K cdv x = true) (k : PySem.W.keepIn K (.ref f) = true) : DefAt K mg x st :=
  ⟨f, _, fun_mk l c k, PySem.W.mg_of X G a⟩
theorem cm_nil : CmAt K mg [] := fun y x b e => by cases e
theorem cm_cons {y x : Str} {b : Bool} {l : List ((Str × Str) × Bool)} {D C : Addr} (h1 : mg y = some (.ref D)) (h2 : mg x = some (.ref C)) (h3 : PySem.W.exmOne K (.ref D) (.ref C) = some b) (r : CmAt K mg l) : CmAt K mg (((y, x), b) :: l) := fun y' x' b' e => by
  unfold cmOf at e
  rw [List.lookup_cons] at e
  split at e
  · rename_i q
    have q' : (y', x') = (y, x) := by simpa using q
    cases q'; cases e
    exact ⟨D, C, h1, h2, h3⟩
  · exact r _ _ _ e
theorem CmAt.run {l : List ((Str × Str) × Bool)} (h : CmAt K mg l) {x : Str} {C : Addr} (hx : mg x = some (.ref C)) : ∀ y D b, cmOf l y x = some b → mg y = some (.ref D) → PySem.W.exmOne K (.ref D) (.ref C) = some b := fun y D b e hy => by
  obtain ⟨D', C', h1, h2, h3⟩ := h y x b e
  rw [hy] at h1; rw [hx] at h2
  cases h1; cases h2
  exact h3
theorem call_of {x : Str} {st : Stmt} {N ps : List Str} {k : Nat} {ws : (Exc → Ga → Prop) → WS} (D : DefAt K mg x st) (S : FnScope N ps (defScope st))
    (hb : ∀ (kV doc pm : Value) (an : Option Addr) (cdv ct : Value) (us : List Value), us.length = ps.length → bindArgs (PySem.W.fnOf x x (defArgs st) (defBody st) (defScope st) .none kV doc pm an cdv ct) ⟨us, []⟩ = pure (ps.zip us))
    (hbody : ∀ (f : Addr) (cdv : Value) (A : Around) (outer : List Env) (s : Shared) (H : Hp) (E : XK) (G : Gh) (Ex : Exc → Ga → Prop), RoomG k (A.deeper (envOfC x (defScope st) s.heap.objs.size f cdv)) →
      Takes (cxOf (L2.CX P w) P w K mg base N x (defScope st) f cdv A outer s H E) (WEx K mg G Ex) → ASs (cxOf (L2.CX P w) P w K mg base N x (defScope st) f cdv A outer s H E) (G.wb G.Z0) (defBody st) (ws Ex)) : CallOk P w K mg base (k + 1) x ps (wDef N.length ps.length ws) := by
  obtain ⟨f, fd, F, hm⟩ := D
  exact ⟨f, fd, fv_of F S (hbody f), F.kp, F.binds hb, hm⟩
theorem err_of {x f : Str} {g : Option Str} {st : Stmt} {q : Str} {ps : List Str} (D : ErrAt K mg x f g st q)
    (hb : ∀ (kV doc pm : Value) (an : Option Addr) (cdv ct : Value) (us : List Value), us.length = ps.length → bindArgs (PySem.W.fnOf "__init__" q (defArgs st) (defBody st) (defScope st) .none kV doc pm an cdv ct) ⟨us, []⟩ = pure (ps.zip us))
    (ok : ∀ (C fI : Addr) (fd : FuncData), Fun K "__init__" q st fI fd → OexC K C → PySem.W.findIn K (.ref C) f = some none → (∀ y, g = some y → PySem.W.findIn K (.ref C) y = some none) → ∀ (P : Program) (w : World) (base : Heap), FnOk P w K mg base (L2.CX P w) 1 fI fd ps (spI C K f g)) : ErrOk K mg x f g := by
  obtain ⟨C, fI, fd, e⟩ := D
  exact ⟨C, fI, fd, ps, ⟨e.gC, e.ox, e.iC, e.tI, e.nf, e.ng, e.fn.binds hb, fun P w base => by
    have z := ok C fI fd e.fn e.ox e.nf e.ng P w base
    cases g <;> exact z⟩, e.xf⟩
theorem init1_of {f : Str} {st : Stmt} {q n0 n1 : Str} {C fI : Addr} {fd : FuncData} (F : Fun K "__init__" q st fI fd) (S : FnScope [n0, n1] [n0, n1] (defScope st)) (ox : OexC K C) (nf : PySem.W.findIn K (.ref C) f = some none)
    (hbody : ∀ (P : Program) (w : World) (base : Heap) (cdv : Value) (A : Around) (outer : List Env) (s : Shared) (H : Hp) (E : XK), PSs (cxOf (L2.CX P w) P w K mg base [n0, n1] q (defScope st) fI cdv A outer s H E) (defBody st) (tOst K f (tVar 0) (tVar 1))) (P : Program) (w : World) (base : Heap) :
    FnOk P w K mg base (L2.CX P w) 1 fI fd [n0, n1] (spI C K f none) := F.okX S spI_len1 fun cdv A outer s H vs Q E hr h => ⟨_, hbody P w base cdv A outer s H E, init1_rd ox nf vs H Q E h⟩
theorem init2_of {f y : Str} {st : Stmt} {q n0 n1 n2 : Str} {C fI : Addr} {fd : FuncData} (F : Fun K "__init__" q st fI fd) (S : FnScope [n0, n1, n2] [n0, n1, n2] (defScope st)) (ox : OexC K C) (nf : PySem.W.findIn K (.ref C) f = some none) (ny : PySem.W.findIn K (.ref C) y = some none)
    (hbody : ∀ (P : Program) (w : World) (base : Heap) (cdv : Value) (A : Around) (outer : List Env) (s : Shared) (H : Hp) (E : XK), PSs (cxOf (L2.CX P w) P w K mg base [n0, n1, n2] q (defScope st) fI cdv A outer s H E) (defBody st) (tSeq (tOst K f (tVar 0) (tVar 1)) (tOst K y (tVar 0) (tVar 2)))) (P : Program) (w : World) (base : Heap) :
    FnOk P w K mg base (L2.CX P w) 1 fI fd [n0, n1, n2] (spI C K f (some y)) := F.okX S spI_len2 fun cdv A outer s H vs Q E hr h => ⟨_, hbody P w base cdv A outer s H E, init2_rd ox nf ny vs H Q E h⟩
/-- what the facts of the written part say of a class of errors -/
theorem errAt_of {x f : Str} {g : Option Str} {st : Stmt} {q : Str} (X : K.In h) (G : h.Ns mainGlobals mg) {C fI : Addr} {nm qn : Str} {N : Addr} {bs bm : List Value} {sn : List Str} {sub : List Value} {ab : Bool} {col : Option Bool} {dd : Option Addr} {m0 m1 m2 m3 m5 : Option Value}
    {oc : Value} {od an : Option Addr} {osl : Array (Option Value)} {kV doc pm cdv ct : Value} (a : PySem.W.nsIn K mainGlobals x = some (some (.ref C)))
    (xL : K.lookup C = some (excClassObj nm qn C N bs bm true sn sub ab col dd m0 m1 m2 m3 m5 "ValueError.__new__")) (xr : PySem.HandSPX.refsVE bm = true)
    (sa : PySem.W.findIn K (.ref C) "__setattr__" = some (some (.builtin "object.__setattr__"))) (eC : PySem.W.subIn K (.ref C) (.type "BaseException") = some true) (tC : PySem.W.typeIn K (.ref C) = some (.type "type")) (kC : PySem.W.keepIn K (.ref C) = true)
    (xf : XfC K C) (iC : PySem.W.findIn K (.ref C) "__init__" = some (some (.ref fI))) (tI : PySem.W.typeIn K (.ref fI) = some (.type "function")) (nf : PySem.W.findIn K (.ref C) f = some none) (ng : ∀ y, g = some y → PySem.W.findIn K (.ref C) y = some none)
    (l : K.lookup fI = some ⟨oc, od, .func (PySem.W.fnOf "__init__" q (defArgs st) (defBody st) (defScope st) .none kV doc pm an cdv ct), osl⟩) (c : PySem.W.codeIn K cdv q = true) (k : PySem.W.keepIn K (.ref fI) = true) : ErrAt K mg x f g st q :=
  ⟨C, fI, _, PySem.W.mg_of X G a, ⟨⟨nm, qn, N, bs, bm, sn, sub, ab, col, dd, m0, m1, m2, m3, m5, xL, xr⟩, sa, eC, tC, kC⟩, xf, iC, tI, nf, ng, fun_mk l c k⟩
theorem exm_of {S T : Addr} {b : Bool} (sb : PySem.W.subIn K (.ref T) (.type "BaseException") = some true) (ic : PySem.W.isClsIn K T = true) (ty : PySem.W.typeIn K (.ref T) = some (.type "type")) (st : PySem.W.subIn K (.ref S) (.ref T) = some b) : PySem.W.exmOne K (.ref S) (.ref T) = some b := by
  have ic' : (PySem.W.clsIn K T).isSome = true := ic
  have q1 : (PySem.W.subIn K (.ref T) (.type "BaseException") == some true) = true := by rw [sb]; rfl
  have q2 : ((PySem.W.clsIn K T).isSome && PySem.W.typeIn K (.ref T) == some (.type "type")) = true := by rw [ic', ty]; rfl
  have e : PySem.W.exmOne K (.ref S) (.ref T) = if (PySem.W.subIn K (.ref T) (.type "BaseException") == some true) = true then (if ((PySem.W.clsIn K T).isSome && PySem.W.typeIn K (.ref T) == some (.type "type")) = true then PySem.W.subIn K (.ref S) (.ref T) else none) else none := rfl
  rw [e, if_pos q1, if_pos q2, st]
end
end VL
namespace VL
open PySem PySem.Spec PyProof.Rows L2
/-! ### more rules -/
section
variable {X : Cx} {G : Gh} {a b c : Expr} {pos p p2 q : Pos}
theorem rg_drs {K : Fg} {Z : Hp} {i j : Int} : DRs K Z (rgV i j) (rangeD i (j - i).toNat) := by
  unfold rgV rangeD
  generalize List.range (j - i).toNat = l
  induction l with
  | nil => exact .nil
  | cons x r ih => exact .cons (.int _) ih
def wListRg1 (wa : WE D) : WE Rz := fun Γ P => wa Γ fun d Γ1 => match d with
  | .int n => RgOk 0 n ∧ P (.ls (rangeD 0 n.toNat)) Γ1
  | _ => False
def wListRg2 (wa wb : WE D) : WE Rz := fun Γ P => wa Γ fun d Γ1 => wb Γ1 fun e Γ2 => match d, e with
  | .int m, .int n => RgOk m n ∧ P (.ls (rangeD m (n - m).toNat)) Γ2
  | _, _ => False
theorem az_listRg1 {wa : WE D} (ml : X.mg "list" = none) (mr : X.mg "range" = none) (ha : AB X G a wa) (hc : X.calm = true := by rfl) (gl : Gl X "list" := by rfl) (gr : Gl X "range" := by rfl) (na : starEach [a] X.env = (false, eval a X.env) :: starEach [] X.env := by rfl)
    (na2 : starEach [.Call (.Name "range" p2) [a] [] q] X.env = (false, eval (.Call (.Name "range" p2) [a] [] q) X.env) :: starEach [] X.env := by rfl) : AZ X G (.Call (.Name "list" p) [.Call (.Name "range" p2) [a] [] q] [] pos) (wListRg1 wa) :=
  PEi (pe_listRg hc gl ml (prg_1 gr mr ha na) na2) fun σ H Q ⟨Γ, Z, O, P, R, w, k⟩ => ⟨Γ, Z, O, _, R, w, fun d Γ1 x Z1 O1 H1 p1 R1 S1 b1 => by
    split at p1
    · rename_i n
      obtain rfl := b1.intI
      obtain ⟨ok, p1⟩ := p1
      refine ⟨_, rfl, ok, fun a ha => ?_⟩
      have g := Grow.new' (o := .lst (rgV 0 n)) R1.sub ha
      refine k _ _ _ _ _ _ p1 (R1.grow g) (S1.trans g.step) ?_
      have := rg_drs (K := X.K) (Z := Z1) (i := 0) (j := n)
      simp only [Int.sub_zero] at this
      exact (show RzN X.K H1 Z1 _ (.ls _) _ from ⟨a, _, rfl, ha, R1.sub.free ha, upd_same, this⟩).up R1 S1.hN
    · exact p1.elim⟩
end
end VL
namespace VL
open PySem PySem.Spec PyProof.Rows L2
/-! ### plain Lean: what may be shown, loops -/
mutual
def rOk : D → Bool
  | .none => true
  | .bool _ => true
  | .int i => decide (i.natAbs < 18446744073709551616)
  | .str x => x.cps.toList.all fun c => decide (c < 16 ^ 8)
  | .list xs => rOks xs
  | .tuple xs => rOks xs
  | .dict _ => false
def rOks : List D → Bool
  | [] => true
  | x :: xs => rOk x && rOks xs
end
mutual
def rSz : D → Nat
  | .none => 5
  | .bool _ => 5
  | .int _ => 70
  | .str x => 10 * x.length + 2
  | .list xs => rSzs xs + 3
  | .tuple xs => rSzs xs + 3
  | .dict _ => 0
def rSzs : List D → Nat
  | [] => 0
  | x :: xs => rSz x + 2 + rSzs xs
end
theorem shown_int {i : Int} (h : i.natAbs < 18446744073709551616) : (PyData.shown (.int i)).length ≤ 70 ∧ i.natAbs.log2 < 1920 := by
  have hl : i.natAbs.log2 < 64 := by
    by_cases h0 : i.natAbs = 0
    · rw [h0]; decide
    · exact (Nat.log2_lt h0).mpr (by simpa using h)
  have e := int_text_length_le (a := i) (k := 64) (by decide) hl
  have e2 : (PyData.shown (.int i)).length = (toString i).length := PySem.ofString_length _
  omega
mutual
theorem rep_all : ∀ d : D, rOk d = true → nodict d = true ∧ d.showable = true ∧ d.hasDict = false ∧ d.shown.length ≤ rSz d
  | .none, _ => ⟨rfl, rfl, rfl, by decide⟩
  | .bool b, _ => ⟨rfl, rfl, rfl, by cases b <;> decide⟩
  | .int i, h => by
    have h' : i.natAbs < 18446744073709551616 := by simpa [rOk] using h
    obtain ⟨h1, h2⟩ := shown_int h'
    exact ⟨rfl, by simp [PyData.showable, h2], rfl, h1⟩
  | .str x, h => by
    have hx : ∀ c ∈ x.cps.toList, c < 16 ^ 8 := by simpa only [rOk, List.all_eq_true, decide_eq_true_eq] using h
    have e := StrLaws.reprText_len x hx
    refine ⟨rfl, rfl, rfl, ?_⟩
    show (reprText x).length ≤ 10 * x.length + 2
    have e2 : x.length = x.cps.size := rfl
    omega
  | .list xs, h => by
    obtain ⟨h1, h2, h3, h4⟩ := reps_all xs (by simpa [rOk] using h)
    have h5 := listText_len_le (PyData.shownAll xs)
    have h6 := PyData.shownAll_length xs
    refine ⟨by simpa [nodict] using h1, by simpa [PyData.showable] using h2, by simpa [PyData.hasDict] using h3, ?_⟩
    simp only [PyData.shown, rSz]
    omega
  | .tuple xs, h => by
    obtain ⟨h1, h2, h3, h4⟩ := reps_all xs (by simpa [rOk] using h)
    have h5 := tupleText_len_le (PyData.shownAll xs)
    have h6 := PyData.shownAll_length xs
    refine ⟨by simpa [nodict] using h1, by simpa [PyData.showable] using h2, by simpa [PyData.hasDict] using h3, ?_⟩
    simp only [PyData.shown, rSz]
    omega
  | .dict _, h => by simp [rOk] at h
theorem reps_all : ∀ ds : List D, rOks ds = true → nodicts ds = true ∧ PyData.showableAll ds = true ∧ PyData.hasDictAll ds = false ∧ ((PyData.shownAll ds).map (·.length)).sum + 2 * ds.length ≤ rSzs ds
  | [], _ => ⟨rfl, rfl, rfl, by simp [PyData.shownAll, rSzs]⟩
  | x :: xs, h => by
    have h' : rOk x = true ∧ rOks xs = true := by simpa [rOks] using h
    obtain ⟨h1, h2, h3, h4⟩ := rep_all x h'.1
    obtain ⟨g1, g2, g3, g4⟩ := reps_all xs h'.2
    refine ⟨by simp [nodicts, h1, g1], by simp [PyData.showableAll, h2, g2], by simp [PyData.hasDictAll, h3, g3], ?_⟩
    simp only [PyData.shownAll, List.map_cons, List.sum_cons, List.length_cons, rSzs]
    omega
end
theorem sRepr_ok {d : D} {P : Rz → Prop} (h : rOk d = true) (hd : d.depth ≤ 64) (hs : rSz d ≤ 16777216) (p : P (.v (.dat (.str d.shown)))) : sRepr [d] P := by
  obtain ⟨h1, h2, h3, h4⟩ := rep_all d h
  exact ⟨h1, h2, h3, hd, Nat.le_trans h4 hs, p⟩
theorem eqv_str (x : Str) : PyData.eqv (.str x) (.str x) = true := by simp [PyData.eqv]
/-- repr(a) != repr(b), for equal a, b: false -/
theorem sNe_str {x y : Str} {P : Rz → Prop} (e : x = y) (p : P (.v (.dat (.bool false)))) : sNe (.str x) (.str y) P := by
  subst e
  refine ⟨trivial, ?_⟩
  rw [eqv_str]; exact p
theorem eqv_int (i j : Int) : PyData.eqv (.int i) (.int j) = decide (i = j) := by
  by_cases h : i = j <;> simp [PyData.eqv, h]
theorem sEq_int {i j : Int} {P : Rz → Prop} (p : P (.v (.dat (.bool (decide (i = j)))))) : sEq (.int i) (.int j) P := by
  refine ⟨trivial, ?_⟩
  rw [eqv_int]; exact p
theorem sNe_int {i j : Int} {P : Rz → Prop} (p : P (.v (.dat (.bool (!decide (i = j)))))) : sNe (.int i) (.int j) P := by
  refine ⟨trivial, ?_⟩
  rw [eqv_int]; exact p
theorem sMul_int {i j : Int} {P : Rz → Prop} (h : CMul i j) (p : P (.v (.dat (.int (i * j))))) : sMul (.int i) (.int j) P := ⟨h, p⟩
/-- a loop, by an invariant that each turn keeps -/
theorem forW_inv {g : WG} {wb : WS} {E : En} (I : Ga → Prop) : ∀ {items : List D} {Γ : Ga}, (∀ d ∈ items, ∀ Γ, I Γ → ∀ N : Ga → Prop, (∀ Γ', I Γ' → N Γ') → g d Γ fun Γ' => wb { E with nx := N, ct := N, bk := E.nx } Γ') → I Γ → (∀ Γ, I Γ → E.nx Γ) → forW g wb E items Γ
  | [], Γ, _, hI, he => he Γ hI
  | d :: r, Γ, h, hI, he => h d (.head _) Γ hI _ fun Γ' hI' => forW_inv I (fun d hd => h d (.tail _ hd)) hI' he
/-- .. by the number of turns done -/
theorem forW_ix {g : WG} {wb : WS} {E : En} (I : Nat → Ga → Prop) : ∀ {items : List D} (i : Nat) {Γ : Ga}, (∀ j d, items[j]? = some d → ∀ Γ, I (i + j) Γ → ∀ N : Ga → Prop, (∀ Γ', I (i + j + 1) Γ' → N Γ') → g d Γ fun Γ' => wb { E with nx := N, ct := N, bk := E.nx } Γ') → I i Γ → (∀ Γ, I (i + items.length) Γ → E.nx Γ) → forW g wb E items Γ
  | [], i, Γ, _, hI, he => he Γ hI
  | d :: r, i, Γ, h, hI, he => h 0 d rfl Γ hI _ fun Γ' hI' => forW_ix I (i + 1) (fun j d hd Γ hI N k => h (j + 1) d hd Γ (by rw [show i + (j + 1) = i + 1 + j by omega]; exact hI) N fun Γ' q => k Γ' (by rw [show i + 1 + j + 1 = i + (j + 1) + 1 by omega]; exact q)) hI' fun Γ q => he Γ (by rw [List.length_cons, show i + (r.length + 1) = i + 1 + r.length by omega]; exact q)
/-- a comprehension: what each element is -/
theorem compW_inv {vs : List Nat} {g : WG} {t : WE Bool} {w : WE Rv} (I : Nat → Ga → Prop) (B : D → Prop) : ∀ {items : List D} (i : Nat) {acc : List D} {Γ : Ga} {P : List D → Ga → Prop},
    (∀ j d, items[j]? = some d → ∀ Γ, I (i + j) Γ → ∀ (P1 : D → Ga → Prop) (P0 : Ga → Prop), (∀ e Γ', B e → I (i + j + 1) (wipeG Γ' vs) → P1 e Γ') → (∀ Γ', I (i + j + 1) (wipeG Γ' vs) → P0 Γ') → g d Γ fun Γ1 => t Γ1 fun k Γ2 => if k = true then w Γ2 fun rv Γ3 => (match rv with | .dat e => P1 e Γ3 | .pen => False) else P0 Γ2) →
    I i Γ → (∀ e ∈ acc, B e) → (∀ acc Γ, (∀ e ∈ acc, B e) → I (i + items.length) Γ → P acc Γ) → compW vs g t w items acc Γ P
  | [], i, acc, Γ, P, h, hI, ha, k => k acc Γ ha hI
  | d :: r, i, acc, Γ, P, h, hI, ha, k => by
    have rec_ : ∀ acc Γ, (∀ e ∈ acc, B e) → I (i + 1) Γ → compW vs g t w r acc Γ P := fun acc Γ ha hI => compW_inv I B (i + 1) (fun j d hd Γ hI P1 P0 k1 k0 => h (j + 1) d hd Γ (by rw [show i + (j + 1) = i + 1 + j by omega]; exact hI) P1 P0
      (fun e Γ' b q => k1 e Γ' b (by rw [show i + 1 + j + 1 = i + (j + 1) + 1 by omega]; exact q)) fun Γ' q => k0 Γ' (by rw [show i + 1 + j + 1 = i + (j + 1) + 1 by omega]; exact q)) hI ha fun acc Γ ha q => k acc Γ ha (by rw [List.length_cons, show i + (r.length + 1) = i + 1 + r.length by omega]; exact q)
    refine h 0 d rfl Γ hI (fun e Γ3 => compW vs g t w r (acc ++ [e]) (wipeG Γ3 vs) P) (fun Γ2 => compW vs g t w r acc (wipeG Γ2 vs) P) (fun e Γ' b q => rec_ _ _ (fun x hx => ?_) q) fun Γ' q => rec_ _ _ ha q
    rcases List.mem_append.mp hx with z | z
    · exact ha x z
    · rw [List.mem_singleton.mp z]; exact b
theorem wXf_ok {a dd : Addr} {i : Nat} {f : Str} {fs : List (Str × D)} {v : D} {Γ : Ga} {P : Rv → Ga → Prop} (h : Γ.at i = .exc a dd fs) (hl : fs.lookup f = some v) (p : P (.dat v) Γ) : wXf a (some dd) i f Γ P := by
  unfold wXf
  rw [h]
  exact ⟨rfl, rfl, v, hl, p⟩
theorem lk_1 {f : Str} {y : D} {r : List (Str × D)} : List.lookup f ((f, y) :: r) = some y := by
  rw [List.lookup_cons]; simp
theorem lk_2 {f g : Str} {x y : D} {r : List (Str × D)} (h : (g == f) = false) : List.lookup g ((f, y) :: (g, x) :: r) = some x := by
  rw [List.lookup_cons, h]; exact lk_1
/-- an error of two fields in a suite that gives a list of both: [t, first, second] -/
theorem suite_two {a dd : Addr} {i : Nat} {f g t : Str} {x y : D} {E : En} {Γ : Ga} (h : Γ.at i = .exc a dd [(g, y), (f, x)]) (ne : (f == g) = false) (p : E.rt (.dat (.list [.str t, x, y])) Γ) :
    wRet (wFrz (wLst (wCons (wC (.dat (.str t))) (wCons (wXf a (some dd) i f) (wCons (wXf a (some dd) i g) wNil))))) E Γ := by
  simp only [wRet, wFrz, wLst, wCons, wC, wNil]
  exact wXf_ok h (lk_2 ne) (wXf_ok h lk_1 p)
theorem hs_yes {CM : CMt} {Ex : Exc → Ga → Prop} {E : En} {h : VCl} {r : List VCl} {e : Exc} {Γ : Ga} (c : CM e.c h.x = some true) (q : h.i = none ∨ e.c = h.x) (k : ∀ a dd, h.ws a (some dd) (leaveE E h.i) (enterG Γ h.i (.exc a dd e.fs))) : wHs CM Ex E (h :: r) e Γ :=
  ⟨true, c, fun _ => ⟨q, k⟩, fun z => by cases z⟩
theorem hs_no {CM : CMt} {Ex : Exc → Ga → Prop} {E : En} {h : VCl} {r : List VCl} {e : Exc} {Γ : Ga} (c : CM e.c h.x = some false) (k : wHs CM Ex E r e Γ) : wHs CM Ex E (h :: r) e Γ :=
  ⟨false, c, fun z => (by cases z), fun _ => k⟩
/-- except c as e: return [t, e.f, e.g], met by an error of the very class -/
theorem hs_two {CM : CMt} {Ex : Exc → Ga → Prop} {E : En} {r : List VCl} {i : Nat} {c f g t : Str} {x y : D} {Γ : Ga} (cm : CM c c = some true) (ne : (f == g) = false) (hi : i < Γ.s.length) (p : ∀ s, E.rt (.dat (.list [.str t, x, y])) ⟨s, Γ.c⟩) :
    wHs CM Ex E (⟨c, some i, fun a d => wRet (wFrz (wLst (wCons (wC (.dat (.str t))) (wCons (wXf a d i f) (wCons (wXf a d i g) wNil)))))⟩ :: r) ⟨c, [(g, y), (f, x)]⟩ Γ :=
  hs_yes cm (.inr rfl) fun a dd => suite_two (E := leaveE E (some i)) (Γ := Γ.set i (.exc a dd [(g, y), (f, x)])) (Ga.at_same hi) ne (p _)
end VL
namespace VL
open PySem PySem.Spec PyProof.Rows L2
/-! ### slices, max and min of two, sorted -/
section
variable {X : Cx} {G : Gh} {a b c e : Expr} {es : List Expr} {pos p p2 q : Pos}
/-- a part of a slice -/
def AO (X : Cx) (G : Gh) (e : Option Expr) (w : WE (Option Int)) : Prop := PO X e (lift X.K G (fun _ _ _ _ (a b : Option Int) => a = b) w)
def wNoPart : WE (Option Int) := fun Γ P => P none Γ
def wPart (w : WE D) : WE (Option Int) := fun Γ P => w Γ fun d Γ1 => match d with
  | .int i => P (some i) Γ1
  | _ => False
theorem POi {e : Option Expr} {t t' : TO} (h : PO X e t) (i : ∀ σ H Q, t' σ H Q → t σ H Q) : PO X e t' := ⟨fun pins s σ H Q I q => h.run pins s σ H Q I (i σ H Q q)⟩
theorem ao_none : AO X G none wNoPart := POi po_none fun σ H Q ⟨Γ, Z, O, P, R, w, k⟩ => k _ _ _ _ _ _ w R Step.refl rfl
theorem ao_some {w : WE D} (h : AB X G e w) : AO X G (some e) (wPart w) := POi (po_some h) fun σ H Q ⟨Γ, Z, O, P, R, w, k⟩ => ⟨Γ, Z, O, _, R, w, fun d Γ1 x Z1 O1 H1 p1 R1 S1 b1 => by
  split at p1
  · obtain rfl := b1.intI
    exact ⟨_, rfl, k _ _ _ _ _ _ p1 R1 S1 rfl⟩
  · exact p1.elim⟩
def cutD (xs : List D) (lo hi : Option Int) : List D := (xs.drop (HT.sIx xs.length 0 lo)).take (HT.sIx xs.length xs.length hi - HT.sIx xs.length 0 lo)
theorem DRs.cut {K : Fg} {Z : Hp} {vs : List V} {ds : List D} {lo hi : Option Int} (h : DRs K Z vs ds) : DRs K Z (cutV vs lo hi) (cutD ds lo hi) := by
  unfold cutV cutD
  rw [h.length]
  exact (h.drop _).take _
def wSl (wa : WE D) (wl wh : WE (Option Int)) : WE Rz := fun Γ P => wa Γ fun d Γ1 => wl Γ1 fun lo Γ2 => wh Γ2 fun hi Γ3 => match d with
  | .list ds => P (.ls (cutD ds lo hi)) Γ3
  | .tuple ds => ¬ (HT.sIx ds.length 0 lo = 0 ∧ HT.sIx ds.length ds.length hi = ds.length) ∧ P (.v (.dat (.tuple (cutD ds lo hi)))) Γ3
  | _ => False
theorem az_slice {lo hi : Option Expr} {wa : WE D} {wl wh : WE (Option Int)} (ha : AB X G a wa) (hl : AO X G lo wl) (hh : AO X G hi wh) : AZ X G (.Subscript a (.Slice lo hi none p2) pos) (wSl wa wl wh) :=
  PEi (pe_slice (sl_list.or sl_tup) ha hl hh) fun σ H Q ⟨Γ, Z, O, P, R, w, k⟩ => ⟨Γ, Z, O, _, R, w, fun d Γ1 x Z1 O1 H1 p1 R1 S1 b1 => ⟨Γ1, Z1, O1, _, R1, p1, fun lo Γ2 lo' Z2 O2 H2 p2 R2 S2 b2 => ⟨Γ2, Z2, O2, _, R2, p2, fun hi Γ3 hi' Z3 O3 H3 p3 R3 S3 b3 => by
    subst b2 b3
    have b1' := b1.grow (S2.trans S3).zZ (S2.trans S3).hH
    split at p3
    · obtain ⟨a, vs, rfl, h, t⟩ := b1'.listI R3.sub
      refine .inl ⟨a, vs, rfl, SqL.of h, fun q hq => ?_⟩
      have g := Grow.new' (o := .lst (cutV vs lo hi)) R3.sub hq
      exact k _ _ _ _ _ _ p3 (R3.grow g) (((S1.trans S2).trans S3).trans g.step) ((show RzN X.K H3 Z3 _ (.ls _) _ from ⟨q, _, rfl, hq, R3.sub.free hq, upd_same, t.cut⟩).up R3 ((S1.trans S2).trans S3).hN)
    · obtain ⟨a, vs, rfl, h, _, t⟩ := b1'.tupI R3.sub
      obtain ⟨c1, p3⟩ := p3
      refine .inr ⟨a, vs, rfl, h, by rw [t.length]; exact c1, fun q hq => ?_⟩
      have g := Grow.new (o := .tup (cutV vs lo hi)) R3.sub hq
      exact k _ _ _ _ _ _ p3 (R3.grow g) (((S1.trans S2).trans S3).trans g.step) (.tup (SqT.of upd_same) (t.cut.mono g.zz))
    · exact p3.elim⟩⟩⟩
end
section
variable {K : Fg}
def sMax2 : SemN := fun ds P => match ds with
  | [.int i, .int j] => P (.v (.dat (.int (if j > i then j else i))))
  | _ => False
def sMin2 : SemN := fun ds P => match ds with
  | [.int i, .int j] => P (.v (.dat (.int (if j < i then j else i))))
  | _ => False
abbrev rMax2 : List V → Hp → VK → Prop := fun xs H Q => ∃ i j, xs = [.int i, .int j] ∧ Q (.int (if j > i then j else i)) H
abbrev rMin2 : List V → Hp → VK → Prop := fun xs H Q => ∃ i j, xs = [.int i, .int j] ∧ Q (.int (if j < i then j else i)) H
theorem p_max2 : PureN K rMax2 sMax2 := by
  intro PN Z H xs ds P Q Cx b s k
  unfold sMax2 at s
  split at s
  · obtain ⟨v, u, rfl, b1, b2⟩ := b.two
    obtain rfl := b1.intI
    obtain rfl := b2.intI
    exact ⟨_, _, rfl, keepS Cx k s (.int _)⟩
  · exact s.elim
theorem p_min2 : PureN K rMin2 sMin2 := by
  intro PN Z H xs ds P Q Cx b s k
  unfold sMin2 at s
  split at s
  · obtain ⟨v, u, rfl, b1, b2⟩ := b.two
    obtain rfl := b1.intI
    obtain rfl := b2.intI
    exact ⟨_, _, rfl, keepS Cx k s (.int _)⟩
  · exact s.elim
/-- sorted(xs), xs a list of ints -/
def sSortI : SemN := fun ds P => match ds with
  | [.list xs] => ∃ ns : List Int, xs = ns.map PyData.int ∧ ∀ ns' : List Int, ns'.Perm ns → ns'.Pairwise (· ≤ ·) → P (.ls (ns'.map PyData.int))
  | _ => False
theorem p_sortI : PureN K (rSortedI K) sSortI := by
  intro PN Z H xs ds P Q Cx b s k
  unfold sSortI at s
  split at s
  · obtain ⟨ns, rfl, s⟩ := s
    obtain ⟨v, rfl, bb⟩ := b.one
    obtain ⟨a, vs, rfl, h, t⟩ := bb.listI Cx.sub
    obtain rfl := t.intsI
    exact ⟨a, ns, rfl, SqL.of h, fun ns' p h1 h2 hp => newL Cx k (s ns' h1 h2) (DRs.ints ns') p hp⟩
  · exact s.elim
end
section
variable {P : Program} {w : World} {K : Fg} {mg : Str → Option Value} {base : Heap}
/-- no promise at all (a def that calls itself, with no fuel left) -/
theorem call_false {x : Str} {st : Stmt} {ps : List Str} {k : Nat} (D : DefAt K mg x st)
    (hb : ∀ (kV doc pm : Value) (an : Option Addr) (cdv ct : Value) (us : List Value), us.length = ps.length → bindArgs (PySem.W.fnOf x x (defArgs st) (defBody st) (defScope st) .none kV doc pm an cdv ct) ⟨us, []⟩ = pure (ps.zip us)) : CallOk P w K mg base k x ps (fun _ _ _ _ => False) := by
  obtain ⟨f, fd, F, hm⟩ := D
  exact ⟨f, fd, ⟨fun _ _ _ _ h => h.elim, fun _ _ _ _ _ _ _ _ _ _ _ _ _ ⟨_, _, _, _, _, _, _, _, _, h, _⟩ => h.elim⟩, F.kp, F.binds hb, hm⟩
end
end VL
namespace VL
open PySem PySem.Spec PyProof.Rows L2
/-! ### loops and comprehensions as functions -/
/-- a comprehension by what each item gives: h d = none: left out -/
theorem compW_fm {vs : List Nat} {g : WG} {t : WE Bool} {w : WE Rv} (h : D → Option D) {Γ0 : Ga} : ∀ {items acc : List D} {P : List D → Ga → Prop},
    (∀ d ∈ items, ∀ (P1 : D → Ga → Prop) (P0 : Ga → Prop), (∀ e, h d = some e → ∀ Γ', wipeG Γ' vs = Γ0 → P1 e Γ') → (h d = none → ∀ Γ', wipeG Γ' vs = Γ0 → P0 Γ') → g d Γ0 fun Γ1 => t Γ1 fun k Γ2 => if k = true then w Γ2 fun rv Γ3 => (match rv with | .dat e => P1 e Γ3 | .pen => False) else P0 Γ2) →
    P (acc ++ items.filterMap h) Γ0 → compW vs g t w items acc Γ0 P
  | [], acc, P, _, p => by simpa [compW] using p
  | d :: r, acc, P, k, p => by
    have rec_ : ∀ acc1, P (acc1 ++ r.filterMap h) Γ0 → compW vs g t w r acc1 Γ0 P := fun acc1 q => compW_fm h (fun d hd => k d (.tail _ hd)) q
    refine k d (.head _) (fun e Γ3 => compW vs g t w r (acc ++ [e]) (wipeG Γ3 vs) P) (fun Γ2 => compW vs g t w r acc (wipeG Γ2 vs) P) (fun e he Γ' q => ?_) fun he Γ' q => ?_
    · rw [q]
      refine rec_ _ ?_
      rw [List.filterMap_cons_some he] at p
      simpa using p
    · rw [q]
      refine rec_ _ ?_
      rw [List.filterMap_cons_none he] at p
      exact p
theorem rangeD_succ (lo : Int) (n : Nat) : rangeD lo (n + 1) = .int lo :: rangeD (lo + 1) n := by
  unfold rangeD
  rw [List.range_succ_eq_map, List.map_cons, List.map_map]
  congr 1
  · simp
  · apply List.map_congr_left
    intro i _
    simp only [Function.comp]
    congr 1
    omega
theorem rangeD_zero (lo : Int) : rangeD lo 0 = [] := rfl
def inL (d : D) (xs : List D) : Bool := xs.any fun z => PyData.eqv z d
/-- a loop as a fold; S j a Γ: behind j turns, with the value a, the state is Γ -/
theorem forW_fold {α : Type} {g : WG} {wb : WS} {E : En} (S : Nat → α → Ga → Prop) (step : α → D → α) : ∀ {items : List D} (i : Nat) (a : α) {Γ : Ga}, S i a Γ →
    (∀ d ∈ items, ∀ j a Γ, j < i + items.length → S j a Γ → ∀ N : Ga → Prop, (∀ Γ', S (j + 1) (step a d) Γ' → N Γ') → g d Γ fun Γ' => wb { E with nx := N, ct := N, bk := E.nx } Γ') → (∀ Γ', S (i + items.length) (items.foldl step a) Γ' → E.nx Γ') → forW g wb E items Γ
  | [], i, a, Γ, hS, _, k => k Γ hS
  | d :: r, i, a, Γ, hS, h, k => h d (.head _) i a Γ (by rw [List.length_cons]; omega) hS _ fun Γ' q => forW_fold S step (i + 1) (step a d) q (fun d hd j a Γ hj => h d (.tail _ hd) j a Γ (by rw [List.length_cons]; omega)) fun Γ' q => k Γ' (by rw [List.length_cons, show i + (r.length + 1) = i + 1 + r.length by omega]; exact q)
def iD : D → Int
  | .int i => i
  | _ => 0
theorem range_get {lo : Int} {n j : Nat} {d : D} (h : (rangeD lo n)[j]? = some d) : j < n ∧ d = .int (lo + (j : Nat)) := by
  have hj : j < n := by
    have := (List.getElem?_eq_some_iff.mp h).1
    rwa [rangeD_length] at this
  rw [rangeD_get hj] at h
  exact ⟨hj, (Option.some.inj h).symm⟩
theorem range_mem {lo : Int} {n : Nat} {d : D} (h : d ∈ rangeD lo n) : ∃ j : Nat, j < n ∧ d = .int (lo + (j : Nat)) := by
  obtain ⟨j, hj⟩ := List.mem_iff_getElem?.mp h
  exact ⟨j, range_get hj⟩
end VL
namespace Lk25
open PySem PySem.Spec PyProof.Rows L2 VL
def top (i : Nat) : Stmt := PySem.Challenge.pw_pairsinthrees_k25_whole_small_numbers_se.main.body.getD i (.Pass ⟨0, 0, 0, 0⟩)
abbrev s__law_pen : Stmt := top 14
abbrev s__law_draw : Stmt := top 15
abbrev s__law_all_threes : Stmt := top 17
abbrev s__law_pairs_of : Stmt := top 18
abbrev s__law_most : Stmt := top 19
abbrev s_is_whole : Stmt := top 4
abbrev s_is_count : Stmt := top 5
abbrev s_need_count : Stmt := top 6
abbrev s_most_bar_in : Stmt := top 8
abbrev s_most_number : Stmt := top 10
abbrev s_need_full : Stmt := top 11
abbrev s_fewest_bar_in : Stmt := top 9
abbrev s_fewest_number : Stmt := top 12
abbrev s__law_pairs : Stmt := top 16
abbrev s__law_can_hold : Stmt := top 20
abbrev s_law : Stmt := top 21
abbrev si_BadNumber : Stmt := inClass (top 2) 0
abbrev si_NotKept : Stmt := inClass (top 3) 0
abbrev N__law_all_threes : List Str := ["n", "found", "a", "b", "c"]
theorem S__law_all_threes : FnScope ["n", "found", "a", "b", "c"] ["n"] (defScope s__law_all_threes) := ⟨rfl, rfl, rfl, by decide +kernel, rfl, by decide +kernel, by decide +kernel⟩
abbrev N__law_pairs_of : List Str := ["three", "a", "b", "c"]
theorem S__law_pairs_of : FnScope ["three", "a", "b", "c"] ["three"] (defScope s__law_pairs_of) := ⟨rfl, rfl, rfl, by decide +kernel, rfl, by decide +kernel, by decide +kernel⟩
abbrev N__law_most : List Str := ["rest", "held", "best", "k", "own", "pair"]
theorem S__law_most : FnScope ["rest", "held", "best", "k", "own", "pair"] ["rest", "held"] (defScope s__law_most) := ⟨rfl, rfl, rfl, by decide +kernel, rfl, by decide +kernel, by decide +kernel⟩
abbrev N_is_whole : List Str := ["value"]
theorem S_is_whole : FnScope ["value"] ["value"] (defScope s_is_whole) := ⟨rfl, rfl, rfl, by decide +kernel, rfl, by decide +kernel, by decide +kernel⟩
abbrev N_is_count : List Str := ["value"]
theorem S_is_count : FnScope ["value"] ["value"] (defScope s_is_count) := ⟨rfl, rfl, rfl, by decide +kernel, rfl, by decide +kernel, by decide +kernel⟩
abbrev N_need_count : List Str := ["what", "value"]
theorem S_need_count : FnScope ["what", "value"] ["what", "value"] (defScope s_need_count) := ⟨rfl, rfl, rfl, by decide +kernel, rfl, by decide +kernel, by decide +kernel⟩
abbrev N_most_bar_in : List Str := ["n", "each", "by_things"]
theorem S_most_bar_in : FnScope ["n", "each", "by_things"] ["n"] (defScope s_most_bar_in) := ⟨rfl, rfl, rfl, by decide +kernel, rfl, by decide +kernel, by decide +kernel⟩
abbrev N_most_number : List Str := ["n"]
theorem S_most_number : FnScope ["n"] ["n"] (defScope s_most_number) := ⟨rfl, rfl, rfl, by decide +kernel, rfl, by decide +kernel, by decide +kernel⟩
abbrev N_need_full : List Str := ["n"]
theorem S_need_full : FnScope ["n"] ["n"] (defScope s_need_full) := ⟨rfl, rfl, rfl, by decide +kernel, rfl, by decide +kernel, by decide +kernel⟩
abbrev N_fewest_bar_in : List Str := ["n", "each"]
theorem S_fewest_bar_in : FnScope ["n", "each"] ["n"] (defScope s_fewest_bar_in) := ⟨rfl, rfl, rfl, by decide +kernel, rfl, by decide +kernel, by decide +kernel⟩
abbrev N_fewest_number : List Str := ["n"]
theorem S_fewest_number : FnScope ["n"] ["n"] (defScope s_fewest_number) := ⟨rfl, rfl, rfl, by decide +kernel, rfl, by decide +kernel, by decide +kernel⟩
abbrev N__law_pairs : List Str := ["n", "found", "i", "j"]
theorem S__law_pairs : FnScope ["n", "found", "i", "j"] ["n"] (defScope s__law_pairs) := ⟨rfl, rfl, rfl, by decide +kernel, rfl, by decide +kernel, by decide +kernel⟩
abbrev N__law_can_hold : List Str := ["n", "left", "many", "a", "b", "c", "own", "pair"]
theorem S__law_can_hold : FnScope ["n", "left", "many", "a", "b", "c", "own", "pair"] ["n", "left", "many"] (defScope s__law_can_hold) := ⟨rfl, rfl, rfl, by decide +kernel, rfl, by decide +kernel, by decide +kernel⟩
abbrev N_law : List Str := ["script", "pen", "n", "threes", "few", "pairs"]
theorem S_law : FnScope ["script", "pen", "n", "threes", "few", "pairs"] ["script"] (defScope s_law) := ⟨rfl, rfl, rfl, by decide +kernel, rfl, by decide +kernel, by decide +kernel⟩
abbrev N__law_pen : List Str := ["script", "fold", "cell"]
theorem S__law_pen : FnScope ["script", "fold", "cell"] ["script"] (defScope s__law_pen) := ⟨rfl, rfl, rfl, by decide +kernel, rfl, by decide +kernel, by decide +kernel⟩
abbrev N__law_draw : List Str := ["pen", "many", "cell", "digit", "blend"]
theorem S__law_draw : FnScope ["pen", "many", "cell", "digit", "blend"] ["pen", "many"] (defScope s__law_draw) := ⟨rfl, rfl, rfl, by decide +kernel, rfl, by decide +kernel, by decide +kernel⟩
theorem Si_BadNumber : FnScope ["self", "what", "number"] ["self", "what", "number"] (defScope si_BadNumber) := ⟨rfl, rfl, rfl, by decide +kernel, rfl, by decide +kernel, by decide +kernel⟩
theorem Si_NotKept : FnScope ["self", "promise", "witness"] ["self", "promise", "witness"] (defScope si_NotKept) := ⟨rfl, rfl, rfl, by decide +kernel, rfl, by decide +kernel, by decide +kernel⟩
def CMl : List ((Str × Str) × Bool) := []
def CM : CMt := cmOf CMl
structure Top (K : Fg) (mg : Str → Option Value) : Prop where
  n_bool : mg "bool" = none
  n_int : mg "int" = none
  n_isinstance : mg "isinstance" = none
  n_len : mg "len" = none
  n_list : mg "list" = none
  n_max : mg "max" = none
  n_range : mg "range" = none
  n_repr : mg "repr" = none
  n_sorted : mg "sorted" = none
  n_tuple : mg "tuple" = none
  e_BadNumber : ErrOk K mg "BadNumber" "what" (some "number")
  e_NotKept : ErrOk K mg "NotKept" "promise" (some "witness")
  cm : CmAt K mg CMl
section
variable {P : Program} {w : World} {K : Fg} {mg : Str → Option Value} {base : Heap}
theorem c__law_pen (D : DefAt K mg "_law_pen" s__law_pen) (T : Top K mg) : ∃ (f : Addr) (fd : FuncData), FnOk P w K mg base CX0 1 f fd ["script"] (spPen K) ∧ mg "_law_pen" = some (.ref f) ∧ PySem.W.keepIn K (.ref f) = true ∧ Binds K fd ["script"] [] := by
  obtain ⟨f, fd, F, hm⟩ := D
  refine ⟨f, fd, F.ok S__law_pen (fun vs H Q E ⟨_, _, e, _⟩ => by rw [e]; rfl) (fun cdv A outer s H vs Q E room h => ⟨tPen K 43 79 1000000297, ?_, pen_goal (by decide) (by decide) (by decide) (by decide) (by decide) (by decide) h rfl⟩), hm, F.kp, F.binds fun _ _ _ _ _ _ us hl => match us, hl with | [_], _ => rfl⟩
  exact pss_cons (ps_set (i := 1) S__law_pen.nd rfl (Or.inl rfl) pe_int) (pss_cons (ps_for PassesOwn.never rfl (pi_list (pv 0)) (pg_name (i := 2) S__law_pen.nd rfl (Or.inl rfl)) (pss_one (ps_set (i := 1) S__law_pen.nd rfl (Or.inl rfl) (pe_op op_mod (pe_callTy call_int1 (by rfl) T.n_int boot_int (pa_cons (pe_op op_add (pe_op op_mul (pv 1) pe_int) (pv 2)) pa_nil)) pe_int))))
    (pss_one (ps_ret (pe_disp (pps_cons pe_str (pe_callTy call_list_of (by rfl) T.n_list boot_list (pa_cons (pv 0) pa_nil)) (pps_cons pe_str pe_int (pps_cons pe_str pe_int (pps_cons pe_str pe_int (pps_cons pe_str (pv 1) pps_nil))))) (by rfl) (by rfl) (fun z => by cases z) (by decide)))))
theorem c__law_draw (D : DefAt K mg "_law_draw" s__law_draw) (T : Top K mg) : CallOk P w K mg base 1 "_law_draw" ["pen", "many"] W_draw := by
  obtain ⟨f, fd, F, hm⟩ := D
  refine ⟨f, fd, FnV.ofOk (sp := spDraw) ?_ draw_len draw_sp, F.kp, F.binds fun _ _ _ _ _ _ us hl => match us, hl with | [_, _], _ => rfl, hm⟩
  refine F.ok S__law_draw (fun vs H Q E ⟨_, _, _, _, _, _, _, _, e, _⟩ => by rw [e]; rfl) (fun cdv A outer s H vs Q E room h => ⟨tDraw K 70241 2147483353 9887 83 19 2305843009213693951 256, ?_, draw_goal (by decide) (by decide) (by decide) (by decide) (by decide) (by decide) (by decide) h rfl⟩)
  have hu := hu_of room
  exact pss_cons (ps_dput hu (pv 0) pe_str (pe_op op_add (pe_dget hu (pv 0) pe_str (fun _ _ => rfl)) pe_int) rfl) (pss_cons (ps_if (PW.pt (pw_and (pt_cmpR op_eq (pe_dget hu (pv 0) pe_str (fun _ _ => rfl)) pe_int (nomark _)) (pw_and1 (pt_cmpR op_lt (pe_dget hu (pv 0) pe_str (fun _ _ => rfl)) (pe_callB call_len_seq (by rfl) T.n_len boot_len (pa_cons (pe_dget hu (pv 0) pe_str (fun _ _ => rfl)) pa_nil)) (nomark _)))))
    (pss_cons (ps_set (i := 2) S__law_draw.nd rfl (Or.inl rfl) (pe_ix ix_seq (pe_dget hu (pv 0) pe_str (fun _ _ => rfl)) (pe_dget hu (pv 0) pe_str (fun _ _ => rfl)) (fun _ _ => rfl))) (pss_cons (ps_dput hu (pv 0) pe_str (pe_op op_add (pe_dget hu (pv 0) pe_str (fun _ _ => rfl)) pe_int) rfl) (pss_one (ps_if (pt_cmpR op_ge (pv 2) (pe_op op_pow pe_int pe_int) (nomark _)) (pss_one (ps_dput hu (pv 0) pe_str (pe_op op_sub (pv 2) (pe_op op_pow pe_int pe_int)) rfl)) (pss_one (ps_dput hu (pv 0) pe_str (pe_op op_mod (pe_callTy call_int1 (by rfl) T.n_int boot_int (pa_cons (pe_op op_add (pe_op op_mul (pe_dget hu (pv 0) pe_str (fun _ _ => rfl)) pe_int) (pv 2)) pa_nil)) pe_int) rfl))))))
    pss_nil)
    (pss_cons (ps_if (pt_cmpR op_gt (pe_dget hu (pv 0) pe_str (fun _ _ => rfl)) pe_int (nomark _)) (pss_cons (ps_set (i := 3) S__law_draw.nd rfl (Or.inl rfl) (pe_op op_mod (pe_callTy call_int1 (by rfl) T.n_int boot_int (pa_cons (pe_dget hu (pv 0) pe_str (fun _ _ => rfl)) pa_nil)) (pv 1))) (pss_cons (ps_dput hu (pv 0) pe_str (pe_op op_fdivN (pe_dget hu (pv 0) pe_str (fun _ _ => rfl)) (pv 1)) rfl) (pss_one (ps_ret (pv 3))))) pss_nil)
    (pss_cons (ps_set (i := 4) S__law_draw.nd rfl (Or.inl rfl) (pe_op op_add (pe_op op_add (pe_dget hu (pv 0) pe_str (fun _ _ => rfl)) (pe_op op_mul (pe_dget hu (pv 0) pe_str (fun _ _ => rfl)) pe_int)) pe_int)) (pss_one (ps_ret (pe_op op_mod (pe_op op_fdivN (pe_callTy call_int1 (by rfl) T.n_int boot_int (pa_cons (pe_op op_mod (pe_op op_pow (pv 4) pe_int) pe_int) pa_nil)) pe_int) (pv 1)))))))
abbrev W__law_draw : WF := W_draw
theorem e_BadNumber (D : ErrAt K mg "BadNumber" "what" (some "number") si_BadNumber "BadNumber.__init__") : ErrOk K mg "BadNumber" "what" (some "number") :=
  err_of (ps := ["self", "what", "number"]) D (fun _ _ _ _ _ _ us hl => match us, hl with | [_, _, _], _ => rfl) fun C fI fd F ox nf ng => init2_of F Si_BadNumber ox nf (ng _ rfl) fun P w base cdv A outer s H E => pss_cons (ps_ost (pv 0) (pv 1)) (pss_one (ps_ost (pv 0) (pv 2)))
theorem e_NotKept (D : ErrAt K mg "NotKept" "promise" (some "witness") si_NotKept "NotKept.__init__") : ErrOk K mg "NotKept" "promise" (some "witness") :=
  err_of (ps := ["self", "promise", "witness"]) D (fun _ _ _ _ _ _ us hl => match us, hl with | [_, _, _], _ => rfl) fun C fI fd F ox nf ng => init2_of F Si_NotKept ox nf (ng _ rfl) fun P w base cdv A outer s H E => pss_cons (ps_ost (pv 0) (pv 1)) (pss_one (ps_ost (pv 0) (pv 2)))
def B__law_all_threes_0 (Ex : Exc → Ga → Prop) : WS := (wSet 1 (wFrz (w2 sAdd (wNameB 1) (wDat (wFrz (wComp [4] (wRange2 (wCons (wDat (wFrz (w2 sAdd (wNameB 3) (wDat (wC (.dat (.int 1))))))) (wCons (wNameB 0) wNil))) (gSet 4) wYes (wTup (wCons (wName 2) (wCons (wName 3) (wCons (wName 4) wNil))))))))))
def B__law_all_threes_1 (Ex : Exc → Ga → Prop) : WS := (wFor (wRange2 (wCons (wDat (wFrz (w2 sAdd (wNameB 2) (wDat (wC (.dat (.int 1))))))) (wCons (wNameB 0) wNil))) (gSet 3) (B__law_all_threes_0 Ex))
def W__law_all_threes : WF := wDef 5 1 fun Ex => (wSeq (wSet 1 (wFrz (wLst wNil))) (wSeq (wFor (wRange1 (wCons (wNameB 0) wNil)) (gSet 2) (B__law_all_threes_1 Ex)) (wRet (wName 1))))
theorem c__law_all_threes (D : DefAt K mg "_law_all_threes" s__law_all_threes) (T : Top K mg)  : CallOk P w K mg base 1 "_law_all_threes" ["n"] W__law_all_threes := by
  exact call_of (k := 0) D S__law_all_threes (fun _ _ _ _ _ _ us hl => match us, hl with | [_], _ => rfl) fun f cdv A outer s H E G Ex room tk =>
    (ass_cons (as_set 1 S__law_all_threes.nd (AZ.ae (az_lst aa_nil))) (ass_cons (as_for (passes_of rfl) (ai_range1 T.n_range (ab_cons (ab_name 0) ab_nil)) (fun _ => (ag_name 2 S__law_all_threes.nd)) (fun _ => (ass_one (as_for (passes_of rfl) (ai_range2 T.n_range (ab_cons (AE.ab (AZ.ae (az_bin o_add p_add (ab_name 2) (AE.ab ae_int)))) (ab_cons (ab_name 0) ab_nil))) (fun _ => (ag_name 3 S__law_all_threes.nd)) (fun _ => (ass_one (as_set 1 S__law_all_threes.nd (AZ.ae (az_bin o_add p_add (ab_name 1) (AE.ab (AZ.ae (az_comp [("c", 4)] S__law_all_threes.nd (ai_range2 T.n_range (ab_cons (AE.ab (AZ.ae (az_bin o_add p_add (ab_name 3) (AE.ab ae_int)))) (ab_cons (ab_name 0) ab_nil))) (blkOk_by (N := N__law_all_threes) (sc := defScope s__law_all_threes) (by decide +kernel)) (fun _ _ _ _ _ _ => (ag_name 4 S__law_all_threes.nd)) (fun _ _ _ _ _ _ => ats_nil) (fun _ _ _ _ _ _ => (ae_tup (aa_cons (ae_name 2) (aa_cons (ae_name 3) (aa_cons (ae_name 4) aa_nil))))))))))))))))) (ass_one (as_ret (ae_name 1)))))
def W__law_pairs_of : WF := wDef 4 1 fun Ex => (wSeq (wAsg (wName 0) (gTupV 3 (gsCons (gSet 1) (gsCons (gSet 2) (gsCons (gSet 3) gsNil))))) (wRet (wFrz (wLst (wCons (wTup (wCons (wName 1) (wCons (wName 2) wNil))) (wCons (wTup (wCons (wName 1) (wCons (wName 3) wNil))) (wCons (wTup (wCons (wName 2) (wCons (wName 3) wNil))) wNil)))))))
theorem c__law_pairs_of (D : DefAt K mg "_law_pairs_of" s__law_pairs_of) (T : Top K mg)  : CallOk P w K mg base 1 "_law_pairs_of" ["three"] W__law_pairs_of := by
  exact call_of (k := 0) D S__law_pairs_of (fun _ _ _ _ _ _ us hl => match us, hl with | [_], _ => rfl) fun f cdv A outer s H E G Ex room tk =>
    (ass_cons (as_asg (ae_name 0) (ag_tup (ags_cons (ag_name 1 S__law_pairs_of.nd) (ags_cons (ag_name 2 S__law_pairs_of.nd) (ags_cons (ag_name 3 S__law_pairs_of.nd) ags_nil))))) (ass_one (as_ret (AZ.ae (az_lst (aa_cons (ae_tup (aa_cons (ae_name 1) (aa_cons (ae_name 2) aa_nil))) (aa_cons (ae_tup (aa_cons (ae_name 1) (aa_cons (ae_name 3) aa_nil))) (aa_cons (ae_tup (aa_cons (ae_name 2) (aa_cons (ae_name 3) aa_nil))) aa_nil))))))))
def B__law_most_0 (rec_ : WF) (Ex : Exc → Ga → Prop) : WS := (wSeq (wSet 4 (wCall W__law_pairs_of Ex (wCons (wFrz (w2 sIx (wNameB 0) (wNameB 3))) wNil))) (wSeq (wIfS (wBool (w2 sEq (wDat (wFrz (wComp [5] (wItems (wName 4)) (gSet 5) (wBool (w2 sIn (wNameB 5) (wNameB 1))) (wName 5)))) (wDat (wFrz (wLst wNil))))) (wSet 2 (wFrz (wN sMax2 (wCons (wNameB 2) (wCons (wDat (wFrz (w2 sAdd (wDat (wC (.dat (.int 1)))) (wDat (wCall rec_ Ex (wCons (wFrz (wSl (wNameB 0) (wPart (wDat (wFrz (w2 sAdd (wNameB 3) (wDat (wC (.dat (.int 1)))))))) wNoPart)) (wCons (wFrz (w2 sAdd (wNameB 1) (wNameB 4))) wNil))))))) wNil))))) wNext) (wIfS (wBool (w2 sGe (wNameB 2) (wDat (wFrz (w2 sSub (wDat (wFrz (w2 sSub (wDat (wFrz (wN sLen (wCons (wNameB 0) wNil)))) (wNameB 3)))) (wDat (wC (.dat (.int 1))))))))) (wRet (wName 2)) wNext)))
def W__law_most : Nat → WF
  | 0 => fun _ _ _ _ => False
  | k_ + 1 => wDef 6 2 fun Ex => (wSeq (wSet 2 (wC (.dat (.int 0)))) (wSeq (wFor (wRange1 (wCons (wDat (wFrz (wN sLen (wCons (wNameB 0) wNil)))) wNil)) (gSet 3) (B__law_most_0 (W__law_most k_) Ex)) (wRet (wName 2))))
theorem c__law_most (D : DefAt K mg "_law_most" s__law_most) (T : Top K mg) (c__law_pairs_of : CallOk P w K mg base 1 "_law_pairs_of" ["three"] W__law_pairs_of) : ∀ k_ : Nat, CallOk P w K mg base (2 + k_) "_law_most" ["rest", "held"] (W__law_most k_)
  | 0 => call_false D (fun _ _ _ _ _ _ us hl => match us, hl with | [_, _], _ => rfl)
  | k_ + 1 => by
    have c__law_most := c__law_most D T c__law_pairs_of k_
    exact call_of (k := 2 + k_) D S__law_most (fun _ _ _ _ _ _ us hl => match us, hl with | [_, _], _ => rfl) fun f cdv A outer s H E G Ex room tk =>
    (ass_cons (as_set 2 S__law_most.nd ae_int) (ass_cons (as_for (passes_of rfl) (ai_range1 T.n_range (ab_cons (AE.ab (AZ.ae (az_callB call_len p_len (by rfl) T.n_len boot_len (ab_cons (ab_name 0) ab_nil)))) ab_nil)) (fun _ => (ag_name 3 S__law_most.nd)) (fun _ => (ass_cons (as_set 4 S__law_most.nd (ae_callC c__law_pairs_of room tk (aa_cons (AZ.ae (az_ix (ab_name 0) (ab_name 3))) aa_nil) (hk := by omega))) (ass_cons (as_if (at_cmp (o_eq room.u64) p_eq (AE.ab (AZ.ae (az_comp [("pair", 5)] S__law_most.nd (ai_seq (ae_name 4)) (blkOk_by (N := N__law_most) (sc := defScope s__law_most) (by decide +kernel)) (fun _ _ _ _ _ _ => (ag_name 5 S__law_most.nd)) (fun _ _ _ _ _ _ => (ats_one (at_cmp (op_inD room.u65) p_in (ab_name 5) (ab_name 1)))) (fun _ _ _ _ _ _ => (ae_name 5))))) (AE.ab (AZ.ae (az_lst aa_nil)))) (ass_one (as_set 2 S__law_most.nd (AZ.ae (az_callB (call_max2 (by rfl)) p_max2 (by rfl) T.n_max boot_max (ab_cons (ab_name 2) (ab_cons (AE.ab (AZ.ae (az_bin o_add p_add (AE.ab ae_int) (AE.ab (ae_callC c__law_most room tk (aa_cons (AZ.ae (az_slice (ab_name 0) (ao_some (AE.ab (AZ.ae (az_bin o_add p_add (ab_name 3) (AE.ab ae_int))))) ao_none)) (aa_cons (AZ.ae (az_bin o_add p_add (ab_name 1) (ab_name 4))) aa_nil)) (hk := by omega)))))) ab_nil)))))) ass_nil) (ass_one (as_if (at_cmp op_ge p_ge (ab_name 2) (AE.ab (AZ.ae (az_bin op_sub p_sub (AE.ab (AZ.ae (az_bin op_sub p_sub (AE.ab (AZ.ae (az_callB call_len p_len (by rfl) T.n_len boot_len (ab_cons (ab_name 0) ab_nil)))) (ab_name 3)))) (AE.ab ae_int))))) (ass_one (as_ret (ae_name 2))) ass_nil)))))) (ass_one (as_ret (ae_name 2)))))
def W_is_whole : WF := wDef 1 1 fun Ex => (wRet (wAndV (wIsi .int (wNameB 0)) (wNotV (wIsi .bool (wNameB 0)))))
theorem c_is_whole (D : DefAt K mg "is_whole" s_is_whole) (T : Top K mg)  : CallOk P w K mg base 1 "is_whole" ["value"] W_is_whole := by
  exact call_of (k := 0) D S_is_whole (fun _ _ _ _ _ _ us hl => match us, hl with | [_], _ => rfl) fun f cdv A outer s H E G Ex room tk =>
    (ass_one (as_ret (ae_and (ae_isi .int (ab_name 0) T.n_isinstance T.n_int) (ae_one (ae_not (ae_isi .bool (ab_name 0) T.n_isinstance T.n_bool))))))
def W_is_count : WF := wDef 1 1 fun Ex => (wRet (wAndV (wCall W_is_whole Ex (wCons (wName 0) wNil)) (wFrz (w2 sGe (wNameB 0) (wDat (wC (.dat (.int 0))))))))
theorem c_is_count (D : DefAt K mg "is_count" s_is_count) (T : Top K mg) (c_is_whole : CallOk P w K mg base 1 "is_whole" ["value"] W_is_whole) : CallOk P w K mg base 2 "is_count" ["value"] W_is_count := by
  exact call_of (k := 1) D S_is_count (fun _ _ _ _ _ _ us hl => match us, hl with | [_], _ => rfl) fun f cdv A outer s H E G Ex room tk =>
    (ass_one (as_ret (ae_and (ae_callC c_is_whole room tk (aa_cons (ae_name 0) aa_nil)) (ae_one (AZ.ae (az_cmp op_ge p_ge (ab_name 0) (AE.ab ae_int)))))))
def W_need_count : WF := wDef 2 2 fun Ex => (wIfS (wNotT (wBool (wZ (wCall W_is_count Ex (wCons (wName 1) wNil))))) (wRaise "BadNumber" "what" (some "number") Ex (wCons (wName 0) (wCons (wName 1) wNil))) wNext)
theorem c_need_count (D : DefAt K mg "need_count" s_need_count) (T : Top K mg) (c_is_count : CallOk P w K mg base 2 "is_count" ["value"] W_is_count) : CallOk P w K mg base 3 "need_count" ["what", "value"] W_need_count := by
  exact call_of (k := 2) D S_need_count (fun _ _ _ _ _ _ us hl => match us, hl with | [_, _], _ => rfl) fun f cdv A outer s H E G Ex room tk =>
    (ass_one (as_if (at_not (AZ.at (AE.az (ae_callC c_is_count room tk (aa_cons (ae_name 1) aa_nil))))) (ass_one (as_raiseC T.e_BadNumber room tk (aa_cons (ae_name 0) (aa_cons (ae_name 1) aa_nil)))) ass_nil))
def W_most_bar_in : WF := wDef 3 1 fun Ex => (wSeq (wSet 1 (wIf (wBool (w2 sGt (wNameB 0) (wDat (wC (.dat (.int 0)))))) (wFrz (w2 sFdiv (wDat (wFrz (w2 sSub (wNameB 0) (wDat (wC (.dat (.int 1))))))) (wDat (wC (.dat (.int 2)))))) (wC (.dat (.int 0))))) (wSeq (wSet 2 (wFrz (w2 sFdiv (wDat (wFrz (w2 sMul (wNameB 0) (wNameB 1)))) (wDat (wC (.dat (.int 3))))))) (wRet (wTup (wCons (wName 1) (wCons (wName 2) (wCons (wIf (wBool (w2 sEq (wDat (wFrz (w2 sMod (wNameB 0) (wDat (wC (.dat (.int 6))))))) (wDat (wC (.dat (.int 5)))))) (wFrz (w2 sSub (wNameB 2) (wDat (wC (.dat (.int 1)))))) (wName 2)) wNil)))))))
theorem c_most_bar_in (D : DefAt K mg "most_bar_in" s_most_bar_in) (T : Top K mg)  : CallOk P w K mg base 1 "most_bar_in" ["n"] W_most_bar_in := by
  exact call_of (k := 0) D S_most_bar_in (fun _ _ _ _ _ _ us hl => match us, hl with | [_], _ => rfl) fun f cdv A outer s H E G Ex room tk =>
    (ass_cons (as_set 1 S_most_bar_in.nd (ae_if (at_cmp op_gt p_gt (ab_name 0) (AE.ab ae_int)) (AZ.ae (az_bin op_fdivN p_fdiv (AE.ab (AZ.ae (az_bin op_sub p_sub (ab_name 0) (AE.ab ae_int)))) (AE.ab ae_int))) ae_int)) (ass_cons (as_set 2 S_most_bar_in.nd (AZ.ae (az_bin op_fdivN p_fdiv (AE.ab (AZ.ae (az_bin o_mul p_mul (ab_name 0) (ab_name 1)))) (AE.ab ae_int)))) (ass_one (as_ret (ae_tup (aa_cons (ae_name 1) (aa_cons (ae_name 2) (aa_cons (ae_if (at_cmp (o_eq room.u64) p_eq (AE.ab (AZ.ae (az_bin op_modN p_mod (ab_name 0) (AE.ab ae_int)))) (AE.ab ae_int)) (AZ.ae (az_bin op_sub p_sub (ab_name 2) (AE.ab ae_int))) (ae_name 2)) aa_nil))))))))
def W_most_number : WF := wDef 1 1 fun Ex => (wSeq (wDrop (wCall W_need_count Ex (wCons (wC (.dat (.str "things"))) (wCons (wName 0) wNil)))) (wRet (wFrz (w2 sIx (wDat (wCall W_most_bar_in Ex (wCons (wName 0) wNil))) (wDat (wC (.dat (.int 2))))))))
theorem c_most_number (D : DefAt K mg "most_number" s_most_number) (T : Top K mg) (c_most_bar_in : CallOk P w K mg base 1 "most_bar_in" ["n"] W_most_bar_in) (c_need_count : CallOk P w K mg base 3 "need_count" ["what", "value"] W_need_count) : CallOk P w K mg base 4 "most_number" ["n"] W_most_number := by
  exact call_of (k := 3) D S_most_number (fun _ _ _ _ _ _ us hl => match us, hl with | [_], _ => rfl) fun f cdv A outer s H E G Ex room tk =>
    (ass_cons (as_expr (ae_callC c_need_count room tk (aa_cons ae_str (aa_cons (ae_name 0) aa_nil)))) (ass_one (as_ret (AZ.ae (az_ix (AE.ab (ae_callC c_most_bar_in room tk (aa_cons (ae_name 0) aa_nil))) (AE.ab ae_int))))))
def W_need_full : WF := wDef 1 1 fun Ex => (wSeq (wDrop (wCall W_need_count Ex (wCons (wC (.dat (.str "things"))) (wCons (wName 0) wNil)))) (wIfS (wBool (w2 sEq (wNameB 0) (wDat (wC (.dat (.int 2)))))) (wRaise "NotKept" "promise" (some "witness") Ex (wCons (wC (.dat (.str "full"))) (wCons (wC (.dat (.int 2))) wNil))) wNext))
theorem c_need_full (D : DefAt K mg "need_full" s_need_full) (T : Top K mg) (c_need_count : CallOk P w K mg base 3 "need_count" ["what", "value"] W_need_count) : CallOk P w K mg base 4 "need_full" ["n"] W_need_full := by
  exact call_of (k := 3) D S_need_full (fun _ _ _ _ _ _ us hl => match us, hl with | [_], _ => rfl) fun f cdv A outer s H E G Ex room tk =>
    (ass_cons (as_expr (ae_callC c_need_count room tk (aa_cons ae_str (aa_cons (ae_name 0) aa_nil)))) (ass_one (as_if (at_cmp (o_eq room.u64) p_eq (ab_name 0) (AE.ab ae_int)) (ass_one (as_raiseC T.e_NotKept room tk (aa_cons ae_str (aa_cons ae_int aa_nil)))) ass_nil)))
def W_fewest_bar_in : WF := wDef 2 1 fun Ex => (wSeq (wSet 1 (wFrz (w2 sFdiv (wNameB 0) (wDat (wC (.dat (.int 2))))))) (wRet (wTup (wCons (wName 1) (wCons (wFrz (w2 sFdiv (wDat (wFrz (w2 sAdd (wDat (wFrz (w2 sMul (wNameB 0) (wNameB 1)))) (wDat (wC (.dat (.int 2))))))) (wDat (wC (.dat (.int 3)))))) wNil)))))
theorem c_fewest_bar_in (D : DefAt K mg "fewest_bar_in" s_fewest_bar_in) (T : Top K mg)  : CallOk P w K mg base 1 "fewest_bar_in" ["n"] W_fewest_bar_in := by
  exact call_of (k := 0) D S_fewest_bar_in (fun _ _ _ _ _ _ us hl => match us, hl with | [_], _ => rfl) fun f cdv A outer s H E G Ex room tk =>
    (ass_cons (as_set 1 S_fewest_bar_in.nd (AZ.ae (az_bin op_fdivN p_fdiv (ab_name 0) (AE.ab ae_int)))) (ass_one (as_ret (ae_tup (aa_cons (ae_name 1) (aa_cons (AZ.ae (az_bin op_fdivN p_fdiv (AE.ab (AZ.ae (az_bin o_add p_add (AE.ab (AZ.ae (az_bin o_mul p_mul (ab_name 0) (ab_name 1)))) (AE.ab ae_int)))) (AE.ab ae_int))) aa_nil))))))
def W_fewest_number : WF := wDef 1 1 fun Ex => (wSeq (wDrop (wCall W_need_full Ex (wCons (wName 0) wNil))) (wRet (wFrz (w2 sIx (wDat (wCall W_fewest_bar_in Ex (wCons (wName 0) wNil))) (wDat (wC (.dat (.int 1))))))))
theorem c_fewest_number (D : DefAt K mg "fewest_number" s_fewest_number) (T : Top K mg) (c_fewest_bar_in : CallOk P w K mg base 1 "fewest_bar_in" ["n"] W_fewest_bar_in) (c_need_full : CallOk P w K mg base 4 "need_full" ["n"] W_need_full) : CallOk P w K mg base 5 "fewest_number" ["n"] W_fewest_number := by
  exact call_of (k := 4) D S_fewest_number (fun _ _ _ _ _ _ us hl => match us, hl with | [_], _ => rfl) fun f cdv A outer s H E G Ex room tk =>
    (ass_cons (as_expr (ae_callC c_need_full room tk (aa_cons (ae_name 0) aa_nil))) (ass_one (as_ret (AZ.ae (az_ix (AE.ab (ae_callC c_fewest_bar_in room tk (aa_cons (ae_name 0) aa_nil))) (AE.ab ae_int))))))
def B__law_pairs_0 (Ex : Exc → Ga → Prop) : WS := (wSet 1 (wFrz (w2 sAdd (wNameB 1) (wDat (wFrz (wComp [3] (wRange2 (wCons (wDat (wFrz (w2 sAdd (wNameB 2) (wDat (wC (.dat (.int 1))))))) (wCons (wNameB 0) wNil))) (gSet 3) wYes (wTup (wCons (wName 2) (wCons (wName 3) wNil)))))))))
def W__law_pairs : WF := wDef 4 1 fun Ex => (wSeq (wSet 1 (wFrz (wLst wNil))) (wSeq (wFor (wRange1 (wCons (wNameB 0) wNil)) (gSet 2) (B__law_pairs_0 Ex)) (wRet (wName 1))))
theorem c__law_pairs (D : DefAt K mg "_law_pairs" s__law_pairs) (T : Top K mg)  : CallOk P w K mg base 1 "_law_pairs" ["n"] W__law_pairs := by
  exact call_of (k := 0) D S__law_pairs (fun _ _ _ _ _ _ us hl => match us, hl with | [_], _ => rfl) fun f cdv A outer s H E G Ex room tk =>
    (ass_cons (as_set 1 S__law_pairs.nd (AZ.ae (az_lst aa_nil))) (ass_cons (as_for (passes_of rfl) (ai_range1 T.n_range (ab_cons (ab_name 0) ab_nil)) (fun _ => (ag_name 2 S__law_pairs.nd)) (fun _ => (ass_one (as_set 1 S__law_pairs.nd (AZ.ae (az_bin o_add p_add (ab_name 1) (AE.ab (AZ.ae (az_comp [("j", 3)] S__law_pairs.nd (ai_range2 T.n_range (ab_cons (AE.ab (AZ.ae (az_bin o_add p_add (ab_name 2) (AE.ab ae_int)))) (ab_cons (ab_name 0) ab_nil))) (blkOk_by (N := N__law_pairs) (sc := defScope s__law_pairs) (by decide +kernel)) (fun _ _ _ _ _ _ => (ag_name 3 S__law_pairs.nd)) (fun _ _ _ _ _ _ => ats_nil) (fun _ _ _ _ _ _ => (ae_tup (aa_cons (ae_name 2) (aa_cons (ae_name 3) aa_nil))))))))))))) (ass_one (as_ret (ae_name 1)))))
def B__law_can_hold_0 (rec_ : WF) (Ex : Exc → Ga → Prop) : WS := (wIfS (wBool (w2 sNotIn (wNameB 5) (wDat (wFrz (wLst (wCons (wName 3) (wCons (wName 4) wNil))))))) (wSeq (wSet 6 (wCall W__law_pairs_of Ex (wCons (wFrz (wN sTuple (wCons (wDat (wFrz (wN sSortI (wCons (wDat (wFrz (wLst (wCons (wName 3) (wCons (wName 4) (wCons (wName 5) wNil)))))) wNil)))) wNil))) wNil))) (wIfS (wBool (wZ (wCall rec_ Ex (wCons (wName 0) (wCons (wFrz (wComp [7] (wItems (wName 1)) (gSet 7) (wBool (w2 sNotIn (wNameB 7) (wNameB 6))) (wName 7))) (wCons (wFrz (w2 sSub (wNameB 2) (wDat (wC (.dat (.int 1)))))) wNil)))))) (wRet (wC (.dat (.bool true)))) wNext)) wNext)
def W__law_can_hold : Nat → WF
  | 0 => fun _ _ _ _ => False
  | k_ + 1 => wDef 8 3 fun Ex => (wSeq (wIfS (wBool (w2 sEq (wNameB 1) (wDat (wFrz (wLst wNil))))) (wRet (wC (.dat (.bool true)))) wNext) (wSeq (wIfS (wBool (w2 sLt (wDat (wFrz (w2 sMul (wDat (wC (.dat (.int 3)))) (wNameB 2)))) (wDat (wFrz (wN sLen (wCons (wNameB 1) wNil)))))) (wRet (wC (.dat (.bool false)))) wNext) (wSeq (wAsg (wFrz (w2 sIx (wNameB 1) (wDat (wC (.dat (.int 0)))))) (gTupV 2 (gsCons (gSet 3) (gsCons (gSet 4) gsNil)))) (wSeq (wFor (wRange1 (wCons (wNameB 0) wNil)) (gSet 5) (B__law_can_hold_0 (W__law_can_hold k_) Ex)) (wRet (wC (.dat (.bool false))))))))
theorem c__law_can_hold (D : DefAt K mg "_law_can_hold" s__law_can_hold) (T : Top K mg) (c__law_pairs_of : CallOk P w K mg base 1 "_law_pairs_of" ["three"] W__law_pairs_of) : ∀ k_ : Nat, CallOk P w K mg base (2 + k_) "_law_can_hold" ["n", "left", "many"] (W__law_can_hold k_)
  | 0 => call_false D (fun _ _ _ _ _ _ us hl => match us, hl with | [_, _, _], _ => rfl)
  | k_ + 1 => by
    have c__law_can_hold := c__law_can_hold D T c__law_pairs_of k_
    exact call_of (k := 2 + k_) D S__law_can_hold (fun _ _ _ _ _ _ us hl => match us, hl with | [_, _, _], _ => rfl) fun f cdv A outer s H E G Ex room tk =>
    (ass_cons (as_if (at_cmp (o_eq room.u64) p_eq (ab_name 1) (AE.ab (AZ.ae (az_lst aa_nil)))) (ass_one (as_ret ae_bl)) ass_nil) (ass_cons (as_if (at_cmp op_lt p_lt (AE.ab (AZ.ae (az_bin o_mul p_mul (AE.ab ae_int) (ab_name 2)))) (AE.ab (AZ.ae (az_callB call_len p_len (by rfl) T.n_len boot_len (ab_cons (ab_name 1) ab_nil))))) (ass_one (as_ret ae_bl)) ass_nil) (ass_cons (as_asg (AZ.ae (az_ix (ab_name 1) (AE.ab ae_int))) (ag_tup (ags_cons (ag_name 3 S__law_can_hold.nd) (ags_cons (ag_name 4 S__law_can_hold.nd) ags_nil)))) (ass_cons (as_for (passes_of rfl) (ai_range1 T.n_range (ab_cons (ab_name 0) ab_nil)) (fun _ => (ag_name 5 S__law_can_hold.nd)) (fun _ => (ass_one (as_if (at_cmp (op_notInD room.u65) p_notIn (ab_name 5) (AE.ab (AZ.ae (az_lst (aa_cons (ae_name 3) (aa_cons (ae_name 4) aa_nil)))))) (ass_cons (as_set 6 S__law_can_hold.nd (ae_callC c__law_pairs_of room tk (aa_cons (AZ.ae (az_callTy call_tuple_of p_tuple (by rfl) T.n_tuple boot_tuple (ab_cons (AE.ab (AZ.ae (az_callB cr_sortedI p_sortI (by rfl) T.n_sorted boot_sorted (ab_cons (AE.ab (AZ.ae (az_lst (aa_cons (ae_name 3) (aa_cons (ae_name 4) (aa_cons (ae_name 5) aa_nil)))))) ab_nil)))) ab_nil))) aa_nil) (hk := by omega))) (ass_one (as_if (AZ.at (AE.az (ae_callC c__law_can_hold room tk (aa_cons (ae_name 0) (aa_cons (AZ.ae (az_comp [("pair", 7)] S__law_can_hold.nd (ai_seq (ae_name 1)) (blkOk_by (N := N__law_can_hold) (sc := defScope s__law_can_hold) (by decide +kernel)) (fun _ _ _ _ _ _ => (ag_name 7 S__law_can_hold.nd)) (fun _ _ _ _ _ _ => (ats_one (at_cmp (op_notInD room.u65) p_notIn (ab_name 7) (ab_name 6)))) (fun _ _ _ _ _ _ => (ae_name 7)))) (aa_cons (AZ.ae (az_bin op_sub p_sub (ab_name 2) (AE.ab ae_int))) aa_nil))) (hk := by omega)))) (ass_one (as_ret ae_bl)) ass_nil))) ass_nil)))) (ass_one (as_ret ae_bl))))))
def W_law : WS := (wSeq (wSet 2 (wFrz (w2 sAdd (wDat (wC (.dat (.int 3)))) (wDat (wCall W__law_draw Ex0 (wCons (wName 1) (wCons (wC (.dat (.int 4))) wNil))))))) (wSeq (wSet 3 (wCall W__law_all_threes Ex0 (wCons (wName 2) wNil))) (wSeq (wIfS (wBool (w2 sNe (wDat (wFrz (wN sRepr (wCons (wDat (wCall (W__law_most 8) Ex0 (wCons (wName 3) (wCons (wFrz (wLst wNil)) wNil)))) wNil)))) (wDat (wFrz (wN sRepr (wCons (wDat (wCall W_most_number Ex0 (wCons (wName 2) wNil))) wNil)))))) (wRet (wC (.dat (.bool false)))) wNext) (wSeq (wPar 4 5 (wZ (wCall W_fewest_number Ex0 (wCons (wName 2) wNil))) (wZ (wCall W__law_pairs Ex0 (wCons (wName 2) wNil)))) (wRet (wAndV (wCall (W__law_can_hold 8) Ex0 (wCons (wName 2) (wCons (wName 5) (wCons (wName 4) wNil)))) (wNotV (wCall (W__law_can_hold 8) Ex0 (wCons (wName 2) (wCons (wName 5) (wCons (wFrz (w2 sSub (wNameB 4) (wDat (wC (.dat (.int 1)))))) wNil)))))))))))
theorem law_ok {fa a : Addr} {fd : FuncData} {s : Shared} {H : Hp} {ns : List Int} (F : Fun K "law" "law" s_law fa fd) (T : Top K mg) (Dp : DefAt K mg "_law_pen" s__law_pen) (c__law_all_threes : CallOk P w K mg base 1 "_law_all_threes" ["n"] W__law_all_threes) (c__law_can_hold : CallOk P w K mg base 10 "_law_can_hold" ["n", "left", "many"] (W__law_can_hold 8)) (c__law_draw : CallOk P w K mg base 1 "_law_draw" ["pen", "many"] W__law_draw) (c__law_most : CallOk P w K mg base 10 "_law_most" ["rest", "held"] (W__law_most 8)) (c__law_pairs : CallOk P w K mg base 1 "_law_pairs" ["n"] W__law_pairs) (c_fewest_number : CallOk P w K mg base 5 "fewest_number" ["n"] W_fewest_number) (c_most_number : CallOk P w K mg base 4 "most_number" ["n"] W_most_number)
    (hw : wTrue W_law 6) (e0 : Env0 P w K mg base callerA [] s H) (hS : SqL K H a (ns.map V.int)) (hn : ns.length ≤ 63) : codeAny (model P w) callerA (.call (.ref fa) ⟨[.ref a], []⟩) (LawDone P w H s) s := by
  obtain ⟨fp, fdp, Fp, mgp, kp, bp⟩ := c__law_pen (P := P) (w := w) (base := base) Dp T
  refine law_body (k := 10) F S_law (by decide) rfl ⟨⟨rfl, by decide, by decide⟩, rfl⟩ rfl (fun cdv A outer s H room => ?_) (fun cdv A outer s H G room => ?_) hw e0 hS hn (F.binds (ps := ["script"]) (fun _ _ _ _ _ _ us hl => match us, hl with | [_], _ => rfl) s [.ref a] (e0.mod.kin.keeps fun b o e => (e0.bs b o e).1) rfl)
  · exact ps_set (i := 1) S_law.nd rfl (by first | exact Or.inl rfl | exact Or.inr rfl) (pe_call (Fp) (room.room.mono (by decide)) (by rfl) mgp kp bp .nil pass0 (pa_cons (pv 0) pa_nil))
  · exact (ass_cons (as_set 2 S_law.nd (AZ.ae (az_bin o_add p_add (AE.ab ae_int) (AE.ab (ae_callC c__law_draw room tk0 (aa_cons (ae_name 1) (aa_cons ae_int aa_nil))))))) (ass_cons (as_set 3 S_law.nd (ae_callC c__law_all_threes room tk0 (aa_cons (ae_name 2) aa_nil))) (ass_cons (as_if (at_cmp (o_ne room.u64) p_ne (AE.ab (AZ.ae (az_callB (c_repr room.gd room.u66) p_repr (by rfl) T.n_repr boot_repr (ab_cons (AE.ab (ae_callC c__law_most room tk0 (aa_cons (ae_name 3) (aa_cons (AZ.ae (az_lst aa_nil)) aa_nil)))) ab_nil)))) (AE.ab (AZ.ae (az_callB (c_repr room.gd room.u66) p_repr (by rfl) T.n_repr boot_repr (ab_cons (AE.ab (ae_callC c_most_number room tk0 (aa_cons (ae_name 2) aa_nil))) ab_nil))))) (ass_one (as_ret ae_bl)) ass_nil) (ass_cons (as_par 4 5 S_law.nd (AE.az (ae_callC c_fewest_number room tk0 (aa_cons (ae_name 2) aa_nil))) (AE.az (ae_callC c__law_pairs room tk0 (aa_cons (ae_name 2) aa_nil)))) (ass_one (as_ret (ae_and (ae_callC c__law_can_hold room tk0 (aa_cons (ae_name 2) (aa_cons (ae_name 5) (aa_cons (ae_name 4) aa_nil)))) (ae_one (ae_not (ae_callC c__law_can_hold room tk0 (aa_cons (ae_name 2) (aa_cons (ae_name 5) (aa_cons (AZ.ae (az_bin op_sub p_sub (ab_name 4) (AE.ab ae_int))) aa_nil)))))))))))))
end
end Lk25


namespace Lk25
open PySem PySem.Spec PyProof.Rows L2 VL
def tr (a b c : Int) : D := .tuple [.int a, .int b, .int c]
def pr (a b : Int) : D := .tuple [.int a, .int b]
theorem pairs_of_ok {a b e : Int} {c : Nat} {P : Rv → Nat → Prop} {R : Exc → Nat → Prop} (h : P (.dat (.list [pr a b, pr a e, pr b e])) c) : W__law_pairs_of [.dat (tr a b e)] c P R := by
  refine ⟨rfl, ?_⟩
  simp [wDef, wSeq, wNext, wIfS, wRet, wIf, wBool, w2, w1, wN, wNameB, wName, wDat, wC, wFrz, wZ, wTup, wLst, wCons, wNil, wAndT, wOrT, wNotT, wAndV, wOrV, wNotV, wSet, wSetZ, wDrop, wCall, wRaise, wIsi, dats, startG, Ga.at, Ga.set, isiD, Rz.rv, Rz.sl, sInt, sNeg, sInt1, sIsN, sNotN, isN, eqv_int, eqOk, sEq, sNe, wXf, wAsg, gTupV, gsCons, gSet, gsNil, tr]
  exact h
def stepB (n : Int) (a : D) (acc : List D) (b : D) : List D := acc ++ (rangeD (iD b + 1) (n - (iD b + 1)).toNat).filterMap fun e => some (.tuple [a, b, e])
def stepA (n : Int) (acc : List D) (a : D) : List D := (rangeD (iD a + 1) (n - (iD a + 1)).toNat).foldl (stepB n a) acc
def allThrees (n : Int) : List D := (rangeD 0 n.toNat).foldl (stepA n) []
theorem stepB_len {n : Int} {a d : D} {acc : List D} (n0 : 0 ≤ n) (hn : n ≤ 6) (hd : 0 ≤ iD d) : (stepB n a acc d).length ≤ acc.length + 6 := by
  unfold stepB
  rw [List.length_append]
  refine Nat.add_le_add_left (Nat.le_trans (List.length_filterMap_le _ _) ?_) _
  rw [rangeD_length]; omega
abbrev TG (n : Int) (acc : List D) (a b : Sl) (c : Nat) : Ga := ⟨[.rv (.dat (.int n)), .rv (.dat (.list acc)), a, b, .no], c⟩
theorem turnB {n a : Int} {acc : List D} {b : Int} {c : Nat} {E : En} {Ex : Exc → Ga → Prop} (n0 : 0 ≤ n) (hn : n ≤ 6) (hb : 0 ≤ b) (hb6 : b ≤ 6) (hl : acc.length ≤ 1000) (h : E.nx (TG n (stepB n (.int a) acc (.int b)) (.rv (.dat (.int a))) (.rv (.dat (.int b))) c)) :
    B__law_all_threes_0 Ex E (TG n acc (.rv (.dat (.int a))) (.rv (.dat (.int b))) c) := by
  unfold B__law_all_threes_0
  simp only [wSet, wFrz, w2, wNameB, wDat, wComp, wRange2, wCons, wNil, wC, Ga.at, List.getD_cons_succ, List.getD_cons_zero, sAdd, Rz.rv]
  refine ⟨fun v hv => by rw [List.mem_singleton.mp hv]; trivial, ?_⟩
  refine ⟨by omega, by omega, by omega, by omega, by omega, ?_⟩
  refine compW_fm (Γ0 := TG n acc (.rv (.dat (.int a))) (.rv (.dat (.int b))) c) (fun e => some (.tuple [.int a, .int b, e])) ?_ ?_
  · intro d hd P1 P0 k1 k0
    simp [gSet, wYes, wTup, wCons, wName, wNil, Ga.at, Ga.set, dats]
    exact k1 _ rfl _ rfl
  · have hz : ((rangeD (b + 1) (n - (b + 1)).toNat).filterMap (fun e => some (.tuple [.int a, .int b, e]) : D → Option D)).length ≤ 6 := by
      refine Nat.le_trans (List.length_filterMap_le _ _) ?_
      rw [rangeD_length]; omega
    refine ⟨?_, h⟩
    rw [List.nil_append]
    omega
theorem turnA {n a : Int} {acc : List D} {x y : Sl} {c : Nat} {E : En} {Ex : Exc → Ga → Prop} (n0 : 0 ≤ n) (hn : n ≤ 6) (ha : 0 ≤ a) (ha6 : a ≤ 6) (hl : acc.length ≤ 500) (h : ∀ x y, E.nx (TG n (stepA n acc (.int a)) x y c)) :
    B__law_all_threes_1 Ex E (TG n acc (.rv (.dat (.int a))) y c) := by
  unfold B__law_all_threes_1
  simp only [wFor, wRange2, wCons, wNil, wDat, wFrz, w2, wNameB, wC, Ga.at, List.getD_cons_succ, List.getD_cons_zero, sAdd, Rz.rv]
  refine ⟨by omega, by omega, by omega, by omega, by omega, ?_⟩
  refine forW_fold (fun j acc' Γ => acc'.length ≤ acc.length + 6 * j ∧ ∃ y, Γ = TG n acc' (.rv (.dat (.int a))) y c) (stepB n (.int a)) 0 acc ⟨by omega, _, rfl⟩ ?_ ?_
  · rintro d hd j acc' Γ hj ⟨hl', y, rfl⟩ N hN
    obtain ⟨i, hi, rfl⟩ := range_mem hd
    rw [rangeD_length] at hj
    simp only [gSet]
    refine turnB n0 hn (by omega) (by omega) (by omega) ?_
    refine hN _ ⟨?_, _, rfl⟩
    have := stepB_len (a := .int a) (acc := acc') (d := .int (a + 1 + (i : Nat))) n0 hn (by simp only [iD]; omega)
    omega
  · rintro Γ ⟨hl', y, rfl⟩
    exact h _ _
theorem stepA_len {n a : Int} {acc : List D} (n0 : 0 ≤ n) (hn : n ≤ 6) (ha : 0 ≤ a) : (stepA n acc (.int a)).length ≤ acc.length + 36 := by
  have key : ∀ (items : List D) (acc : List D), (∀ d ∈ items, 0 ≤ iD d) → (items.foldl (stepB n (.int a)) acc).length ≤ acc.length + 6 * items.length := by
    intro items
    induction items with
    | nil => intro acc _; simp
    | cons d r ih =>
      intro acc hd
      have h1 := ih (stepB n (.int a) acc d) fun x hx => hd x (.tail _ hx)
      have h0 := hd d (.head _)
      have := stepB_len (a := .int a) (acc := acc) n0 hn h0
      rw [List.foldl_cons, List.length_cons]
      omega
  have := key (rangeD (a + 1) (n - (a + 1)).toNat) acc fun d hd => by
    obtain ⟨i, hi, rfl⟩ := range_mem hd
    simp only [iD]; omega
  rw [rangeD_length] at this
  unfold stepA
  simp only [iD]
  omega
theorem all_threes_ok {n : Int} {c : Nat} {P : Rv → Nat → Prop} {R : Exc → Nat → Prop} (n0 : 0 ≤ n) (hn : n ≤ 6) (h : P (.dat (.list (allThrees n))) c) : W__law_all_threes [.dat (.int n)] c P R := by
  refine ⟨rfl, ?_⟩
  simp only [wSeq, wSet, wFrz, wLst, wNil, dats, Rz.rv, wFor, wRange1, wCons, wNameB, startG, Ga.at, Ga.set]
  refine ⟨by omega, by omega, ?_⟩
  refine forW_fold (fun j acc Γ => acc.length ≤ 36 * j ∧ ∃ x y, Γ = TG n acc x y c) (stepA n) 0 [] ⟨by simp, _, _, rfl⟩ ?_ ?_
  · rintro d hd j acc Γ hj ⟨hl', x, y, rfl⟩ N hN
    obtain ⟨i, hi, rfl⟩ := range_mem hd
    rw [rangeD_length] at hj
    simp only [gSet]
    refine turnA (x := x) n0 hn (by omega) (by omega) (by omega) fun x y => ?_
    have := stepA_len (acc := acc) (a := 0 + (i : Nat)) n0 hn (by omega)
    exact hN _ ⟨by omega, _, _, rfl⟩
  · rintro Γ ⟨hl', x, y, rfl⟩
    simp only [wRet, wName, Ga.at, List.getD_cons_succ, List.getD_cons_zero]
    exact h
end Lk25


namespace Lk25
open PySem PySem.Spec PyProof.Rows L2 VL
def IsTr (d : D) : Prop := ∃ a b e, d = tr a b e
def IsPr (d : D) : Prop := ∃ a b, d = pr a b
def own : D → List D
  | .tuple [a, b, e] => [.tuple [a, b], .tuple [a, e], .tuple [b, e]]
  | _ => []
def mostL (rec_ : List D → List D → Option Int) (held : List D) : List D → Int → Option Int
  | [], best => some best
  | x :: t, best => match (if (own x).any (inL · held) = true then some best else (rec_ t (held ++ own x)).map fun m => if 1 + m > best then 1 + m else best) with
    | none => none
    | some b => if (t.length : Int) ≤ b then some b else mostL rec_ held t b
def most : Nat → List D → List D → Option Int
  | 0, _, _ => none
  | f + 1, rest, held => mostL (most f) held rest 0
theorem own_pr {d : D} (h : IsTr d) : ∀ e ∈ own d, IsPr e := by
  obtain ⟨a, b, c, rfl⟩ := h
  intro e he
  simp only [own, tr, List.mem_cons, List.not_mem_nil, or_false] at he
  rcases he with rfl | rfl | rfl <;> exact ⟨_, _, rfl⟩
theorem ok_pr {d : D} (h : IsPr d) : okD d := by
  obtain ⟨a, b, rfl⟩ := h
  exact ⟨by simp [pr, nodict, nodicts], by simp [pr, SeqAt.shaped, PyData.canLay0, PyData.canLayAll0, PyData.depth, PyData.depthAll]⟩
theorem ok_prs {ds : List D} (h : ∀ d ∈ ds, IsPr d) : okD (.list ds) := by
  have key : nodicts ds = true ∧ PyData.canLayAll0 ds = true ∧ PyData.depthAll ds ≤ 1 := by
    induction ds with
    | nil => exact ⟨rfl, rfl, by simp [PyData.depthAll]⟩
    | cons d r ih =>
      obtain ⟨h1, h2, h3⟩ := ih fun e he => h e (.tail _ he)
      obtain ⟨a, b, rfl⟩ := h d (.head _)
      refine ⟨by simp [nodicts, nodict, pr, h1], by simp [PyData.canLayAll0, PyData.canLay0, pr, h2], ?_⟩
      simp [PyData.depthAll, PyData.depth, pr]
      omega
  obtain ⟨h1, h2, h3⟩ := key
  exact ⟨by simpa [nodict] using h1, by simp [SeqAt.shaped, PyData.canLay0, h2, PyData.depth]; omega⟩
theorem eqv_nil (xs : List D) : PyData.eqv (.list xs) (.list []) = decide (xs = []) := by
  cases xs <;> simp [PyData.eqv, PyData.eqvAll]
theorem cut_from {xs : List D} {k : Nat} (h : k ≤ xs.length) : VL.cutD xs (some (k : Int)) none = xs.drop k := by
  unfold VL.cutD
  have h1 : HT.sIx xs.length 0 (some (k : Int)) = k := by rw [HT.sIx_nat]; omega
  have h2 : HT.sIx xs.length xs.length none = xs.length := HT.sIx_none _ _
  rw [h1, h2]
  exact List.take_of_length_le (by rw [List.length_drop]; omega)
theorem at_nat {xs : List D} {k : Nat} {d : D} (h : xs[k]? = some d) : L2.atI xs (k : Int) = some d := by
  have hk : k < xs.length := (List.getElem?_eq_some_iff.mp h).1
  unfold L2.atI
  rw [show ixN xs.length (k : Int) = some k from by unfold ixN; simp [hk]]
  exact h
theorem filt_nil {p : D → Bool} {xs : List D} : (xs.filterMap fun d => if p d = true then some d else none) = [] ↔ xs.any p = false := by
  induction xs with
  | nil => simp
  | cons x r ih =>
    by_cases h : p x = true
    · rw [List.filterMap_cons_some (by rw [if_pos h])]; simp [h]
    · rw [List.filterMap_cons_none (by rw [if_neg h]), ih]; simp [h]
end Lk25


namespace Lk25
open PySem PySem.Spec PyProof.Rows L2 VL
abbrev MG (rest held : List D) (best : Int) (x y : Sl) (c : Nat) : Ga := ⟨[.rv (.dat (.list rest)), .rv (.dat (.list held)), .rv (.dat (.int best)), x, y, .no], c⟩
abbrev MostOk (f : Nat) : Prop := ∀ (rest held : List D) (c : Nat) (m : Int) (P : Rv → Nat → Prop) (R : Exc → Nat → Prop), (∀ d ∈ rest, IsTr d) → (∀ d ∈ held, IsPr d) → rest.length ≤ 1000 → held.length + 3 * f ≤ 1000 → most f rest held = some m → P (.dat (.int m)) c → W__law_most f [.dat (.list rest), .dat (.list held)] c P R
theorem most_turn {f : Nat} (ih : MostOk f) {rest held t : List D} {x : D} {j : Nat} {best : Int} {y : Sl} {c : Nat} {E : En} {Ex : Exc → Ga → Prop} (hr : ∀ d ∈ rest, IsTr d) (hh : ∀ d ∈ held, IsPr d) (lr : rest.length ≤ 1000) (lh : held.length + 3 * (f + 1) ≤ 1000)
    (hx : rest[j]? = some x) (ht : rest.drop (j + 1) = t) {b : Int} (hb : (if (own x).any (inL · held) = true then some best else (most f t (held ++ own x)).map fun m => if 1 + m > best then 1 + m else best) = some b)
    (go : ¬ ((t.length : Int) ≤ b) → ∀ x y, E.nx (MG rest held b x y c)) (stop : (t.length : Int) ≤ b → ∀ Γ : Ga, Γ.c = c → E.rt (.dat (.int b)) Γ) :
    B__law_most_0 (W__law_most f) Ex E (MG rest held best (.rv (.dat (.int (j : Nat)))) y c) := by
  have hj : j < rest.length := (List.getElem?_eq_some_iff.mp hx).1
  have hxr : IsTr x := hr x (List.mem_of_getElem? hx)
  have lt : t.length + (j + 1) = rest.length := by rw [← ht, List.length_drop]; omega
  have ho := own_pr hxr
  have last : ∀ z, wIfS (wBool (w2 sGe (wNameB 2) (wDat (wFrz (w2 sSub (wDat (wFrz (w2 sSub (wDat (wFrz (wN sLen (wCons (wNameB 0) wNil)))) (wNameB 3)))) (wDat (wC (.dat (.int 1))))))))) (wRet (wName 2)) wNext E (MG rest held b (.rv (.dat (.int (j : Nat)))) z c) := fun z => by
    simp only [wIfS, wBool, w2, wNameB, wDat, wFrz, wN, wCons, wNil, wC, Ga.at, List.getD_cons_succ, List.getD_cons_zero, sLen, Rz.rv, sInt]
    refine ⟨trivial, trivial, trivial, ?_⟩
    by_cases q : (t.length : Int) ≤ b
    · have q' : (rest.length : Int) - (j : Nat) - 1 ≤ b := by omega
      simp only [q', decide_true, if_true]
      exact stop q _ rfl
    · have q' : ¬ ((rest.length : Int) - (j : Nat) - 1 ≤ b) := by omega
      simp only [q', decide_false, Bool.false_eq_true, if_false]
      exact go q _ _
  unfold B__law_most_0
  simp only [wSeq, wSet, wCall, wCons, wFrz, w2, wNameB, wNil, Ga.at, List.getD_cons_succ, List.getD_cons_zero, sIx]
  refine ⟨x, at_nat hx, ?_⟩
  obtain ⟨a0, b0, e0, rfl⟩ := hxr
  simp only [Rz.rv]
  refine pairs_of_ok ?_
  have eo : [pr a0 b0, pr a0 e0, pr b0 e0] = own (tr a0 b0 e0) := rfl
  rw [eo]
  generalize hox : own (tr a0 b0 e0) = ox at *
  simp only [wIfS, wBool, w2, wDat, wFrz, wComp, wItems, wName, Ga.at, Ga.set, List.set, List.getD_cons_succ, List.getD_cons_zero]
  refine ⟨fun v hv => by rw [List.mem_singleton.mp hv]; trivial, ?_⟩
  refine compW_fm (Γ0 := MG rest held best (.rv (.dat (.int (j : Nat)))) (.rv (.dat (.list ox))) c) (fun d => if inL d held = true then some d else none) ?_ ?_
  · intro d hd P1 P0 k1 k0
    simp only [gSet, wBool, w2, wNameB, wName, Ga.at, Ga.set, List.set, List.getD_cons_succ, List.getD_cons_zero, sIn]
    refine ⟨ok_pr (ho d hd), ok_prs hh, ?_⟩
    cases q : inL d held with
    | true =>
      rw [show (held.any fun z => PyData.eqv z d) = true from q]
      exact k1 d (by simp [q]) _ rfl
    | false =>
      rw [show (held.any fun z => PyData.eqv z d) = false from q]
      exact k0 (by simp [q]) _ rfl
  · rw [List.nil_append]
    simp only [Rz.rv, wLst, wNil, dats, sEq]
    have okf : ∀ d ∈ (ox.filterMap fun d => if inL d held = true then some d else none), IsPr d := fun d hd => by
      obtain ⟨e, he, q⟩ := List.mem_filterMap.mp hd
      split at q
      · cases q; exact ho _ he
      · cases q
    refine ⟨⟨ok_prs okf, ok_prs (fun _ h => by cases h)⟩, ?_⟩
    rw [eqv_nil]
    by_cases q : ox.any (inL · held) = true
    · rw [decide_eq_false (by rw [filt_nil]; simp [q])]
      simp only [Bool.false_eq_true, if_false, wNext]
      rw [if_pos q] at hb
      cases hb
      exact last _
    · rw [decide_eq_true (filt_nil.mpr (by simpa using q))]
      rw [if_neg q] at hb
      cases hm : most f t (held ++ ox) with
      | none => rw [hm] at hb; cases hb
      | some m =>
        rw [hm] at hb
        cases hb
        simp only [if_true]
        have lo : ox.length = 3 := by rw [← hox]; rfl
        simp only [wSet, wFrz, wN, wCons, wNameB, wDat, w2, wC, wCall, wSl, wPart, wNoPart, wNil, backG, Ga.at, Ga.set, List.set, List.getD_cons_succ, List.getD_cons_zero, sAdd, Rz.rv]
        refine ⟨by omega, ?_⟩
        rw [show ((j : Nat) : Int) + 1 = ((j + 1 : Nat) : Int) by omega, cut_from (by omega), ht]
        refine ih t (held ++ ox) c m _ _ (fun d hd => hr d (List.mem_of_mem_drop (ht ▸ hd))) (fun d hd => ?_) (by omega) (by rw [List.length_append]; omega) hm ?_
        · rcases List.mem_append.mp hd with z | z
          · exact hh d z
          · exact ho d z
        · simp only [sMax2, Rz.rv]
          exact last _
theorem most_loop {f : Nat} (ih : MostOk f) {rest held : List D} {c : Nat} {E : En} {Ex : Exc → Ga → Prop} {m : Int} (hr : ∀ d ∈ rest, IsTr d) (hh : ∀ d ∈ held, IsPr d) (lr : rest.length ≤ 1000) (lh : held.length + 3 * (f + 1) ≤ 1000)
    (hnx : ∀ x y, E.nx (MG rest held m x y c)) (hrt : ∀ Γ : Ga, Γ.c = c → E.rt (.dat (.int m)) Γ) : ∀ (tail : List D) (j : Nat) (best : Int) (x y : Sl), rest.drop j = tail → mostL (most f) held tail best = some m →
      forW (gSet 3) (B__law_most_0 (W__law_most f) Ex) E (rangeD (j : Nat) tail.length) (MG rest held best x y c)
  | [], j, best, x, y, hd, hm => by
    cases hm
    exact hnx _ _
  | d :: t, j, best, x, y, hd, hm => by
    have hx : rest[j]? = some d := by
      have := congrArg (·[0]?) hd
      simpa using this
    have ht : rest.drop (j + 1) = t := by
      have := congrArg (List.drop 1) hd
      simpa [List.drop_drop, Nat.add_comm] using this
    rw [List.length_cons, rangeD_succ]
    simp only [forW, gSet, Ga.set, List.set]
    unfold mostL at hm
    split at hm
    · cases hm
    · rename_i b hb
      refine most_turn ih hr hh lr lh hx ht hb (fun q x y => ?_) fun q Γ hc => ?_
      · rw [if_neg q] at hm
        have := most_loop (E := E) (Ex := Ex) ih hr hh lr lh hnx hrt t (j + 1) b x y ht hm
        rwa [show ((j + 1 : Nat) : Int) = (j : Nat) + 1 by omega] at this
      · rw [if_pos q] at hm
        cases hm
        exact hrt Γ hc
theorem most_ok : ∀ f, MostOk f
  | 0 => fun rest held c m P R _ _ _ _ h _ => by cases h
  | f + 1 => fun rest held c m P R hr hh lr lh hm p => by
    refine ⟨rfl, ?_⟩
    simp only [wSeq, wSet, wC, wFor, wRange1, wDat, wFrz, wN, wCons, wNameB, wNil, sLen, Rz.rv, startG, Ga.at, Ga.set, List.map, List.replicate, List.length, List.cons_append, List.nil_append, List.set, List.getD_cons_succ, List.getD_cons_zero]
    refine ⟨by omega, by omega, ?_⟩
    have := most_loop (E := ⟨fun Γ => (wRet (wName 2)) ⟨fun Γ => P (.dat .none) Γ.c, fun r Γ => P r Γ.c, fun _ => False, fun _ => False⟩ Γ, fun r Γ => P r Γ.c, fun _ => False, fun _ => False⟩) (Ex := fun e Γ => R e Γ.c) (c := c) (m := m) (most_ok f) hr hh lr lh (fun x y => p) (fun Γ hc => by rw [← hc] at p; exact p) rest 0 0 .no .no rfl hm
    simpa using this
end Lk25


namespace Lk25
open PySem PySem.Spec PyProof.Rows L2 VL
def s3 (a b c : Int) : List Int := if a ≤ b then (if c ≤ a then [c, a, b] else if c ≤ b then [a, c, b] else [a, b, c]) else (if c ≤ b then [c, b, a] else if c ≤ a then [b, c, a] else [b, a, c])
theorem s3_perm (a b c : Int) : (s3 a b c).Perm [a, b, c] := by
  rw [List.perm_iff_count]
  intro x
  unfold s3
  repeat' split
  all_goals simp only [List.count_cons, List.count_nil]
  all_goals omega
theorem s3_pw (a b c : Int) : (s3 a b c).Pairwise (· ≤ ·) := by
  unfold s3
  repeat' split
  all_goals simp only [List.pairwise_cons, List.mem_cons, List.not_mem_nil, or_false, forall_eq_or_imp, forall_eq, List.Pairwise.nil, and_true]
  all_goals first | omega | (refine ⟨?_, ?_, ?_⟩ <;> (try intros) <;> (try omega) <;> simp_all)
theorem s3_uniq {a b c : Int} {ns : List Int} (h1 : ns.Perm [a, b, c]) (h2 : ns.Pairwise (· ≤ ·)) : ns = s3 a b c :=
  List.Perm.eq_of_pairwise (fun x y _ _ h h' => Int.le_antisymm h h') h2 (s3_pw a b c) (h1.trans (s3_perm a b c).symm)
def tr3 (a b c : Int) : D := .tuple ((s3 a b c).map PyData.int)
theorem tr3_tr (a b c : Int) : IsTr (tr3 a b c) := by
  unfold tr3 s3
  repeat' split
  all_goals exact ⟨_, _, _, rfl⟩
def canL (rec_ : List D → Int → Option Bool) (a b : Int) (left : List D) (many : Int) : List D → Option Bool
  | [] => some false
  | d :: r => if iD d = a ∨ iD d = b then canL rec_ a b left many r else match rec_ (left.filter fun p => !inL p (own (tr3 a b (iD d)))) (many - 1) with
    | none => none
    | some true => some true
    | some false => canL rec_ a b left many r
def can (n : Int) : Nat → List D → Int → Option Bool
  | 0, _, _ => none
  | f + 1, left, many => match left with
    | [] => some true
    | l0 :: _ => if 3 * many < left.length then some false else match l0 with
      | .tuple [.int a, .int b] => canL (can n f) a b left many (rangeD 0 n.toNat)
      | _ => none
theorem ok_i (i : Int) : okD (.int i) := ⟨rfl, by simp [SeqAt.shaped, PyData.canLay0, PyData.depth]⟩
theorem ok_2 (a b : Int) : okD (.list [.int a, .int b]) := ⟨by simp [nodict, nodicts], by simp [SeqAt.shaped, PyData.canLay0, PyData.canLayAll0, PyData.depth, PyData.depthAll]⟩
theorem filt_eq {p : D → Bool} {xs : List D} : (xs.filterMap fun d => if p d = true then some d else none) = xs.filter p := by
  induction xs with
  | nil => rfl
  | cons x r ih =>
    by_cases h : p x = true
    · rw [List.filterMap_cons_some (by rw [if_pos h]), ih, List.filter_cons_of_pos h]
    · rw [List.filterMap_cons_none (by rw [if_neg h]), ih, List.filter_cons_of_neg h]
abbrev CG (n : Int) (left : List D) (many a b : Int) (x y : Sl) (c : Nat) : Ga := ⟨[.rv (.dat (.int n)), .rv (.dat (.list left)), .rv (.dat (.int many)), .rv (.dat (.int a)), .rv (.dat (.int b)), x, y, .no], c⟩
abbrev CanOk (n : Int) (f : Nat) : Prop := ∀ (left : List D) (many : Int) (c : Nat) (r : Bool) (P : Rv → Nat → Prop) (R : Exc → Nat → Prop), (∀ d ∈ left, IsPr d) → left.length ≤ 1000 → can n f left many = some r → P (.dat (.bool r)) c → W__law_can_hold f [.dat (.int n), .dat (.list left), .dat (.int many)] c P R
theorem can_turn {n : Int} {f : Nat} (ih : CanOk n f) {left : List D} {many a b e : Int} {y : Sl} {c : Nat} {E : En} {Ex : Exc → Ga → Prop} (hl : ∀ d ∈ left, IsPr d) (ll : left.length ≤ 1000)
    (same : e = a ∨ e = b → ∀ y, E.nx (CG n left many a b (.rv (.dat (.int e))) y c))
    (other : ¬ (e = a ∨ e = b) → ∃ r, can n f (left.filter fun p => !inL p (own (tr3 a b e))) (many - 1) = some r ∧ (r = true → ∀ Γ : Ga, Γ.c = c → E.rt (.dat (.bool true)) Γ) ∧ (r = false → ∀ y, E.nx (CG n left many a b (.rv (.dat (.int e))) y c))) :
    B__law_can_hold_0 (W__law_can_hold f) Ex E (CG n left many a b (.rv (.dat (.int e))) y c) := by
  unfold B__law_can_hold_0
  simp only [wIfS, wBool, w2, wNameB, wDat, wFrz, wLst, wCons, wName, wNil, dats, Rz.rv, Ga.at, List.getD_cons_succ, List.getD_cons_zero, sNotIn]
  refine ⟨ok_i e, ok_2 a b, ?_⟩
  simp only [List.any_cons, List.any_nil, eqv_int, Bool.or_false]
  by_cases q : e = a ∨ e = b
  · have q' : (decide (a = e) || decide (b = e)) = true := by rcases q with rfl | rfl <;> simp
    rw [q']
    simp only [Bool.not_true, Bool.false_eq_true, if_false, wNext]
    exact same q _
  · have q' : (decide (a = e) || decide (b = e)) = false := by
      simp only [Bool.or_eq_false_iff, decide_eq_false_iff_not]
      exact ⟨fun z => q (.inl z.symm), fun z => q (.inr z.symm)⟩
    rw [q']
    obtain ⟨r, hr, kt, kf⟩ := other q
    simp only [Bool.not_false, if_true, wSeq, wSet, wCall, wCons, wFrz, wN, wDat, wLst, wName, wNil, dats, Rz.rv, Ga.at, List.getD_cons_succ, List.getD_cons_zero, sSortI]
    refine ⟨[a, b, e], rfl, fun ns' h1 h2 => ?_⟩
    obtain rfl := s3_uniq h1 h2
    simp only [Rz.rv, sTuple]
    have ht := tr3_tr a b e
    have ho := own_pr ht
    obtain ⟨x1, x2, x3, e3⟩ := ht
    show W__law_pairs_of [.dat (tr3 a b e)] c _ _
    generalize hox : own (tr3 a b e) = ox at *
    rw [e3] at hox ⊢
    refine pairs_of_ok ?_
    rw [show [pr x1 x2, pr x1 x3, pr x2 x3] = own (tr x1 x2 x3) from rfl, hox]
    simp only [wIfS, wBool, wZ, wCall, wCons, wName, wFrz, wComp, wItems, wNil, Ga.at, Ga.set, List.set, List.getD_cons_succ, List.getD_cons_zero]
    refine ⟨fun v hv => by rw [List.mem_singleton.mp hv]; trivial, ?_⟩
    refine compW_fm (Γ0 := CG n left many a b (.rv (.dat (.int e))) (.rv (.dat (.list ox))) c) (fun d => if (!inL d ox) = true then some d else none) ?_ ?_
    · intro d hd P1 P0 k1 k0
      simp only [gSet, wBool, w2, wNameB, wName, Ga.at, Ga.set, List.set, List.getD_cons_succ, List.getD_cons_zero, sNotIn]
      refine ⟨ok_pr (hl d hd), ok_prs ho, ?_⟩
      cases q : inL d ox with
      | true =>
        rw [show (ox.any fun z => PyData.eqv z d) = true from q]
        exact k0 (by simp [q]) _ rfl
      | false =>
        rw [show (ox.any fun z => PyData.eqv z d) = false from q]
        exact k1 d (by simp [q]) _ rfl
    · rw [List.nil_append, filt_eq (p := fun d => !inL d ox)]
      simp only [Rz.rv, backG, w2, wNameB, wDat, wC, Ga.at, Ga.set, List.set, List.getD_cons_succ, List.getD_cons_zero, sInt]
      refine ⟨trivial, ih _ _ c r _ _ (fun d hd => hl d (List.mem_filter.mp hd).1) (Nat.le_trans (List.length_filter_le _ _) ll) hr ?_⟩
      cases r with
      | true =>
        simp only [if_true, wRet, wC]
        exact kt rfl _ rfl
      | false =>
        simp only [Bool.false_eq_true, if_false, wNext]
        exact kf rfl _
end Lk25


namespace Lk25
open PySem PySem.Spec PyProof.Rows L2 VL
theorem can_loop {n : Int} {f : Nat} (ih : CanOk n f) {left : List D} {many a b : Int} {c : Nat} {E : En} {Ex : Exc → Ga → Prop} {res : Bool} (hl : ∀ d ∈ left, IsPr d) (ll : left.length ≤ 1000)
    (hnx : res = false → ∀ x y, E.nx (CG n left many a b x y c)) (hrt : res = true → ∀ Γ : Ga, Γ.c = c → E.rt (.dat (.bool true)) Γ) : ∀ (items : List D) (x y : Sl), (∀ d ∈ items, ∃ i, d = .int i) → canL (can n f) a b left many items = some res →
      forW (gSet 5) (B__law_can_hold_0 (W__law_can_hold f) Ex) E items (CG n left many a b x y c)
  | [], x, y, _, hm => by
    cases hm
    exact hnx rfl _ _
  | d :: r, x, y, hi, hm => by
    obtain ⟨e, rfl⟩ := hi d (.head _)
    have rec_ := fun x y hm => can_loop (E := E) (Ex := Ex) (res := res) (many := many) (a := a) (b := b) (c := c) ih hl ll hnx hrt r x y (fun d hd => hi d (.tail _ hd)) hm
    simp only [forW, gSet, Ga.set, List.set]
    unfold canL at hm
    refine can_turn ih hl ll (fun q y => ?_) fun q => ?_
    · rw [if_pos (show iD (.int e) = a ∨ iD (.int e) = b from q)] at hm
      exact rec_ _ _ hm
    · rw [if_neg (show ¬ (iD (.int e) = a ∨ iD (.int e) = b) from q)] at hm
      split at hm
      · cases hm
      · rename_i h
        cases hm
        exact ⟨true, h, fun _ => hrt rfl, fun z => by cases z⟩
      · rename_i h
        exact ⟨false, h, fun z => (by cases z), fun _ y => rec_ _ _ hm⟩
theorem can_ok (n : Int) (n0 : 0 ≤ n) (n6 : n ≤ 6) : ∀ f, CanOk n f
  | 0 => fun _ _ _ _ _ _ _ _ h _ => by cases h
  | f + 1 => fun left many c r P R hl ll hm p => by
    refine ⟨rfl, ?_⟩
    simp only [wSeq, wIfS, wBool, w2, wNameB, wDat, wFrz, wLst, wNil, dats, Rz.rv, startG, Ga.at, List.map, List.replicate, List.length, List.cons_append, List.nil_append, List.getD_cons_succ, List.getD_cons_zero, sEq]
    refine ⟨⟨ok_prs hl, ok_prs fun _ h => by cases h⟩, ?_⟩
    rw [eqv_nil]
    cases left with
    | nil =>
      cases hm
      simp only [decide_true, if_true, wRet, wC]
      exact p
    | cons l0 rest =>
      obtain ⟨a, b, rfl⟩ := hl _ (.head _)
      rw [decide_eq_false (by simp)]
      simp only [Bool.false_eq_true, if_false, wNext, sMul, wC, wN, wCons, wNameB, sLen, Rz.rv, sInt, Ga.at, List.getD_cons_succ, List.getD_cons_zero]
      refine ⟨.inl ⟨by decide, by decide⟩, trivial, ?_⟩
      simp only [can] at hm
      by_cases q : 3 * many < (pr a b :: rest).length
      · rw [if_pos q] at hm
        cases hm
        simp only [q, decide_true, if_true, wRet, wC]
        exact p
      · rw [if_neg q] at hm
        simp only [pr] at hm
        simp only [q, decide_false, Bool.false_eq_true, if_false, wAsg, wFrz, w2, wNameB, wDat, wC, Ga.at, List.getD_cons_succ, List.getD_cons_zero, sIx]
        refine ⟨pr a b, at_nat (k := 0) rfl, ?_⟩
        simp only [Rz.rv, pr, gTupV, gsCons, gsNil, gSet, Ga.set, List.set, wFor, wRange1, wCons, wNameB, wNil, Ga.at, List.getD_cons_succ, List.getD_cons_zero, List.length_cons, List.length_nil]
        refine ⟨trivial, by omega, by omega, ?_⟩
        exact can_loop (can_ok n n0 n6 f) hl ll (fun z x y => by subst z; exact p) (fun z Γ hc => by subst z; rw [← hc] at p; exact p) _ _ _ (fun d hd => by obtain ⟨j, _, rfl⟩ := range_mem hd; exact ⟨_, rfl⟩) hm
def stepP (n : Int) (acc : List D) (a : D) : List D := acc ++ (rangeD (iD a + 1) (n - (iD a + 1)).toNat).filterMap fun e => some (.tuple [a, e])
def allPairs (n : Int) : List D := (rangeD 0 n.toNat).foldl (stepP n) []
theorem stepP_len {n : Int} {d : D} {acc : List D} (n0 : 0 ≤ n) (hn : n ≤ 6) (hd : 0 ≤ iD d) : (stepP n acc d).length ≤ acc.length + 6 := by
  unfold stepP
  rw [List.length_append]
  refine Nat.add_le_add_left (Nat.le_trans (List.length_filterMap_le _ _) ?_) _
  rw [rangeD_length]; omega
abbrev PG (n : Int) (acc : List D) (a : Sl) (c : Nat) : Ga := ⟨[.rv (.dat (.int n)), .rv (.dat (.list acc)), a, .no], c⟩
theorem turnP {n a : Int} {acc : List D} {c : Nat} {E : En} {Ex : Exc → Ga → Prop} (n0 : 0 ≤ n) (hn : n ≤ 6) (ha : 0 ≤ a) (ha6 : a ≤ 6) (hl : acc.length ≤ 1000) (h : E.nx (PG n (stepP n acc (.int a)) (.rv (.dat (.int a))) c)) :
    B__law_pairs_0 Ex E (PG n acc (.rv (.dat (.int a))) c) := by
  unfold B__law_pairs_0
  simp only [wSet, wFrz, w2, wNameB, wDat, wComp, wRange2, wCons, wNil, wC, Ga.at, List.getD_cons_succ, List.getD_cons_zero, sAdd, Rz.rv]
  refine ⟨fun v hv => by rw [List.mem_singleton.mp hv]; trivial, ?_⟩
  refine ⟨by omega, by omega, by omega, by omega, by omega, ?_⟩
  refine compW_fm (Γ0 := PG n acc (.rv (.dat (.int a))) c) (fun e => some (.tuple [.int a, e])) ?_ ?_
  · intro d hd P1 P0 k1 k0
    simp [gSet, wYes, wTup, wCons, wName, wNil, Ga.at, Ga.set, dats]
    exact k1 _ rfl _ rfl
  · have hz := stepP_len (acc := acc) (d := .int a) n0 hn ha
    unfold stepP at hz
    rw [List.length_append] at hz
    refine ⟨?_, h⟩
    rw [List.nil_append]
    exact Nat.le_trans hz (by omega)
theorem pairs_ok {n : Int} {c : Nat} {P : Rv → Nat → Prop} {R : Exc → Nat → Prop} (n0 : 0 ≤ n) (hn : n ≤ 6) (h : P (.dat (.list (allPairs n))) c) : W__law_pairs [.dat (.int n)] c P R := by
  refine ⟨rfl, ?_⟩
  simp only [wSeq, wSet, wFrz, wLst, wNil, dats, Rz.rv, wFor, wRange1, wCons, wNameB, startG, Ga.at, Ga.set]
  refine ⟨by omega, by omega, ?_⟩
  refine forW_fold (fun j acc Γ => acc.length ≤ 6 * j ∧ ∃ x, Γ = PG n acc x c) (stepP n) 0 [] ⟨by simp, _, rfl⟩ ?_ ?_
  · rintro d hd j acc Γ hj ⟨hl', x, rfl⟩ N hN
    obtain ⟨i, hi, rfl⟩ := range_mem hd
    rw [rangeD_length] at hj
    simp only [gSet]
    refine turnP n0 hn (by omega) (by omega) (by omega) ?_
    have := stepP_len (acc := acc) (d := .int (0 + (i : Nat))) n0 hn (by simp only [iD]; omega)
    exact hN _ ⟨by omega, _, rfl⟩
  · rintro Γ ⟨hl', x, rfl⟩
    simp only [wRet, wName, Ga.at, List.getD_cons_succ, List.getD_cons_zero]
    exact h
end Lk25


namespace Lk25
open PySem PySem.Spec PyProof.Rows L2 VL
def isTrB : D → Bool
  | .tuple [.int _, .int _, .int _] => true
  | _ => false
def isPrB : D → Bool
  | .tuple [.int _, .int _] => true
  | _ => false
theorem isTr_of {d : D} (h : isTrB d = true) : IsTr d := by
  unfold isTrB at h
  split at h
  · exact ⟨_, _, _, rfl⟩
  · cases h
theorem isPr_of {d : D} (h : isPrB d = true) : IsPr d := by
  unfold isPrB at h
  split at h
  · exact ⟨_, _, rfl⟩
  · cases h
def mnum (n : Int) : Int := if n = 3 then 1 else if n = 4 then 1 else if n = 5 then 2 else 4
def fnum (n : Int) : Int := if n = 3 then 1 else if n = 4 then 3 else if n = 5 then 4 else 6
def factsB (n : Int) : Bool := decide (most 8 (allThrees n) [] = some (mnum n)) && decide (can n 8 (allPairs n) (fnum n) = some true) && decide (can n 8 (allPairs n) (fnum n - 1) = some false) &&
  ((allThrees n).all isTrB && (allPairs n).all isPrB) && decide ((allThrees n).length ≤ 1000) && decide ((allPairs n).length ≤ 1000)
theorem f3 : factsB 3 = true := by decide +kernel
theorem f4 : factsB 4 = true := by decide +kernel
theorem f5 : factsB 5 = true := by decide +kernel
theorem f6 : factsB 6 = true := by decide +kernel
end Lk25


namespace Lk25
open PySem PySem.Spec PyProof.Rows L2 VL
def isCnt : D → Bool
  | .int i => decide (0 ≤ i)
  | _ => false
def noD : D → Prop
  | .dict _ => False
  | _ => True
theorem is_whole_ok {d : D} {c : Nat} {P : Rv → Nat → Prop} {R : Exc → Nat → Prop} (hd : noD d) (h : P (.dat (.bool (isiD .int d && !isiD .bool d))) c) : W_is_whole [.dat d] c P R := by
  refine ⟨rfl, ?_⟩
  cases d <;> simp [wRet, wAndV, wIsi, wNotV, wNameB, startG, Ga.at, isiD] at h ⊢ <;> first | assumption | exact hd.elim
theorem is_count_ok {d : D} {c : Nat} {P : Rv → Nat → Prop} {R : Exc → Nat → Prop} (hd : noD d) (h : P (.dat (.bool (isCnt d))) c) : W_is_count [.dat d] c P R := by
  refine ⟨rfl, ?_⟩
  simp [wDef, wSeq, wNext, wIfS, wRet, wIf, wBool, w2, w1, wN, wNameB, wName, wDat, wC, wFrz, wZ, wTup, wLst, wCons, wNil, wAndT, wOrT, wNotT, wAndV, wOrV, wNotV, wSet, wSetZ, wDrop, wCall, wRaise, wIsi, dats, startG, Ga.at, Ga.set, isiD, Rz.rv, Rz.sl, sInt, sNeg, sInt1, sIsN, sNotN, isN, eqv_int, eqOk, sEq, sNe, wXf]
  refine is_whole_ok hd ?_
  cases d <;> simp [wDef, wSeq, wNext, wIfS, wRet, wIf, wBool, w2, w1, wN, wNameB, wName, wDat, wC, wFrz, wZ, wTup, wLst, wCons, wNil, wAndT, wOrT, wNotT, wAndV, wOrV, wNotV, wSet, wSetZ, wDrop, wCall, wRaise, wIsi, dats, startG, Ga.at, Ga.set, isiD, Rz.rv, Rz.sl, sInt, sNeg, sInt1, sIsN, sNotN, isN, eqv_int, eqOk, sEq, sNe, wXf, isCnt] at h ⊢ <;> assumption
theorem need_count_ok {w d : D} {c : Nat} {P : Rv → Nat → Prop} {R : Exc → Nat → Prop} (hd : noD d) (h : isCnt d = true → P (.dat .none) c) (h' : isCnt d = false → R ⟨"BadNumber", [("number", d), ("what", w)]⟩ c) : W_need_count [.dat w, .dat d] c P R := by
  refine ⟨rfl, ?_⟩
  simp [wDef, wSeq, wNext, wIfS, wRet, wIf, wBool, w2, w1, wN, wNameB, wName, wDat, wC, wFrz, wZ, wTup, wLst, wCons, wNil, wAndT, wOrT, wNotT, wAndV, wOrV, wNotV, wSet, wSetZ, wDrop, wCall, wRaise, wIsi, dats, startG, Ga.at, Ga.set, isiD, Rz.rv, Rz.sl, sInt, sNeg, sInt1, sIsN, sNotN, isN, eqv_int, eqOk, sEq, sNe, wXf]
  refine is_count_ok hd ?_
  cases e : isCnt d with
  | true => simpa [wDef, wSeq, wNext, wIfS, wRet, wIf, wBool, w2, w1, wN, wNameB, wName, wDat, wC, wFrz, wZ, wTup, wLst, wCons, wNil, wAndT, wOrT, wNotT, wAndV, wOrV, wNotV, wSet, wSetZ, wDrop, wCall, wRaise, wIsi, dats, startG, Ga.at, Ga.set, isiD, Rz.rv, Rz.sl, sInt, sNeg, sInt1, sIsN, sNotN, isN, eqv_int, eqOk, sEq, sNe, wXf, e] using h e
  | false => simpa [wDef, wSeq, wNext, wIfS, wRet, wIf, wBool, w2, w1, wN, wNameB, wName, wDat, wC, wFrz, wZ, wTup, wLst, wCons, wNil, wAndT, wOrT, wNotT, wAndV, wOrV, wNotV, wSet, wSetZ, wDrop, wCall, wRaise, wIsi, dats, startG, Ga.at, Ga.set, isiD, Rz.rv, Rz.sl, sInt, sNeg, sInt1, sIsN, sNotN, isN, eqv_int, eqOk, sEq, sNe, wXf, e] using h' e
theorem isCnt_int {n : Int} (h : 0 ≤ n) : isCnt (.int n) = true := decide_eq_true h
structure N36 (n : Int) : Prop where
  lo : 3 ≤ n
  hi : n ≤ 6
theorem N36.cases {n : Int} (h : N36 n) : n = 3 ∨ n = 4 ∨ n = 5 ∨ n = 6 := by
  obtain ⟨h1, h2⟩ := h
  omega
theorem facts {n : Int} (h : N36 n) : factsB n = true := by
  rcases h.cases with rfl | rfl | rfl | rfl
  · exact f3
  · exact f4
  · exact f5
  · exact f6
theorem most_bar_ok {n : Int} {c : Nat} {P : Rv → Nat → Prop} {R : Exc → Nat → Prop} (s : N36 n) (h : ∀ x y, P (.dat (.tuple [x, y, .int (mnum n)])) c) : W_most_bar_in [.dat (.int n)] c P R := by
  refine ⟨rfl, ?_⟩
  have k := h (.int ((n - 1).fdiv 2)) (.int ((n * (n - 1).fdiv 2).fdiv 3))
  rcases s.cases with rfl | rfl | rfl | rfl
  all_goals simp [wDef, wSeq, wNext, wIfS, wRet, wIf, wBool, w2, w1, wN, wNameB, wName, wDat, wC, wFrz, wZ, wTup, wLst, wCons, wNil, wAndT, wOrT, wNotT, wAndV, wOrV, wNotV, wSet, wSetZ, wDrop, wCall, wRaise, wIsi, dats, startG, Ga.at, Ga.set, isiD, Rz.rv, Rz.sl, sInt, sNeg, sInt1, sIsN, sNotN, isN, eqv_int, eqOk, sEq, sNe, wXf, sMul, CMul, CDivN, mnum] at k ⊢
  all_goals exact k
theorem most_number_ok {n : Int} {c : Nat} {P : Rv → Nat → Prop} {R : Exc → Nat → Prop} (s : N36 n) (h : P (.dat (.int (mnum n))) c) : W_most_number [.dat (.int n)] c P R := by
  refine ⟨rfl, ?_⟩
  simp [wDef, wSeq, wNext, wIfS, wRet, wIf, wBool, w2, w1, wN, wNameB, wName, wDat, wC, wFrz, wZ, wTup, wLst, wCons, wNil, wAndT, wOrT, wNotT, wAndV, wOrV, wNotV, wSet, wSetZ, wDrop, wCall, wRaise, wIsi, dats, startG, Ga.at, Ga.set, isiD, Rz.rv, Rz.sl, sInt, sNeg, sInt1, sIsN, sNotN, isN, eqv_int, eqOk, sEq, sNe, wXf, sIx]
  refine need_count_ok trivial (fun _ => most_bar_ok s fun x y => ?_) fun e => ?_
  · exact ⟨_, rfl, h⟩
  · rw [isCnt_int (by have := s.lo; omega)] at e; cases e
theorem fewest_bar_ok {n : Int} {c : Nat} {P : Rv → Nat → Prop} {R : Exc → Nat → Prop} (s : N36 n) (h : ∀ x, P (.dat (.tuple [x, .int (fnum n)])) c) : W_fewest_bar_in [.dat (.int n)] c P R := by
  refine ⟨rfl, ?_⟩
  have k := h (.int (n.fdiv 2))
  rcases s.cases with rfl | rfl | rfl | rfl
  all_goals simp [wDef, wSeq, wNext, wIfS, wRet, wIf, wBool, w2, w1, wN, wNameB, wName, wDat, wC, wFrz, wZ, wTup, wLst, wCons, wNil, wAndT, wOrT, wNotT, wAndV, wOrV, wNotV, wSet, wSetZ, wDrop, wCall, wRaise, wIsi, dats, startG, Ga.at, Ga.set, isiD, Rz.rv, Rz.sl, sInt, sNeg, sInt1, sIsN, sNotN, isN, eqv_int, eqOk, sEq, sNe, wXf, sMul, sAdd, CMul, CDivN, fnum] at k ⊢
  all_goals exact k
theorem need_full_ok {n : Int} {c : Nat} {P : Rv → Nat → Prop} {R : Exc → Nat → Prop} (s : N36 n) (h : P (.dat .none) c) : W_need_full [.dat (.int n)] c P R := by
  refine ⟨rfl, ?_⟩
  have n2 : n ≠ 2 := by have := s.lo; omega
  simp [wDef, wSeq, wNext, wIfS, wRet, wIf, wBool, w2, w1, wN, wNameB, wName, wDat, wC, wFrz, wZ, wTup, wLst, wCons, wNil, wAndT, wOrT, wNotT, wAndV, wOrV, wNotV, wSet, wSetZ, wDrop, wCall, wRaise, wIsi, dats, startG, Ga.at, Ga.set, isiD, Rz.rv, Rz.sl, sInt, sNeg, sInt1, sIsN, sNotN, isN, eqv_int, eqOk, sEq, sNe, wXf]
  refine need_count_ok trivial (fun _ => ?_) fun e => ?_
  · simp [n2]; exact h
  · rw [isCnt_int (by have := s.lo; omega)] at e; cases e
theorem fewest_number_ok {n : Int} {c : Nat} {P : Rv → Nat → Prop} {R : Exc → Nat → Prop} (s : N36 n) (h : P (.dat (.int (fnum n))) c) : W_fewest_number [.dat (.int n)] c P R := by
  refine ⟨rfl, ?_⟩
  simp [wDef, wSeq, wNext, wIfS, wRet, wIf, wBool, w2, w1, wN, wNameB, wName, wDat, wC, wFrz, wZ, wTup, wLst, wCons, wNil, wAndT, wOrT, wNotT, wAndV, wOrV, wNotV, wSet, wSetZ, wDrop, wCall, wRaise, wIsi, dats, startG, Ga.at, Ga.set, isiD, Rz.rv, Rz.sl, sInt, sNeg, sInt1, sIsN, sNotN, isN, eqv_int, eqOk, sEq, sNe, wXf, sIx]
  refine need_full_ok s (fewest_bar_ok s fun x => ?_)
  exact ⟨_, rfl, h⟩
theorem mnum_sm {n : Int} (s : N36 n) : (mnum n).natAbs < 18446744073709551616 := by
  rcases s.cases with rfl | rfl | rfl | rfl <;> decide
theorem repr_int {i : Int} (h : i.natAbs < 18446744073709551616) {P : Rz → Prop} (p : P (.v (.dat (.str (PyData.shown (.int i)))))) : sRepr [.int i] P :=
  sRepr_ok (by simp only [rOk]; exact decide_eq_true h) (by show 0 ≤ 64; decide) (by show 70 ≤ 16777216; decide) p
theorem law_plain : wTrue W_law 6 := by
  unfold wTrue W_law
  rw [show lawG 6 = ⟨[.no, .rv .pen, .no, .no, .no, .no], 0⟩ from rfl]
  simp only [wSeq, wSet, wFrz, w2, wDat, wC, wCall, wCons, wName, wNil, Ga.at, List.getD_cons_succ, List.getD_cons_zero]
  refine ⟨4, rfl, by decide, by decide, by decide, fun r r0 r1 => ?_⟩
  simp only [sAdd, Rz.rv, Ga.set, List.set, Ga.at, List.getD_cons_succ, List.getD_cons_zero]
  have s : N36 (3 + r) := ⟨by omega, by omega⟩
  generalize (3 + r : Int) = n at s
  have F := facts s
  unfold factsB at F
  simp only [Bool.and_eq_true, decide_eq_true_eq, List.all_eq_true] at F
  obtain ⟨⟨⟨⟨⟨F1, F2⟩, F3⟩, F4, F5⟩, F6⟩, F7⟩ := F
  have n0 : 0 ≤ n := by have := s.lo; omega
  refine all_threes_ok n0 s.hi ?_
  simp only [wIfS, wBool, w2, wDat, wFrz, wN, wCons, wCall, wName, wLst, wNil, dats, Rz.rv, Ga.set, Ga.at, List.set, List.getD_cons_succ, List.getD_cons_zero]
  refine most_ok 8 _ _ _ (mnum n) _ _ (fun d hd => isTr_of (F4 d hd)) (fun d hd => by cases hd) F6 (by decide) F1 ?_
  try dsimp only
  refine repr_int (mnum_sm s) ?_
  try dsimp only
  refine most_number_ok s ?_
  try dsimp only
  refine repr_int (mnum_sm s) ?_
  try dsimp only
  refine sNe_str rfl ?_
  try dsimp only
  simp only [Bool.false_eq_true, if_false, wNext, wSeq, wPar, wZ, wCall, wCons, wName, wNil, Ga.set, Ga.at, List.set, List.getD_cons_succ, List.getD_cons_zero]
  refine fewest_number_ok s ?_
  try dsimp only
  refine pairs_ok n0 s.hi ?_
  try dsimp only
  simp only [wRet, wAndV, wNotV, wCall, wCons, wName, wNil, wFrz, w2, wNameB, wDat, wC, Rz.sl, Rz.rv, Ga.set, Ga.at, List.set, List.getD_cons_succ, List.getD_cons_zero, sInt]
  refine can_ok n n0 s.hi 8 _ _ _ true _ _ (fun d hd => isPr_of (F5 d hd)) F7 F2 ?_
  try dsimp only
  simp only [if_true]
  refine ⟨trivial, ?_⟩
  refine can_ok n n0 s.hi 8 _ _ _ false _ _ (fun d hd => isPr_of (F5 d hd)) F7 F3 ?_
  try dsimp only
  rfl
end Lk25


namespace Lk25
open PySem PySem.Spec PyProof.Rows L2 VL
theorem all_of {P : Program} {w : World} {K : Fg} {h : Heap} {mg : Str → Option Value} {fa : Addr} {f__law_pen : Addr} {oc__law_pen kV__law_pen doc__law_pen pm__law_pen cdv__law_pen ct__law_pen : Value} {od__law_pen an__law_pen : Option Addr} {osl__law_pen : Array (Option Value)} {f__law_draw : Addr} {oc__law_draw kV__law_draw doc__law_draw pm__law_draw cdv__law_draw ct__law_draw : Value} {od__law_draw an__law_draw : Option Addr} {osl__law_draw : Array (Option Value)} {f__law_all_threes : Addr} {oc__law_all_threes kV__law_all_threes doc__law_all_threes pm__law_all_threes cdv__law_all_threes ct__law_all_threes : Value} {od__law_all_threes an__law_all_threes : Option Addr} {osl__law_all_threes : Array (Option Value)} {f__law_pairs_of : Addr} {oc__law_pairs_of kV__law_pairs_of doc__law_pairs_of pm__law_pairs_of cdv__law_pairs_of ct__law_pairs_of : Value} {od__law_pairs_of an__law_pairs_of : Option Addr} {osl__law_pairs_of : Array (Option Value)} {f__law_most : Addr} {oc__law_most kV__law_most doc__law_most pm__law_most cdv__law_most ct__law_most : Value} {od__law_most an__law_most : Option Addr} {osl__law_most : Array (Option Value)} {f_is_whole : Addr} {oc_is_whole kV_is_whole doc_is_whole pm_is_whole cdv_is_whole ct_is_whole : Value} {od_is_whole an_is_whole : Option Addr} {osl_is_whole : Array (Option Value)} {f_is_count : Addr} {oc_is_count kV_is_count doc_is_count pm_is_count cdv_is_count ct_is_count : Value} {od_is_count an_is_count : Option Addr} {osl_is_count : Array (Option Value)} {f_need_count : Addr} {oc_need_count kV_need_count doc_need_count pm_need_count cdv_need_count ct_need_count : Value} {od_need_count an_need_count : Option Addr} {osl_need_count : Array (Option Value)} {f_most_bar_in : Addr} {oc_most_bar_in kV_most_bar_in doc_most_bar_in pm_most_bar_in cdv_most_bar_in ct_most_bar_in : Value} {od_most_bar_in an_most_bar_in : Option Addr} {osl_most_bar_in : Array (Option Value)} {f_most_number : Addr} {oc_most_number kV_most_number doc_most_number pm_most_number cdv_most_number ct_most_number : Value} {od_most_number an_most_number : Option Addr} {osl_most_number : Array (Option Value)} {f_need_full : Addr} {oc_need_full kV_need_full doc_need_full pm_need_full cdv_need_full ct_need_full : Value} {od_need_full an_need_full : Option Addr} {osl_need_full : Array (Option Value)} {f_fewest_bar_in : Addr} {oc_fewest_bar_in kV_fewest_bar_in doc_fewest_bar_in pm_fewest_bar_in cdv_fewest_bar_in ct_fewest_bar_in : Value} {od_fewest_bar_in an_fewest_bar_in : Option Addr} {osl_fewest_bar_in : Array (Option Value)} {f_fewest_number : Addr} {oc_fewest_number kV_fewest_number doc_fewest_number pm_fewest_number cdv_fewest_number ct_fewest_number : Value} {od_fewest_number an_fewest_number : Option Addr} {osl_fewest_number : Array (Option Value)} {f__law_pairs : Addr} {oc__law_pairs kV__law_pairs doc__law_pairs pm__law_pairs cdv__law_pairs ct__law_pairs : Value} {od__law_pairs an__law_pairs : Option Addr} {osl__law_pairs : Array (Option Value)} {f__law_can_hold : Addr} {oc__law_can_hold kV__law_can_hold doc__law_can_hold pm__law_can_hold cdv__law_can_hold ct__law_can_hold : Value} {od__law_can_hold an__law_can_hold : Option Addr} {osl__law_can_hold : Array (Option Value)} {f_law : Addr} {oc_law kV_law doc_law pm_law cdv_law ct_law : Value} {od_law an_law : Option Addr} {osl_law : Array (Option Value)} {C_BadNumber : Addr} {C_NotKept : Addr} {fI_BadNumber : Addr} {nm_BadNumber qn_BadNumber : Str} {N_BadNumber : Addr} {bs_BadNumber bm_BadNumber sub_BadNumber : List Value} {sn_BadNumber : List Str} {ab_BadNumber : Bool} {col_BadNumber : Option Bool} {dd_BadNumber : Option Addr} {m0_BadNumber m1_BadNumber m2_BadNumber m3_BadNumber m5_BadNumber : Option Value} {oc_BadNumber kV_BadNumber doc_BadNumber pm_BadNumber cdv_BadNumber ct_BadNumber : Value} {od_BadNumber an_BadNumber : Option Addr} {osl_BadNumber : Array (Option Value)} {fI_NotKept : Addr} {nm_NotKept qn_NotKept : Str} {N_NotKept : Addr} {bs_NotKept bm_NotKept sub_NotKept : List Value} {sn_NotKept : List Str} {ab_NotKept : Bool} {col_NotKept : Option Bool} {dd_NotKept : Option Addr} {m0_NotKept m1_NotKept m2_NotKept m3_NotKept m5_NotKept : Option Value} {oc_NotKept kV_NotKept doc_NotKept pm_NotKept cdv_NotKept ct_NotKept : Value} {od_NotKept an_NotKept : Option Addr} {osl_NotKept : Array (Option Value)} (X : K.In h) (G : h.Ns mainGlobals mg) (hfa : mg "law" = some (.ref fa))
    (a__law_pen : PySem.W.nsIn K mainGlobals "_law_pen" = some (some (.ref f__law_pen)))
    (l__law_pen : K.lookup f__law_pen = some ⟨oc__law_pen, od__law_pen, .func (PySem.W.fnOf "_law_pen" "_law_pen" (defArgs s__law_pen) (defBody s__law_pen) (defScope s__law_pen) .none kV__law_pen doc__law_pen pm__law_pen an__law_pen cdv__law_pen ct__law_pen), osl__law_pen⟩)
    (qc__law_pen : PySem.W.codeIn K cdv__law_pen "_law_pen" = true)
    (k__law_pen : PySem.W.keepIn K (.ref f__law_pen) = true)
    (a__law_draw : PySem.W.nsIn K mainGlobals "_law_draw" = some (some (.ref f__law_draw)))
    (l__law_draw : K.lookup f__law_draw = some ⟨oc__law_draw, od__law_draw, .func (PySem.W.fnOf "_law_draw" "_law_draw" (defArgs s__law_draw) (defBody s__law_draw) (defScope s__law_draw) .none kV__law_draw doc__law_draw pm__law_draw an__law_draw cdv__law_draw ct__law_draw), osl__law_draw⟩)
    (qc__law_draw : PySem.W.codeIn K cdv__law_draw "_law_draw" = true)
    (k__law_draw : PySem.W.keepIn K (.ref f__law_draw) = true)
    (a__law_all_threes : PySem.W.nsIn K mainGlobals "_law_all_threes" = some (some (.ref f__law_all_threes)))
    (l__law_all_threes : K.lookup f__law_all_threes = some ⟨oc__law_all_threes, od__law_all_threes, .func (PySem.W.fnOf "_law_all_threes" "_law_all_threes" (defArgs s__law_all_threes) (defBody s__law_all_threes) (defScope s__law_all_threes) .none kV__law_all_threes doc__law_all_threes pm__law_all_threes an__law_all_threes cdv__law_all_threes ct__law_all_threes), osl__law_all_threes⟩)
    (qc__law_all_threes : PySem.W.codeIn K cdv__law_all_threes "_law_all_threes" = true)
    (k__law_all_threes : PySem.W.keepIn K (.ref f__law_all_threes) = true)
    (a__law_pairs_of : PySem.W.nsIn K mainGlobals "_law_pairs_of" = some (some (.ref f__law_pairs_of)))
    (l__law_pairs_of : K.lookup f__law_pairs_of = some ⟨oc__law_pairs_of, od__law_pairs_of, .func (PySem.W.fnOf "_law_pairs_of" "_law_pairs_of" (defArgs s__law_pairs_of) (defBody s__law_pairs_of) (defScope s__law_pairs_of) .none kV__law_pairs_of doc__law_pairs_of pm__law_pairs_of an__law_pairs_of cdv__law_pairs_of ct__law_pairs_of), osl__law_pairs_of⟩)
    (qc__law_pairs_of : PySem.W.codeIn K cdv__law_pairs_of "_law_pairs_of" = true)
    (k__law_pairs_of : PySem.W.keepIn K (.ref f__law_pairs_of) = true)
    (a__law_most : PySem.W.nsIn K mainGlobals "_law_most" = some (some (.ref f__law_most)))
    (l__law_most : K.lookup f__law_most = some ⟨oc__law_most, od__law_most, .func (PySem.W.fnOf "_law_most" "_law_most" (defArgs s__law_most) (defBody s__law_most) (defScope s__law_most) .none kV__law_most doc__law_most pm__law_most an__law_most cdv__law_most ct__law_most), osl__law_most⟩)
    (qc__law_most : PySem.W.codeIn K cdv__law_most "_law_most" = true)
    (k__law_most : PySem.W.keepIn K (.ref f__law_most) = true)
    (a_is_whole : PySem.W.nsIn K mainGlobals "is_whole" = some (some (.ref f_is_whole)))
    (l_is_whole : K.lookup f_is_whole = some ⟨oc_is_whole, od_is_whole, .func (PySem.W.fnOf "is_whole" "is_whole" (defArgs s_is_whole) (defBody s_is_whole) (defScope s_is_whole) .none kV_is_whole doc_is_whole pm_is_whole an_is_whole cdv_is_whole ct_is_whole), osl_is_whole⟩)
    (qc_is_whole : PySem.W.codeIn K cdv_is_whole "is_whole" = true)
    (k_is_whole : PySem.W.keepIn K (.ref f_is_whole) = true)
    (a_is_count : PySem.W.nsIn K mainGlobals "is_count" = some (some (.ref f_is_count)))
    (l_is_count : K.lookup f_is_count = some ⟨oc_is_count, od_is_count, .func (PySem.W.fnOf "is_count" "is_count" (defArgs s_is_count) (defBody s_is_count) (defScope s_is_count) .none kV_is_count doc_is_count pm_is_count an_is_count cdv_is_count ct_is_count), osl_is_count⟩)
    (qc_is_count : PySem.W.codeIn K cdv_is_count "is_count" = true)
    (k_is_count : PySem.W.keepIn K (.ref f_is_count) = true)
    (a_need_count : PySem.W.nsIn K mainGlobals "need_count" = some (some (.ref f_need_count)))
    (l_need_count : K.lookup f_need_count = some ⟨oc_need_count, od_need_count, .func (PySem.W.fnOf "need_count" "need_count" (defArgs s_need_count) (defBody s_need_count) (defScope s_need_count) .none kV_need_count doc_need_count pm_need_count an_need_count cdv_need_count ct_need_count), osl_need_count⟩)
    (qc_need_count : PySem.W.codeIn K cdv_need_count "need_count" = true)
    (k_need_count : PySem.W.keepIn K (.ref f_need_count) = true)
    (a_most_bar_in : PySem.W.nsIn K mainGlobals "most_bar_in" = some (some (.ref f_most_bar_in)))
    (l_most_bar_in : K.lookup f_most_bar_in = some ⟨oc_most_bar_in, od_most_bar_in, .func (PySem.W.fnOf "most_bar_in" "most_bar_in" (defArgs s_most_bar_in) (defBody s_most_bar_in) (defScope s_most_bar_in) .none kV_most_bar_in doc_most_bar_in pm_most_bar_in an_most_bar_in cdv_most_bar_in ct_most_bar_in), osl_most_bar_in⟩)
    (qc_most_bar_in : PySem.W.codeIn K cdv_most_bar_in "most_bar_in" = true)
    (k_most_bar_in : PySem.W.keepIn K (.ref f_most_bar_in) = true)
    (a_most_number : PySem.W.nsIn K mainGlobals "most_number" = some (some (.ref f_most_number)))
    (l_most_number : K.lookup f_most_number = some ⟨oc_most_number, od_most_number, .func (PySem.W.fnOf "most_number" "most_number" (defArgs s_most_number) (defBody s_most_number) (defScope s_most_number) .none kV_most_number doc_most_number pm_most_number an_most_number cdv_most_number ct_most_number), osl_most_number⟩)
    (qc_most_number : PySem.W.codeIn K cdv_most_number "most_number" = true)
    (k_most_number : PySem.W.keepIn K (.ref f_most_number) = true)
    (a_need_full : PySem.W.nsIn K mainGlobals "need_full" = some (some (.ref f_need_full)))
    (l_need_full : K.lookup f_need_full = some ⟨oc_need_full, od_need_full, .func (PySem.W.fnOf "need_full" "need_full" (defArgs s_need_full) (defBody s_need_full) (defScope s_need_full) .none kV_need_full doc_need_full pm_need_full an_need_full cdv_need_full ct_need_full), osl_need_full⟩)
    (qc_need_full : PySem.W.codeIn K cdv_need_full "need_full" = true)
    (k_need_full : PySem.W.keepIn K (.ref f_need_full) = true)
    (a_fewest_bar_in : PySem.W.nsIn K mainGlobals "fewest_bar_in" = some (some (.ref f_fewest_bar_in)))
    (l_fewest_bar_in : K.lookup f_fewest_bar_in = some ⟨oc_fewest_bar_in, od_fewest_bar_in, .func (PySem.W.fnOf "fewest_bar_in" "fewest_bar_in" (defArgs s_fewest_bar_in) (defBody s_fewest_bar_in) (defScope s_fewest_bar_in) .none kV_fewest_bar_in doc_fewest_bar_in pm_fewest_bar_in an_fewest_bar_in cdv_fewest_bar_in ct_fewest_bar_in), osl_fewest_bar_in⟩)
    (qc_fewest_bar_in : PySem.W.codeIn K cdv_fewest_bar_in "fewest_bar_in" = true)
    (k_fewest_bar_in : PySem.W.keepIn K (.ref f_fewest_bar_in) = true)
    (a_fewest_number : PySem.W.nsIn K mainGlobals "fewest_number" = some (some (.ref f_fewest_number)))
    (l_fewest_number : K.lookup f_fewest_number = some ⟨oc_fewest_number, od_fewest_number, .func (PySem.W.fnOf "fewest_number" "fewest_number" (defArgs s_fewest_number) (defBody s_fewest_number) (defScope s_fewest_number) .none kV_fewest_number doc_fewest_number pm_fewest_number an_fewest_number cdv_fewest_number ct_fewest_number), osl_fewest_number⟩)
    (qc_fewest_number : PySem.W.codeIn K cdv_fewest_number "fewest_number" = true)
    (k_fewest_number : PySem.W.keepIn K (.ref f_fewest_number) = true)
    (a__law_pairs : PySem.W.nsIn K mainGlobals "_law_pairs" = some (some (.ref f__law_pairs)))
    (l__law_pairs : K.lookup f__law_pairs = some ⟨oc__law_pairs, od__law_pairs, .func (PySem.W.fnOf "_law_pairs" "_law_pairs" (defArgs s__law_pairs) (defBody s__law_pairs) (defScope s__law_pairs) .none kV__law_pairs doc__law_pairs pm__law_pairs an__law_pairs cdv__law_pairs ct__law_pairs), osl__law_pairs⟩)
    (qc__law_pairs : PySem.W.codeIn K cdv__law_pairs "_law_pairs" = true)
    (k__law_pairs : PySem.W.keepIn K (.ref f__law_pairs) = true)
    (a__law_can_hold : PySem.W.nsIn K mainGlobals "_law_can_hold" = some (some (.ref f__law_can_hold)))
    (l__law_can_hold : K.lookup f__law_can_hold = some ⟨oc__law_can_hold, od__law_can_hold, .func (PySem.W.fnOf "_law_can_hold" "_law_can_hold" (defArgs s__law_can_hold) (defBody s__law_can_hold) (defScope s__law_can_hold) .none kV__law_can_hold doc__law_can_hold pm__law_can_hold an__law_can_hold cdv__law_can_hold ct__law_can_hold), osl__law_can_hold⟩)
    (qc__law_can_hold : PySem.W.codeIn K cdv__law_can_hold "_law_can_hold" = true)
    (k__law_can_hold : PySem.W.keepIn K (.ref f__law_can_hold) = true)
    (a_law : PySem.W.nsIn K mainGlobals "law" = some (some (.ref f_law)))
    (l_law : K.lookup f_law = some ⟨oc_law, od_law, .func (PySem.W.fnOf "law" "law" (defArgs s_law) (defBody s_law) (defScope s_law) .none kV_law doc_law pm_law an_law cdv_law ct_law), osl_law⟩)
    (qc_law : PySem.W.codeIn K cdv_law "law" = true)
    (k_law : PySem.W.keepIn K (.ref f_law) = true)
    (aC_BadNumber : PySem.W.nsIn K mainGlobals "BadNumber" = some (some (.ref C_BadNumber)))
    (ga_BadNumber : PySem.W.findIn K (.ref C_BadNumber) "__getattribute__" = some (some (.builtin "BaseException.__getattribute__")))
    (gg_BadNumber : PySem.W.findIn K (.ref C_BadNumber) "__getattr__" = some none)
    (eC_BadNumber : PySem.W.subIn K (.ref C_BadNumber) (.type "BaseException") = some true)
    (hd_BadNumber : PySem.W.hasDictIn K C_BadNumber = true)
    (tC_BadNumber : PySem.W.typeIn K (.ref C_BadNumber) = some (.type "type"))
    (ic_BadNumber : PySem.W.isClsIn K C_BadNumber = true)
    (aC_NotKept : PySem.W.nsIn K mainGlobals "NotKept" = some (some (.ref C_NotKept)))
    (ga_NotKept : PySem.W.findIn K (.ref C_NotKept) "__getattribute__" = some (some (.builtin "BaseException.__getattribute__")))
    (gg_NotKept : PySem.W.findIn K (.ref C_NotKept) "__getattr__" = some none)
    (eC_NotKept : PySem.W.subIn K (.ref C_NotKept) (.type "BaseException") = some true)
    (hd_NotKept : PySem.W.hasDictIn K C_NotKept = true)
    (tC_NotKept : PySem.W.typeIn K (.ref C_NotKept) = some (.type "type"))
    (ic_NotKept : PySem.W.isClsIn K C_NotKept = true)
    (xL_BadNumber : K.lookup C_BadNumber = some (excClassObj nm_BadNumber qn_BadNumber C_BadNumber N_BadNumber bs_BadNumber bm_BadNumber true sn_BadNumber sub_BadNumber ab_BadNumber col_BadNumber dd_BadNumber m0_BadNumber m1_BadNumber m2_BadNumber m3_BadNumber m5_BadNumber "ValueError.__new__"))
    (xr_BadNumber : PySem.HandSPX.refsVE bm_BadNumber = true)
    (sa_BadNumber : PySem.W.findIn K (.ref C_BadNumber) "__setattr__" = some (some (.builtin "object.__setattr__")))
    (kC_BadNumber : PySem.W.keepIn K (.ref C_BadNumber) = true)
    (iC_BadNumber : PySem.W.findIn K (.ref C_BadNumber) "__init__" = some (some (.ref fI_BadNumber)))
    (tI_BadNumber : PySem.W.typeIn K (.ref fI_BadNumber) = some (.type "function"))
    (n0_BadNumber : PySem.W.findIn K (.ref C_BadNumber) "what" = some none)
    (n1_BadNumber : PySem.W.findIn K (.ref C_BadNumber) "number" = some none)
    (lI_BadNumber : K.lookup fI_BadNumber = some ⟨oc_BadNumber, od_BadNumber, .func (PySem.W.fnOf "__init__" "BadNumber.__init__" (defArgs si_BadNumber) (defBody si_BadNumber) (defScope si_BadNumber) .none kV_BadNumber doc_BadNumber pm_BadNumber an_BadNumber cdv_BadNumber ct_BadNumber), osl_BadNumber⟩)
    (cI_BadNumber : PySem.W.codeIn K cdv_BadNumber "BadNumber.__init__" = true)
    (kI_BadNumber : PySem.W.keepIn K (.ref fI_BadNumber) = true)
    (xL_NotKept : K.lookup C_NotKept = some (excClassObj nm_NotKept qn_NotKept C_NotKept N_NotKept bs_NotKept bm_NotKept true sn_NotKept sub_NotKept ab_NotKept col_NotKept dd_NotKept m0_NotKept m1_NotKept m2_NotKept m3_NotKept m5_NotKept "ValueError.__new__"))
    (xr_NotKept : PySem.HandSPX.refsVE bm_NotKept = true)
    (sa_NotKept : PySem.W.findIn K (.ref C_NotKept) "__setattr__" = some (some (.builtin "object.__setattr__")))
    (kC_NotKept : PySem.W.keepIn K (.ref C_NotKept) = true)
    (iC_NotKept : PySem.W.findIn K (.ref C_NotKept) "__init__" = some (some (.ref fI_NotKept)))
    (tI_NotKept : PySem.W.typeIn K (.ref fI_NotKept) = some (.type "function"))
    (n0_NotKept : PySem.W.findIn K (.ref C_NotKept) "promise" = some none)
    (n1_NotKept : PySem.W.findIn K (.ref C_NotKept) "witness" = some none)
    (lI_NotKept : K.lookup fI_NotKept = some ⟨oc_NotKept, od_NotKept, .func (PySem.W.fnOf "__init__" "NotKept.__init__" (defArgs si_NotKept) (defBody si_NotKept) (defScope si_NotKept) .none kV_NotKept doc_NotKept pm_NotKept an_NotKept cdv_NotKept ct_NotKept), osl_NotKept⟩)
    (cI_NotKept : PySem.W.codeIn K cdv_NotKept "NotKept.__init__" = true)
    (kI_NotKept : PySem.W.keepIn K (.ref fI_NotKept) = true)
    (z_bool : PySem.W.nsIn K mainGlobals "bool" = some none)
    (z_int : PySem.W.nsIn K mainGlobals "int" = some none)
    (z_isinstance : PySem.W.nsIn K mainGlobals "isinstance" = some none)
    (z_len : PySem.W.nsIn K mainGlobals "len" = some none)
    (z_list : PySem.W.nsIn K mainGlobals "list" = some none)
    (z_max : PySem.W.nsIn K mainGlobals "max" = some none)
    (z_range : PySem.W.nsIn K mainGlobals "range" = some none)
    (z_repr : PySem.W.nsIn K mainGlobals "repr" = some none)
    (z_sorted : PySem.W.nsIn K mainGlobals "sorted" = some none)
    (z_tuple : PySem.W.nsIn K mainGlobals "tuple" = some none)
    : ∀ (base : Heap) (H : Hp) (a : Addr) (ns : List Int) (s : Shared), ns.length ≤ 63 → K.In base → SqL K H a (ns.map V.int) → Env0 P w K mg base callerA [] s H → codeAny (model P w) callerA (.call (.ref fa) ⟨[.ref a], []⟩) (LawDone P w H s) s := by
  intro base H a ns s hn _ hS e0
  have e := hfa.symm.trans (PySem.W.mg_of X G a_law)
  cases e
  have T : Top K mg := {
    n_bool := PySem.W.mg_none_of X G z_bool,
    n_int := PySem.W.mg_none_of X G z_int,
    n_isinstance := PySem.W.mg_none_of X G z_isinstance,
    n_len := PySem.W.mg_none_of X G z_len,
    n_list := PySem.W.mg_none_of X G z_list,
    n_max := PySem.W.mg_none_of X G z_max,
    n_range := PySem.W.mg_none_of X G z_range,
    n_repr := PySem.W.mg_none_of X G z_repr,
    n_sorted := PySem.W.mg_none_of X G z_sorted,
    n_tuple := PySem.W.mg_none_of X G z_tuple,
    e_BadNumber := e_BadNumber (errAt_of X G aC_BadNumber xL_BadNumber xr_BadNumber sa_BadNumber eC_BadNumber tC_BadNumber kC_BadNumber ⟨ga_BadNumber, gg_BadNumber, eC_BadNumber, hd_BadNumber⟩ iC_BadNumber tI_BadNumber n0_BadNumber (fun y z => by cases z; exact n1_BadNumber) lI_BadNumber cI_BadNumber kI_BadNumber),
    e_NotKept := e_NotKept (errAt_of X G aC_NotKept xL_NotKept xr_NotKept sa_NotKept eC_NotKept tC_NotKept kC_NotKept ⟨ga_NotKept, gg_NotKept, eC_NotKept, hd_NotKept⟩ iC_NotKept tI_NotKept n0_NotKept (fun y z => by cases z; exact n1_NotKept) lI_NotKept cI_NotKept kI_NotKept),
    cm := cm_nil }
  have g__law_draw := c__law_draw (P := P) (w := w) (base := base) (defAt_of (st := s__law_draw) X G a__law_draw l__law_draw qc__law_draw k__law_draw) T
  have g__law_all_threes := c__law_all_threes (P := P) (w := w) (base := base) (defAt_of (st := s__law_all_threes) X G a__law_all_threes l__law_all_threes qc__law_all_threes k__law_all_threes) T 
  have g__law_pairs_of := c__law_pairs_of (P := P) (w := w) (base := base) (defAt_of (st := s__law_pairs_of) X G a__law_pairs_of l__law_pairs_of qc__law_pairs_of k__law_pairs_of) T 
  have g__law_most := c__law_most (P := P) (w := w) (base := base) (defAt_of (st := s__law_most) X G a__law_most l__law_most qc__law_most k__law_most) T g__law_pairs_of 8
  have g_is_whole := c_is_whole (P := P) (w := w) (base := base) (defAt_of (st := s_is_whole) X G a_is_whole l_is_whole qc_is_whole k_is_whole) T 
  have g_is_count := c_is_count (P := P) (w := w) (base := base) (defAt_of (st := s_is_count) X G a_is_count l_is_count qc_is_count k_is_count) T g_is_whole
  have g_need_count := c_need_count (P := P) (w := w) (base := base) (defAt_of (st := s_need_count) X G a_need_count l_need_count qc_need_count k_need_count) T g_is_count
  have g_most_bar_in := c_most_bar_in (P := P) (w := w) (base := base) (defAt_of (st := s_most_bar_in) X G a_most_bar_in l_most_bar_in qc_most_bar_in k_most_bar_in) T 
  have g_most_number := c_most_number (P := P) (w := w) (base := base) (defAt_of (st := s_most_number) X G a_most_number l_most_number qc_most_number k_most_number) T g_most_bar_in g_need_count
  have g_need_full := c_need_full (P := P) (w := w) (base := base) (defAt_of (st := s_need_full) X G a_need_full l_need_full qc_need_full k_need_full) T g_need_count
  have g_fewest_bar_in := c_fewest_bar_in (P := P) (w := w) (base := base) (defAt_of (st := s_fewest_bar_in) X G a_fewest_bar_in l_fewest_bar_in qc_fewest_bar_in k_fewest_bar_in) T 
  have g_fewest_number := c_fewest_number (P := P) (w := w) (base := base) (defAt_of (st := s_fewest_number) X G a_fewest_number l_fewest_number qc_fewest_number k_fewest_number) T g_fewest_bar_in g_need_full
  have g__law_pairs := c__law_pairs (P := P) (w := w) (base := base) (defAt_of (st := s__law_pairs) X G a__law_pairs l__law_pairs qc__law_pairs k__law_pairs) T 
  have g__law_can_hold := c__law_can_hold (P := P) (w := w) (base := base) (defAt_of (st := s__law_can_hold) X G a__law_can_hold l__law_can_hold qc__law_can_hold k__law_can_hold) T g__law_pairs_of 8
  exact law_ok (fun_mk (st := s_law) l_law qc_law k_law) T (defAt_of (st := s__law_pen) X G a__law_pen l__law_pen qc__law_pen k__law_pen) g__law_all_threes g__law_can_hold g__law_draw g__law_most g__law_pairs g_fewest_number g_most_number law_plain e0 hS hn
end Lk25
open PySem PySem.W PyProof.Rows
set_option maxRecDepth 100000 in
set_option maxHeartbeats 0 in
theorem PySem.Challenge.cw_pairsinthrees_k25_whole_small_numbers_se_holds : PySem.Challenge.rw_pairsinthrees_k25_whole_small_numbers_se.Holds := by
  w_on; o_law; k_head; (case hw => w_witness2)
  k_fill
  refine VL.vl_walkK (l := PySem.Challenge.rw_pairsinthrees_k25_whole_small_numbers_se) rfl rfl (fun w h Y => PySem.W.kIn_of Y) ?F
  case F =>
    intro w mg fa h KX G hmg
    refine' Lk25.all_of (P := (PySem.Challenge.rw_pairsinthrees_k25_whole_small_numbers_se).prog) (w := w) KX G hmg ?a__law_pen ?l__law_pen ?qc__law_pen ?k__law_pen ?a__law_draw ?l__law_draw ?qc__law_draw ?k__law_draw ?a__law_all_threes ?l__law_all_threes ?qc__law_all_threes ?k__law_all_threes ?a__law_pairs_of ?l__law_pairs_of ?qc__law_pairs_of ?k__law_pairs_of ?a__law_most ?l__law_most ?qc__law_most ?k__law_most ?a_is_whole ?l_is_whole ?qc_is_whole ?k_is_whole ?a_is_count ?l_is_count ?qc_is_count ?k_is_count ?a_need_count ?l_need_count ?qc_need_count ?k_need_count ?a_most_bar_in ?l_most_bar_in ?qc_most_bar_in ?k_most_bar_in ?a_most_number ?l_most_number ?qc_most_number ?k_most_number ?a_need_full ?l_need_full ?qc_need_full ?k_need_full ?a_fewest_bar_in ?l_fewest_bar_in ?qc_fewest_bar_in ?k_fewest_bar_in ?a_fewest_number ?l_fewest_number ?qc_fewest_number ?k_fewest_number ?a__law_pairs ?l__law_pairs ?qc__law_pairs ?k__law_pairs ?a__law_can_hold ?l__law_can_hold ?qc__law_can_hold ?k__law_can_hold ?a_law ?l_law ?qc_law ?k_law ?aC_BadNumber ?ga_BadNumber ?gg_BadNumber ?eC_BadNumber ?hd_BadNumber ?tC_BadNumber ?ic_BadNumber ?aC_NotKept ?ga_NotKept ?gg_NotKept ?eC_NotKept ?hd_NotKept ?tC_NotKept ?ic_NotKept ?xL_BadNumber ?xr_BadNumber ?sa_BadNumber ?kC_BadNumber ?iC_BadNumber ?tI_BadNumber ?n0_BadNumber ?n1_BadNumber ?lI_BadNumber ?cI_BadNumber ?kI_BadNumber ?xL_NotKept ?xr_NotKept ?sa_NotKept ?kC_NotKept ?iC_NotKept ?tI_NotKept ?n0_NotKept ?n1_NotKept ?lI_NotKept ?cI_NotKept ?kI_NotKept ?z_bool ?z_int ?z_isinstance ?z_len ?z_list ?z_max ?z_range ?z_repr ?z_sorted ?z_tuple
    (case a__law_pen => k_is)
    (case l__law_pen => k_is)
    (case qc__law_pen => k_is)
    (case k__law_pen => k_is)
    (case a__law_draw => k_is)
    (case l__law_draw => k_is)
    (case qc__law_draw => k_is)
    (case k__law_draw => k_is)
    (case a__law_all_threes => k_is)
    (case l__law_all_threes => k_is)
    (case qc__law_all_threes => k_is)
    (case k__law_all_threes => k_is)
    (case a__law_pairs_of => k_is)
    (case l__law_pairs_of => k_is)
    (case qc__law_pairs_of => k_is)
    (case k__law_pairs_of => k_is)
    (case a__law_most => k_is)
    (case l__law_most => k_is)
    (case qc__law_most => k_is)
    (case k__law_most => k_is)
    (case a_is_whole => k_is)
    (case l_is_whole => k_is)
    (case qc_is_whole => k_is)
    (case k_is_whole => k_is)
    (case a_is_count => k_is)
    (case l_is_count => k_is)
    (case qc_is_count => k_is)
    (case k_is_count => k_is)
    (case a_need_count => k_is)
    (case l_need_count => k_is)
    (case qc_need_count => k_is)
    (case k_need_count => k_is)
    (case a_most_bar_in => k_is)
    (case l_most_bar_in => k_is)
    (case qc_most_bar_in => k_is)
    (case k_most_bar_in => k_is)
    (case a_most_number => k_is)
    (case l_most_number => k_is)
    (case qc_most_number => k_is)
    (case k_most_number => k_is)
    (case a_need_full => k_is)
    (case l_need_full => k_is)
    (case qc_need_full => k_is)
    (case k_need_full => k_is)
    (case a_fewest_bar_in => k_is)
    (case l_fewest_bar_in => k_is)
    (case qc_fewest_bar_in => k_is)
    (case k_fewest_bar_in => k_is)
    (case a_fewest_number => k_is)
    (case l_fewest_number => k_is)
    (case qc_fewest_number => k_is)
    (case k_fewest_number => k_is)
    (case a__law_pairs => k_is)
    (case l__law_pairs => k_is)
    (case qc__law_pairs => k_is)
    (case k__law_pairs => k_is)
    (case a__law_can_hold => k_is)
    (case l__law_can_hold => k_is)
    (case qc__law_can_hold => k_is)
    (case k__law_can_hold => k_is)
    (case a_law => k_is)
    (case l_law => k_is)
    (case qc_law => k_is)
    (case k_law => k_is)
    (case aC_BadNumber => k_is)
    (case ga_BadNumber => k_is)
    (case gg_BadNumber => k_is)
    (case eC_BadNumber => k_is)
    (case hd_BadNumber => k_is)
    (case tC_BadNumber => k_is)
    (case ic_BadNumber => k_is)
    (case aC_NotKept => k_is)
    (case ga_NotKept => k_is)
    (case gg_NotKept => k_is)
    (case eC_NotKept => k_is)
    (case hd_NotKept => k_is)
    (case tC_NotKept => k_is)
    (case ic_NotKept => k_is)
    (case xL_BadNumber => k_is)
    (case xr_BadNumber => decide +kernel)
    (case sa_BadNumber => k_is)
    (case kC_BadNumber => k_is)
    (case iC_BadNumber => k_is)
    (case tI_BadNumber => k_is)
    (case n0_BadNumber => k_is)
    (case n1_BadNumber => k_is)
    (case lI_BadNumber => k_is)
    (case cI_BadNumber => k_is)
    (case kI_BadNumber => k_is)
    (case xL_NotKept => k_is)
    (case xr_NotKept => decide +kernel)
    (case sa_NotKept => k_is)
    (case kC_NotKept => k_is)
    (case iC_NotKept => k_is)
    (case tI_NotKept => k_is)
    (case n0_NotKept => k_is)
    (case n1_NotKept => k_is)
    (case lI_NotKept => k_is)
    (case cI_NotKept => k_is)
    (case kI_NotKept => k_is)
    (case z_bool => k_is)
    (case z_int => k_is)
    (case z_isinstance => k_is)
    (case z_len => k_is)
    (case z_list => k_is)
    (case z_max => k_is)
    (case z_range => k_is)
    (case z_repr => k_is)
    (case z_sorted => k_is)
    (case z_tuple => k_is)
#print axioms PySem.Challenge.cw_pairsinthrees_k25_whole_small_numbers_se_holds

