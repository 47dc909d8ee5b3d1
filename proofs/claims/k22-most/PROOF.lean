import PyProof.Rows.All
import Wide.All
import OpenK.AllK
import Wide.FinOn
import HandS.ForMost
import HandS.ForExc
import HandS.IsInst
import HandS.TryMany
import HandS.Dict
import HandS.Conv
import HandS.Iter
import HandS.Walk
import HandS.Style
import HandS.ExcInit
import HandS.ExcField
import HandS.TupAny
import HandS.TupMul
import HandS.Deep
import HandS.RaiseMore
import HandS.Ends
import HandS.SortInts
import KE.SortData
import HandS.Zip
import HandS.DictComp
import KE.DataCmp
import HandS.TupLen
import KE.KDictSum
import HandS.ExcValue
import KE.KDictCopyH
import HandS.SetFor
import PySem.Challenge.RW_pairsinthrees_k22_whole_most
set_option Elab.async false
set_option linter.all false
set_option maxRecDepth 100000
set_option maxHeartbeats 4000000
/-! Dicts whose keys are tuples of ints and texts, wherever such a tuple stands (also in the module): an object of one's own. -/
namespace VL
open PySem PySem.Spec PyProof.Rows L2
abbrev TKey := List Key × Addr × V
def isIK : Key → Bool
  | .inl _ => true
  | .inr _ => false
theorem hash_same (P P' : Program) (w w' : World) : ∀ k : List Key, k.all isIK = true → k.map (mixKind P w).hash = k.map (mixKind P' w').hash
  | [], _ => rfl
  | .inl i :: r, h => by
    rw [List.map_cons, List.map_cons, hash_same P P' w w' r (by simpa [isIK] using h)]; rfl
  | .inr x :: r, h => by simp [isIK] at h
theorem hash_tup (P P' : Program) (w w' : World) (k : List Key) (h : k.all isIK = true) : tupleKeyHash (mixKind P w) k = tupleKeyHash (mixKind P' w') k := by
  unfold tupleKeyHash
  rw [hash_same P P' w w' k h]
theorem entry_one (P P' : Program) (w w' : World) (q : List Key × Addr × Value) (h : q.1.all isIK = true) : entryOfKey (tupleKind (mixKind P w)) q = entryOfKey (tupleKind (mixKind P' w')) q := by
  have e : (tupleKind (mixKind P w)).hash q.1 = (tupleKind (mixKind P' w')).hash q.1 := hash_tup P P' w w' q.1 h
  unfold entryOfKey
  rw [e]
theorem entry_same (P P' : Program) (w w' : World) (xs : List (List Key × Addr × Value)) (h : ∀ q ∈ xs, q.1.all isIK = true) : xs.map (entryOfKey (tupleKind (mixKind P w))) = xs.map (entryOfKey (tupleKind (mixKind P' w'))) :=
  List.map_congr_left fun q hq => entry_one P P' w w' q (h q hq)
def pairX (p : TKey) (q : List Key × Addr × Value) : Prop := p.1 = q.1 ∧ p.2.1 = q.2.1 ∧ RelV p.2.2 q.2.2
/-- the dict at a: its keys, where they stand, its values -/
def dXo (a : Addr) (es : List TKey) : HO := .ext fun h => es.length ≤ sizeLine ∧ (∀ p ∈ es, p.1.all isIK = true) ∧ (a == sysModules) = false ∧ ∃ xs : List (List Key × Addr × Value), Paired pairX es xs ∧
  ∃ o en ep, h.get? a = some o ∧ o.ExactDict ∧ o.data = .dict en ep ∧ (∀ (P : Program) (w : World), en.toList = xs.map (entryOfKey (tupleKind (mixKind P w)))) ∧ (xs.map (·.1)).Nodup
/-- the keys are tuples -/
def KeysX (K : PySem.W.Frag) (H : Hp) (es : List TKey) : Prop := ∀ p ∈ es, SqT K H p.2.1 (p.1.map kV)
section
variable {P : Program} {w : World} {K : PySem.W.Frag} {H : Hp} {h : Heap} {a b : Addr} {es : List TKey} {k : List Key} {v : V}
/-- a tuple of ints and texts is a key, tracked or of the module -/
theorem keyX (ok : HOk P w H h) (kin : K.In h) (t : SqT K H b (k.map kV)) : (tupleKind (mixKind P w)).is h k b := by
  rcases t with r | ⟨o, its, n, look, cl, dat, sz, vals⟩
  · have q := r.ok ok
    obtain ⟨_, its, vals, o, g, c, n, dat⟩ := (show ObjOk P w H h b (.tup (k.map kV)) from q)
    exact ⟨o, its.toArray, n, g, c, dat, by simpa using items_are vals⟩
  · exact ⟨o, its, n, kin _ _ look, cl, dat, items_are vals⟩
theorem paired_getR {α β : Type} {F : α → β → Prop} : ∀ {xs : List α} {ys : List β}, Paired F xs ys → ∀ y ∈ ys, ∃ x ∈ xs, F x y
  | _, _, .nil, _, hy => nomatch hy
  | _, _, .cons h t, y, hy => by
    rcases List.mem_cons.mp hy with rfl | hy
    · exact ⟨_, .head _, h⟩
    · obtain ⟨x, hx, f⟩ := paired_getR t y hy
      exact ⟨x, .tail _ hx, f⟩
theorem dX_is (ok : HOk P w H h) (kin : K.In h) (e : Rd H a (dXo a es)) (ks : KeysX K H es) : es.length ≤ sizeLine ∧ (a == sysModules) = false ∧ (∀ p ∈ es, p.1.all isIK = true) ∧ ∃ xs, Paired pairX es xs ∧ h.DictOfH (tupleKind (mixKind P w)) a xs := by
  obtain ⟨⟨small, ik, nm, xs, rel, o, en, ep, g, ex, dat, ent, nod⟩, _, _⟩ := (show ObjOk P w H h a (dXo a es) from e.ok ok)
  refine ⟨small, nm, ik, xs, rel, o, en, ep, g, ex, dat, ent P w, fun x hx => ?_, nod⟩
  obtain ⟨p, hp, e1, e2, _⟩ := paired_getR rel x hx
  have z := ks p hp
  rw [e1, e2] at z
  exact keyX ok kin z
theorem dX_new {H' : Hp} (small : es.length ≤ sizeLine) (nm : (a == sysModules) = false) (ik : ∀ p ∈ es, p.1.all isIK = true) {xs : List (List Key × Addr × Value)} (rel : Paired pairX es xs) (d : h.DictOfH (tupleKind (mixKind P w)) a xs) : ObjOk P w H' h a (dXo a es) := by
  obtain ⟨o, en, ep, g, ex, dat, ent, _, nod⟩ := d
  have ikx : ∀ q ∈ xs, q.1.all isIK = true := fun q hq => by
    obtain ⟨p, hp, e1, _⟩ := paired_getR rel q hq
    rw [← e1]; exact ik p hp
  refine ⟨⟨small, ik, nm, xs, rel, o, en, ep, g, ex, dat, fun P' w' => ent.trans (entry_same P P' w w' xs ikx), nod⟩, ⟨o, g⟩, fun h1 h2 ⟨s1, s0, s2, ys, r, o1, en1, ep1, g1, q⟩ st => ⟨s1, s0, s2, ys, r, o1, en1, ep1, st _ g1, q⟩⟩
theorem dX_empty (h : Heap) (big : sysModules < h.objs.size) : ObjOk P w H (h.push { cls := .type "dict", data := .dict #[] }) h.objs.size (dXo h.objs.size []) :=
  dX_new (Nat.zero_le _) (beq_eq_false_iff_ne.mpr (Ne.symm (Nat.ne_of_lt big))) (fun _ hp => nomatch hp) .nil ⟨_, #[], 0, Heap.get?_push_size _ rfl, ⟨rfl, rfl, rfl⟩, rfl, rfl, (fun _ hx => nomatch hx), List.nodup_nil⟩
/-! what is found, what is put -/
def valX (es : List TKey) (k : List Key) : Option V := (es.find? fun p => decide (p.1 = k)).map (·.2.2)
def putX (es : List TKey) (k : List Key) (b : Addr) (v : V) : List TKey :=
  if (es.any fun p => decide (p.1 = k)) = true then es.map (fun p => if p.1 = k then (p.1, p.2.1, v) else p) else es ++ [(k, b, v)]
theorem valX_at : ∀ {es : List TKey} {xs : List (List Key × Addr × Value)}, Paired pairX es xs → ∀ k, RelO (valX es k) ((atKey xs k).map (·.2))
  | _, _, .nil, k => trivial
  | p :: es, q :: xs, .cons ⟨e1, e2, e3⟩ t, k => by
    have ih := valX_at t k
    unfold valX atKey at ih ⊢
    rw [List.find?_cons, List.find?_cons, ← e1]
    by_cases c : p.1 = k
    · rw [decide_eq_true c]; exact e3
    · rw [decide_eq_false c]; exact ih
theorem any_at {es : List TKey} {k : List Key} : (es.any fun p => decide (p.1 = k)) = (valX es k).isSome := by
  unfold valX
  induction es with
  | nil => rfl
  | cons p r ih =>
    rw [List.any_cons, List.find?_cons]
    by_cases c : p.1 = k
    · rw [decide_eq_true c]; rfl
    · rw [decide_eq_false c, Bool.false_or]; exact ih
theorem putX_rel {xs : List (List Key × Addr × Value)} {u : Value} (rel : Paired pairX es xs) (hv : RelV v u) : Paired pairX (putX es k b v) (storedH xs k b u) := by
  have e : (es.any fun p => decide (p.1 = k)) = (atKey xs k).isSome := by
    rw [any_at, (valX_at rel k).isSome_eq, Option.isSome_map]
  unfold putX storedH
  rw [e]
  by_cases q : (atKey xs k).isSome = true
  · rw [if_pos q, if_pos q]
    clear e q
    induction rel with
    | nil => exact .nil
    | @cons p q ps qs hq t ih =>
      rw [List.map_cons, List.map_cons]
      refine .cons ?_ ih
      obtain ⟨e1, e2, e3⟩ := hq
      unfold putAt
      by_cases c : p.1 = k
      · rw [if_pos c, if_pos (e1 ▸ c)]; exact ⟨e1, e2, hv⟩
      · rw [if_neg c, if_neg (e1 ▸ c)]; exact ⟨e1, e2, e3⟩
  · rw [if_neg q, if_neg q]
    exact Paired.snoc rel ⟨rfl, rfl, hv⟩
theorem putX_len : (putX es k b v).length ≤ es.length + 1 := by
  unfold putX
  split
  · rw [List.length_map]; omega
  · rw [List.length_append]; exact Nat.le_refl _
theorem putX_keys (ks : KeysX K H es) (hb : SqT K H b (k.map kV)) : KeysX K H (putX es k b v) := by
  intro p hp
  unfold putX at hp
  split at hp
  · obtain ⟨q, hq, rfl⟩ := List.mem_map.mp hp
    split
    · exact ks q hq
    · exact ks q hq
  · rcases List.mem_append.mp hp with hp | hp
    · exact ks p hp
    · rw [List.mem_singleton.mp hp]; exact hb
end
theorem putX_ik {es : List TKey} {k : List Key} {b : Addr} {v : V} (ik : ∀ p ∈ es, p.1.all isIK = true) (hk : k.all isIK = true) : ∀ p ∈ putX es k b v, p.1.all isIK = true := by
  intro p hp
  unfold putX at hp
  split at hp
  · obtain ⟨q, hq, rfl⟩ := List.mem_map.mp hp
    split
    · exact ik q hq
    · exact ik q hq
  · rcases List.mem_append.mp hp with hp | hp
    · exact ik p hp
    · rw [List.mem_singleton.mp hp]; exact hk
/-! ### asked and stored: an empty dict is of both kinds -/
def RdK (H : Hp) (a : Addr) (kvs : List (Key × V)) : Prop := Rd H a (.dK kvs) ∨ (kvs = [] ∧ Rd H a (dXo a []))
def RdX (H : Hp) (a : Addr) (es : List TKey) : Prop := Rd H a (dXo a es) ∨ (es = [] ∧ Rd H a (.dK []))
section
variable {P : Program} {w : World} {K : PySem.W.Frag} {H : Hp} {h : Heap} {a : Addr}
theorem RdK.is {kvs : List (Key × V)} (ok : HOk P w H h) (kin : K.In h) (e : RdK H a kvs) : (a == sysModules) = false ∧ ∃ vs, KV kvs vs ∧ h.DictOf (mixKind P w) a vs := by
  rcases e with e | ⟨rfl, e⟩
  · obtain ⟨_, nm, vs, rel, dd⟩ := dk_rd ok e
    exact ⟨nm, vs, rel, dd⟩
  · obtain ⟨_, nm, _, xs, rel, o, en, ep, g, ex, dat, ent, _, _⟩ := dX_is ok kin e (fun _ hp => nomatch hp)
    cases rel
    have z : en = #[] := Array.toList_eq_nil_iff.mp (by simpa using ent)
    subst z
    exact ⟨nm, [], .nil, ⟨o, #[], ep, g, ex, dat, (by intro d hd; simp at hd), .nil, List.nodup_nil⟩⟩
theorem RdX.is {es : List TKey} (ok : HOk P w H h) (kin : K.In h) (e : RdX H a es) (ks : KeysX K H es) : (a == sysModules) = false ∧ ∃ xs, Paired pairX es xs ∧ h.DictOfH (tupleKind (mixKind P w)) a xs := by
  rcases e with e | ⟨rfl, e⟩
  · obtain ⟨_, nm, _, xs, rel, dd⟩ := dX_is ok kin e ks
    exact ⟨nm, xs, rel, dd⟩
  · obtain ⟨_, nm, vs, rel, o, en, ep, g, ex, dat, _, pr, _⟩ := dk_rd ok e
    cases rel
    have z : en.toList = [] := by
      generalize en.toList = l at pr
      cases pr; rfl
    exact ⟨nm, [], .nil, ⟨o, en, ep, g, ex, dat, z, (fun _ hx => nomatch hx), List.nodup_nil⟩⟩
end
def GetA (K : PySem.W.Frag) (H : Hp) (a : Addr) (y : V) (r : Option V) : Prop :=
  (∃ kvs k, RdK H a kvs ∧ y = kV k ∧ r = valV kvs k) ∨ ∃ es k b, RdX H a es ∧ KeysX K H es ∧ y = .ref b ∧ SqT K H b (k.map kV) ∧ r = valX es k
def PutA (K : PySem.W.Frag) (H : Hp) (a : Addr) (y v : V) (H' : Hp) : Prop :=
  (∃ kvs k, H a = some (.dK kvs) ∧ y = kV k ∧ kvs.length < sizeLine ∧ H' = upd H a (.dK (putK kvs k v))) ∨
  ∃ es k b, H a = some (dXo a es) ∧ KeysX K H es ∧ y = .ref b ∧ SqT K H b (k.map kV) ∧ k.all isIK = true ∧ es.length < sizeLine ∧ H' = upd H a (dXo a (putX es k b v))
section
variable {X : Cx} {pins : List (Addr × Obj)} {σ : L2.St} {H : Hp} {s : Shared} {a : Addr} {y v : V} {u r : Value} {o : Option V} {A : Around} {Er : Value → Shared → Prop}
theorem GetA.dict (I : Inv X pins σ H s) (g : GetA X.K H a y o) : s.TypeIs (.ref a) "dict" := by
  rcases g with ⟨kvs, k, e, _⟩ | ⟨es, k, b, e, ks, _⟩
  · obtain ⟨_, _, _, dd⟩ := e.is I.hok I.kIn
    exact dd.typeIs
  · obtain ⟨_, _, _, dd⟩ := e.is I.hok I.kIn ks
    exact dd.typeIs
theorem getA_item {Q : Value → Shared → Prop} (hu : A.units + 1 < cLine) (I : Inv X pins σ H s) (g : GetA X.K H a y (some v)) (ry : RelV y u) (fin : ∀ w' s', Inv X pins σ H s' → RelV v w' → Q w' s') : wpAny (model X.prog X.w) A (getItem (.ref a) u) Q Er s := by
  rcases g with ⟨kvs, k, e, rfl, l⟩ | ⟨es, k, b, e, ks, ey, eb, l⟩
  · obtain ⟨_, vs, rel, dd⟩ := e.is I.hok I.kIn
    obtain ⟨w', hw, rw'⟩ := RelO.some_of (v := v) (o := valueAt vs k) (by rw [l]; exact rel.val k)
    exact wpAny_getItem_of (kV_is ry) dd.mapOf hw (fin w' _ (I.tok _) rw')
  · subst ey
    cases (show u = Value.ref b from ry)
    obtain ⟨_, xs, rel, dd⟩ := e.is I.hok I.kIn ks
    obtain ⟨w', hw, rw'⟩ := RelO.some_of (v := v) (o := (atKey xs k).map (·.2)) (by rw [l]; exact valX_at rel k)
    obtain ⟨p, hp, rfl⟩ := Option.map_eq_some_iff.mp hw
    exact wpAny_getItem_heap (tupleKind_room_in1 hu) (keyX I.hok I.kIn eb) dd hp (fin _ _ (I.tok _) rw')
theorem getA_in {Q : Value → Shared → Prop} (hu : A.units + 1 < cLine) (I : Inv X pins σ H s) (g : GetA X.K H a y o) (ry : RelV y u) (fin : ∀ s', Inv X pins σ H s' → Q (.bool o.isSome) s') : wpAny (model X.prog X.w) A (compareOp .In u (.ref a)) Q Er s := by
  rcases g with ⟨kvs, k, e, rfl, l⟩ | ⟨es, k, b, e, ks, ey, eb, l⟩
  · obtain ⟨nm, vs, rel, dd⟩ := e.is I.hok I.kIn
    refine wpAny_in_of (kV_is ry) nm dd.mapOf ?_
    rw [← (rel.val k).isSome_eq, ← l]; exact fin _ (I.tok _)
  · subst ey
    cases (show u = Value.ref b from ry)
    obtain ⟨nm, xs, rel, dd⟩ := e.is I.hok I.kIn ks
    refine wpAny_in_heap (tupleKind_room_in1 hu) (keyX I.hok I.kIn eb) nm dd ?_
    have q := (valX_at rel k).isSome_eq
    rw [Option.isSome_map] at q
    rw [← q, ← l]
    exact fin _ (I.tok _)
theorem getA_notIn {Q : Value → Shared → Prop} (hu : A.units + 1 < cLine) (I : Inv X pins σ H s) (g : GetA X.K H a y o) (ry : RelV y u) (fin : ∀ s', Inv X pins σ H s' → Q (.bool (!o.isSome)) s') : wpAny (model X.prog X.w) A (compareOp .NotIn u (.ref a)) Q Er s := by
  rcases g with ⟨kvs, k, e, rfl, l⟩ | ⟨es, k, b, e, ks, ey, eb, l⟩
  · obtain ⟨nm, vs, rel, dd⟩ := e.is I.hok I.kIn
    refine wpAny_notIn_of (kV_is ry) nm dd.mapOf ?_
    rw [← (rel.val k).isSome_eq, ← l]; exact fin _ (I.tok _)
  · subst ey
    cases (show u = Value.ref b from ry)
    obtain ⟨nm, xs, rel, dd⟩ := e.is I.hok I.kIn ks
    refine wpAny_notIn_heap (tupleKind_room_in1 hu) (keyX I.hok I.kIn eb) nm dd ?_
    have q := (valX_at rel k).isSome_eq
    rw [Option.isSome_map] at q
    rw [← q, ← l]
    exact fin _ (I.tok _)
theorem getA_get1 {Q : Value → Shared → Prop} (hu : A.units + 1 < cLine) (I : Inv X pins σ H s) (g : GetA X.K H a y o) (ry : RelV y u) (fin : ∀ w' s', Inv X pins σ H s' → RelV (o.getD .non) w' → Q w' s') : wpAny (model X.prog X.w) A (call (.builtin "dict.get") [.ref a, u]) Q Er s := by
  rcases g with ⟨kvs, k, e, rfl, l⟩ | ⟨es, k, b, e, ks, ey, eb, l⟩
  · obtain ⟨nm, vs, rel, dd⟩ := e.is I.hok I.kIn
    refine call_meetsIn PySem.F.slot_dict_get dd.typeIs PySem.F.entry_dict_get (PySem.F.args_dict_get_2 _ _) (meets_dict_get (mixKind X.prog X.w) a (kV_is ry) nm) ⟨_, dd.mapOf, fin _ _ (I.tok _) ?_⟩
    rw [l]; exact (rel.val k).getD rfl
  · subst ey
    cases (show u = Value.ref b from ry)
    obtain ⟨nm, xs, rel, dd⟩ := e.is I.hok I.kIn ks
    refine call_meetsIn PySem.F.slot_dict_get dd.typeIs PySem.F.entry_dict_get (PySem.F.args_dict_get_2 _ _) (meetsH_dict_get (tupleKind (mixKind X.prog X.w)) a b nm) ⟨tupleKind_room_in1 hu, k, xs, keyX I.hok I.kIn eb, dd, fin _ _ (I.tok _) ?_⟩
    rw [l]; exact (valX_at rel k).getD rfl
theorem getA_get2 {d : V} {Q : Value → Shared → Prop} (hu : A.units + 1 < cLine) (I : Inv X pins σ H s) (g : GetA X.K H a y o) (ry : RelV y u) (rd : RelV d r) (fin : ∀ w' s', Inv X pins σ H s' → RelV (o.getD d) w' → Q w' s') : wpAny (model X.prog X.w) A (call (.builtin "dict.get") [.ref a, u, r]) Q Er s := by
  rcases g with ⟨kvs, k, e, rfl, l⟩ | ⟨es, k, b, e, ks, ey, eb, l⟩
  · obtain ⟨nm, vs, rel, dd⟩ := e.is I.hok I.kIn
    refine call_meetsIn PySem.F.slot_dict_get dd.typeIs PySem.F.entry_dict_get (PySem.F.args_dict_get_3 _ _ _) (meets_dict_get_default (mixKind X.prog X.w) a (kV_is ry) nm r) ⟨_, dd.mapOf, fin _ _ (I.tok _) ?_⟩
    rw [l]; exact (rel.val k).getD rd
  · subst ey
    cases (show u = Value.ref b from ry)
    obtain ⟨nm, xs, rel, dd⟩ := e.is I.hok I.kIn ks
    refine call_meetsIn PySem.F.slot_dict_get dd.typeIs PySem.F.entry_dict_get (PySem.F.args_dict_get_3 _ _ _) (meetsH_dict_get_default (tupleKind (mixKind X.prog X.w)) a b nm r) ⟨tupleKind_room_in1 hu, k, xs, keyX I.hok I.kIn eb, dd, fin _ _ (I.tok _) ?_⟩
    rw [l]; exact (valX_at rel k).getD rd
/-- the dict's object is another one, told as es' -/
theorem writeX {es' : List TKey} {h' : Heap} {t' : Nat} {xs : List (List Key × Addr × Value)} (I : Inv X pins σ H s) (mu : Mut (H a)) (same : Heap.SameBut a s.heap h') (small : es'.length ≤ sizeLine) (nm : (a == sysModules) = false) (ik : ∀ p ∈ es', p.1.all isIK = true) (rel : Paired pairX es' xs)
    (d : h'.DictOfH (tupleKind (mixKind X.prog X.w)) a xs) : Inv X pins σ (upd H a (dXo a es')) { s with heap := h', toks := t' } :=
  d_write I mu same (let ⟨q, _, _, hq, _⟩ := d; ⟨q, hq⟩) (dX_new small nm ik rel d)
theorem putA_item {H' : Hp} {Q : Unit → Shared → Prop} (hu : A.units + 1 < cLine) (I : Inv X pins σ H s) (g : PutA X.K H a y v H') (ry : RelV y u) (rv : RelV v r) (fin : ∀ s', Inv X pins σ H' s' → Q () s') : wpAny (model X.prog X.w) A (setItem (.ref a) u r) Q Er s := by
  rcases g with ⟨kvs, k, e, ey, lt, eH⟩ | ⟨es, k, b, e, ks, ey, eb, ka, lt, eH⟩
  · exact d_setItem hu I (.inl ⟨kvs, k, e, ey, lt, eH⟩) ry rv fin
  · subst ey eH
    cases (show u = Value.ref b from ry)
    obtain ⟨_, nm, ik, xs, rel, dd⟩ := dX_is I.hok I.kIn (.inl e) ks
    have grown := putX_len (es := es) (k := k) (b := b) (v := v)
    refine wpAny_setItem_heap (hsz := Paired.length rel ▸ Nat.le_of_lt lt) (tupleKind_room_in1 hu) (keyX I.hok I.kIn eb) dd fun h' dd' same => fin _ ?_
    exact writeX I (e ▸ True.intro) same (by omega) nm (putX_ik ik ka) (putX_rel rel rv) dd'
/-- .. by a comprehension, by dict(..) -/
theorem putA_set {H' : Hp} {Q : Unit → Shared → Prop} (hu : A.units < cLine) (I : Inv X pins σ H s) (g : PutA X.K H a y v H') (ry : RelV y u) (rv : RelV v r) (fin : ∀ s', Inv X pins σ H' s' → Q () s') : wpAny (model X.prog X.w) A (dictSet a u r) Q Er s := by
  rcases g with ⟨ks, k, hC, e1, lt, e2⟩ | ⟨es, k, b, e, ks, ey, eb, ka, lt, eH⟩
  · subst e1 e2
    obtain ⟨_, nm, vs, rel, dd⟩ := dk_of I.hok hC
    have small : vs.length ≤ sizeLine := rel.length ▸ Nat.le_of_lt lt
    have grown := length_putK ks k v
    exact wpAny_dictSet_pairs (hsz := small) (kV_is ry) dd fun h2 d2 same => fin _ (d_write I (hC ▸ True.intro) same (let ⟨q, _, _, hq, _⟩ := d2; ⟨q, hq⟩) (dk_new (by omega) nm (rel.put k rv) d2))
  · subst ey eH
    cases (show u = Value.ref b from ry)
    obtain ⟨_, nm, ik, xs, rel, dd⟩ := dX_is I.hok I.kIn (.inl e) ks
    have grown := putX_len (es := es) (k := k) (b := b) (v := v)
    refine wpAny_dictSet_heap (hsz := Paired.length rel ▸ Nat.le_of_lt lt) (show (tupleKind (mixKind X.prog X.w)).room A from hu) (keyX I.hok I.kIn eb) dd fun h' dd' same => fin _ ?_
    exact writeX I (e ▸ True.intro) same (by omega) nm (putX_ik ik ka) (putX_rel rel rv) dd'
end
end VL
namespace VL
open PySem PySem.Spec PyProof.Rows L2
/-! ### rules by values -/
def tDNewX : TE := fun _ H Q => ∀ p, H p = none → Q (.ref p) (upd H p (dXo p []))
section
variable {X : Cx} {pos : Pos}
theorem pe_dnewX : PE X (.Dict [] [] pos) tDNewX := ⟨fun pins s σ H Q I h =>
  wpAny_Dict_empty ⟨.ref s.heap.objs.size, _, I.laid (a := s.heap.objs.size) (o := dXo s.heap.objs.size []) (t' := s.toks) (fun _ _ q => Heap.get?_push_of_some _ q) (Nat.le_refl _) (dX_empty s.heap I.big), rfl, h _ (I.hok.fresh (Nat.le_refl _))⟩⟩
def rIxA (K : PySem.W.Frag) : R2 := fun x y H Q => ∃ a v, x = .ref a ∧ GetA K H a y (some v) ∧ Q v H
/-- the subscript's own steps about getItem -/
theorem tail_of {prog : Program} {w : World} {A : Around} {Er : Value → Shared → Prop} {s : Shared} {value slice : Expr} {o i : Value} {T id : String} {Q : Value → Shared → Prop} (look : typeLookup (.type T) "__getitem__" = pure (some (.builtin id))) (ty : s.TypeIs o T)
    (plain : subscripted slice false o i = operate [o, i] (getItem o i)) (got : wpAny (model prog w) A (getItem o i) Q Er s) : wpAny (model prog w) A (subscriptTail value slice o i) Q Er s := by
  unfold subscriptTail
  refine wpAny_bind ?_
  rw [getitemInPython_of_ne ty.not_modules]
  refine wpAny_bind (wpAny_specialOf ty look ?_)
  have end_ : wpAny (model prog w) A (subscripted slice false o i) (fun r s2 => wpAny (model prog w) A (letTemporaryGo value o r >>= fun _ => pure r) Q Er s2) Er s := by
    rw [plain]; exact wpAny_operating (wpAny_mono got (fun r s2 q => wpAny_bind (wpAny_letTemporaryGo (wpAny_pure q))) fun _ _ q => q)
  first
    | exact wpAny_pure (wpAny_bind end_)
    | exact wpAny_bind (wpAny_pure (wpAny_bind end_))
    | exact wpAny_bind end_
theorem ix_dictA (hu : X.A.units + 1 < cLine) : IxR X (rIxA X.K) := by
  intro value slice pins s σ H x y v u Q I rx ry h hs
  obtain ⟨a, z, rfl, g, q⟩ := h
  cases rx
  exact tail_of PySem.F.slot_dict_getitem.lookup (g.dict I) hs (getA_item hu I g ry fun w' s' I' r' => ⟨z, H, I', r', q⟩)
def rInA (K : PySem.W.Frag) : R2 := fun x y H Q => ∃ a o, y = .ref a ∧ GetA K H a x o ∧ Q (.bl o.isSome) H
def rNotInA (K : PySem.W.Frag) : R2 := fun x y H Q => ∃ a o, y = .ref a ∧ GetA K H a x o ∧ Q (.bl (!o.isSome)) H
theorem op_inA (hu : X.A.units + 1 < cLine) : OpR X (compareOp .In) (rInA X.K) := by
  intro pins s σ H x y v u Q I rx ry h
  obtain ⟨a, o, rfl, g, q⟩ := h
  cases ry
  exact getA_in hu I g rx fun s' I' => ⟨.bl o.isSome, H, I', rfl, q⟩
theorem op_notInA (hu : X.A.units + 1 < cLine) : OpR X (compareOp .NotIn) (rNotInA X.K) := by
  intro pins s σ H x y v u Q I rx ry h
  obtain ⟨a, o, rfl, g, q⟩ := h
  cases ry
  exact getA_notIn hu I g rx fun s' I' => ⟨.bl (!o.isSome), H, I', rfl, q⟩
def rSetA (K : PySem.W.Frag) : V → V → V → Hp → (Hp → Prop) → Prop := fun o i v H Q => ∃ a H', o = .ref a ∧ PutA K H a i v H' ∧ Q H'
theorem set_dictA (hu : X.A.units + 1 < cLine) : PSet X (rSetA X.K) := by
  intro pins s σ H o i v ov iv u Q I ro ri rv h
  obtain ⟨a, H', rfl, g, q⟩ := h
  cases ro
  exact putA_item hu I g ri rv fun s' I' => ⟨H', I', q⟩
theorem PSet.or {t t' : V → V → V → Hp → (Hp → Prop) → Prop} (h : PSet X t) (h' : PSet X t') : PSet X fun o i v H Q => t o i v H Q ∨ t' o i v H Q := by
  intro pins s σ H o i v ov iv u Q I ro ri rv q
  rcases q with q | q
  · exact h pins s σ H o i v ov iv u Q I ro ri rv q
  · exact h' pins s σ H o i v ov iv u Q I ro ri rv q
def rGetItA (K : PySem.W.Frag) : V → V → Hp → VK → Prop := fun o i H Q => ∃ a v, o = .ref a ∧ GetA K H a i (some v) ∧ Q v H
theorem get_dictA (hu : X.A.units + 1 < cLine) : PGet X (rGetItA X.K) := by
  intro pins s σ H o i ov iv Q I ro ri h
  obtain ⟨a, v, rfl, g, q⟩ := h
  cases ro
  exact getA_item hu I g ri fun w' s' I' r' => ⟨v, H, I', r', q⟩
def rGet1A (K : PySem.W.Frag) : V → List V → Hp → VK → Prop := fun x xs H Q => ∃ a y o, x = .ref a ∧ xs = [y] ∧ GetA K H a y o ∧ Q (o.getD .non) H
def rGet2A (K : PySem.W.Frag) : V → List V → Hp → VK → Prop := fun x xs H Q => ∃ a y d o, x = .ref a ∧ xs = [y, d] ∧ GetA K H a y o ∧ Q (o.getD d) H
theorem mt_get1A (hu : X.A.units + 1 < cLine) : MtR X "dict.get" (rGet1A X.K) := by
  intro pins s σ H x xs v us Q I rx rs h
  obtain ⟨a, y, o, rfl, rfl, g, q⟩ := h
  cases rx
  obtain ⟨u, rfl, r⟩ := vals1 rs
  exact getA_get1 hu I g r fun w' s' I' r' => ⟨_, H, I', r', q⟩
theorem mt_get2A (hu : X.A.units + 1 < cLine) : MtR X "dict.get" (rGet2A X.K) := by
  intro pins s σ H x xs v us Q I rx rs h
  obtain ⟨a, y, d, o, rfl, rfl, g, q⟩ := h
  cases rx
  obtain ⟨u1, u2, rfl, r1, r2⟩ := vals2 rs
  exact getA_get2 hu I g r1 r2 fun w' s' I' r' => ⟨_, H, I', r', q⟩
/-- the receiver's type -/
def tyA (K : PySem.W.Frag) (T : String) (x : V) (H : Hp) : Prop := tyV K T x H ∨ (T = "dict" ∧ ∃ a es, x = .ref a ∧ Rd H a (dXo a es) ∧ KeysX K H es) ∨ (T = "dict" ∧ ∃ a kvs, x = .ref a ∧ Rd H a (.dK kvs)) ∨ (T = "tuple" ∧ ∃ a xs, x = .ref a ∧ Rd H a (.tup xs))
theorem tyA_is {pins : List (Addr × Obj)} {σ : L2.St} {H : Hp} {s : Shared} {T : String} {x : V} {v : Value} (I : Inv X pins σ H s) (r : RelV x v) (t : tyA X.K T x H) : s.TypeIs v T ∧ (T ≠ "tuple" → ∀ a, v = .ref a → ∃ ob, s.heap.get? a = some ob ∧ ob.dict = none) := by
  rcases t with t | ⟨rfl, a, es, rfl, e, ks⟩ | ⟨rfl, a, kvs, rfl, e⟩ | ⟨rfl, a, xs, rfl, e⟩
  · obtain ⟨h1, h2⟩ := tyV_is I r t
    exact ⟨h1, fun _ => h2⟩
  · cases r
    obtain ⟨_, _, _, _, _, o, _, _, g, ex, _⟩ := dX_is I.hok I.kIn e ks
    exact ⟨⟨o, g, ex.1⟩, fun _ b q => by cases q; exact ⟨o, g, ex.2.1⟩⟩
  · cases r
    obtain ⟨_, _, _, _, o, _, _, g, ex, _⟩ := dk_rd I.hok e
    exact ⟨⟨o, g, ex.1⟩, fun _ b q => by cases q; exact ⟨o, g, ex.2.1⟩⟩
  · cases r
    obtain ⟨_, its, _, o, g, c, _⟩ := e.ok I.hok
    exact ⟨⟨o, g, c⟩, fun z => absurd rfl z⟩
end
end VL
/-! A value layer over HandS: what the defs compute, told by deep data (PyData) in the place of addresses. -/
namespace VL
open PySem PySem.Spec PyProof.Rows L2

abbrev D := PySem.PyData
abbrev Fg := PySem.W.Frag
def keyD : Key → D
  | .inl i => .int i
  | .inr x => .str x
def tupD (ks : List Key) : D := .tuple (ks.map keyD)

mutual
/-- the value v reads as the datum d, over the part Z of the heap -/
inductive DR (K : Fg) (Z : Hp) : V → D → Prop where
  | non : DR K Z .non .none
  | bl (b : Bool) : DR K Z (.bl b) (.bool b)
  | int (i : Int) : DR K Z (.int i) (.int i)
  | str (x : Str) : DR K Z (.str x) (.str x)
  | lst {a : Addr} {xs : List V} {ds : List D} : Z a = some (.lst xs) → DRs K Z xs ds → DR K Z (.ref a) (.list ds)
  | tup {a : Addr} {xs : List V} {ds : List D} : SqT K Z a xs → DRs K Z xs ds → DR K Z (.ref a) (.tuple ds)
  | dk {a : Addr} {o : Obj} {kvs : List (Key × V)} {ds : List (D × D)} : Z a = some (.frz o (.dK kvs)) → DRk K Z kvs ds → DR K Z (.ref a) (.dict ds)
  | dt {a : Addr} {o : Obj} {kvs : List TKey} {ds : List (D × D)} : Z a = some (.frz o (dXo a kvs)) → DRt K Z kvs ds → DR K Z (.ref a) (.dict ds)
inductive DRs (K : Fg) (Z : Hp) : List V → List D → Prop where
  | nil : DRs K Z [] []
  | cons {v : V} {vs : List V} {d : D} {ds : List D} : DR K Z v d → DRs K Z vs ds → DRs K Z (v :: vs) (d :: ds)
inductive DRk (K : Fg) (Z : Hp) : List (Key × V) → List (D × D) → Prop where
  | nil : DRk K Z [] []
  | cons {k : Key} {v : V} {vs : List (Key × V)} {d : D} {ds : List (D × D)} : DR K Z v d → DRk K Z vs ds → DRk K Z ((k, v) :: vs) ((keyD k, d) :: ds)
inductive DRt (K : Fg) (Z : Hp) : List TKey → List (D × D) → Prop where
  | nil : DRt K Z [] []
  | cons {k : List Key} {b : Addr} {v : V} {vs : List TKey} {d : D} {ds : List (D × D)} : SqT K Z b (k.map kV) → DR K Z v d → DRt K Z vs ds → DRt K Z ((k, b, v) :: vs) ((tupD k, d) :: ds)
end

def Sub (Z Z' : Hp) : Prop := ∀ a o, Z a = some o → Z' a = some o
theorem Sub.refl {Z : Hp} : Sub Z Z := fun _ _ h => h
theorem Sub.trans {Z Z' Z'' : Hp} (a : Sub Z Z') (b : Sub Z' Z'') : Sub Z Z'' := fun c o h => b c o (a c o h)
theorem Sub.rd {Z Z' : Hp} (s : Sub Z Z') {a : Addr} {u : HO} (h : Rd Z a u) : Rd Z' a u := h.elim (fun h => .inl (s _ _ h)) fun ⟨o, h⟩ => .inr ⟨o, s _ _ h⟩
theorem Sub.sqL {K : Fg} {Z Z' : Hp} (s : Sub Z Z') {a : Addr} {u : List V} (h : SqL K Z a u) : SqL K Z' a u := h.elim (fun h => .inl (s.rd h)) .inr
theorem Sub.sqT {K : Fg} {Z Z' : Hp} (s : Sub Z Z') {a : Addr} {u : List V} (h : SqT K Z a u) : SqT K Z' a u := h.elim (fun h => .inl (s.rd h)) .inr
theorem Sub.upd {Z : Hp} {a : Addr} {o : HO} (h : Z a = none) : Sub Z (upd Z a o) := fun b u e => by
  rw [upd_ne (ne_of_none e h)]; exact e

section
variable {K : Fg} {Z Z' : Hp}
mutual
theorem DR.mono (s : Sub Z Z') : ∀ {v : V} {d : D}, DR K Z v d → DR K Z' v d
  | _, _, .non => .non
  | _, _, .bl b => .bl b
  | _, _, .int b => .int b
  | _, _, .str b => .str b
  | _, _, .lst h t => .lst (s _ _ h) (DRs.mono s t)
  | _, _, .tup h t => .tup (s.sqT h) (DRs.mono s t)
  | _, _, .dk h t => .dk (s _ _ h) (DRk.mono s t)
  | _, _, .dt h t => .dt (s _ _ h) (DRt.mono s t)
theorem DRs.mono (s : Sub Z Z') : ∀ {v : List V} {d : List D}, DRs K Z v d → DRs K Z' v d
  | _, _, .nil => .nil
  | _, _, .cons h t => .cons (DR.mono s h) (DRs.mono s t)
theorem DRk.mono (s : Sub Z Z') : ∀ {v : List (Key × V)} {d : List (D × D)}, DRk K Z v d → DRk K Z' v d
  | _, _, .nil => .nil
  | _, _, .cons h t => .cons (DR.mono s h) (DRk.mono s t)
theorem DRt.mono (s : Sub Z Z') : ∀ {v : List TKey} {d : List (D × D)}, DRt K Z v d → DRt K Z' v d
  | _, _, .nil => .nil
  | _, _, .cons q h t => .cons (s.sqT q) (DR.mono s h) (DRt.mono s t)
end
theorem DRs.length : ∀ {v : List V} {d : List D}, DRs K Z v d → v.length = d.length
  | _, _, .nil => rfl
  | _, _, .cons _ t => by rw [List.length_cons, List.length_cons, t.length]
theorem DRs.get : ∀ {v : List V} {d : List D} {i : Nat} {e : D}, DRs K Z v d → d[i]? = some e → ∃ u, v[i]? = some u ∧ DR K Z u e
  | _, _, _, _, .nil, h => by simp at h
  | _, _, 0, _, .cons h t, q => by simp at q; subst q; exact ⟨_, rfl, h⟩
  | _, _, i + 1, _, .cons h t, q => by
    obtain ⟨u, a, b⟩ := DRs.get (i := i) t (by simpa using q)
    exact ⟨u, by simpa using a, b⟩
theorem DRs.getV : ∀ {v : List V} {d : List D} {i : Nat} {u : V}, DRs K Z v d → v[i]? = some u → ∃ e, d[i]? = some e ∧ DR K Z u e
  | _, _, _, _, .nil, h => by simp at h
  | _, _, 0, _, .cons h t, q => by simp at q; subst q; exact ⟨_, rfl, h⟩
  | _, _, i + 1, _, .cons h t, q => by
    obtain ⟨u, a, b⟩ := DRs.getV (i := i) t (by simpa using q)
    exact ⟨u, by simpa using a, b⟩
theorem DRs.append : ∀ {v w : List V} {d e : List D}, DRs K Z v d → DRs K Z w e → DRs K Z (v ++ w) (d ++ e)
  | _, _, _, _, .nil, s => s
  | _, _, _, _, .cons h t, s => .cons h (t.append s)
theorem DRs.take : ∀ {v : List V} {d : List D} (n : Nat), DRs K Z v d → DRs K Z (v.take n) (d.take n)
  | _, _, 0, _ => .nil
  | _, _, _ + 1, .nil => .nil
  | _, _, n + 1, .cons h t => .cons h (t.take n)
theorem DRs.drop : ∀ {v : List V} {d : List D} (n : Nat), DRs K Z v d → DRs K Z (v.drop n) (d.drop n)
  | _, _, 0, s => s
  | _, _, _ + 1, .nil => .nil
  | _, _, n + 1, .cons h t => t.drop n
theorem DRs.set : ∀ {v : List V} {d : List D} {u : V} {e : D} (n : Nat), DRs K Z v d → DR K Z u e → DRs K Z (v.set n u) (d.set n e)
  | _, _, _, _, _, .nil, _ => .nil
  | _, _, _, _, 0, .cons h t, s => .cons s t
  | _, _, _, _, n + 1, .cons h t, s => .cons h (t.set n s)
theorem DRs.eraseIdx : ∀ {v : List V} {d : List D} (n : Nat), DRs K Z v d → DRs K Z (v.eraseIdx n) (d.eraseIdx n)
  | _, _, _, .nil => .nil
  | _, _, 0, .cons h t => t
  | _, _, n + 1, .cons h t => .cons h (t.eraseIdx n)
theorem DRs.dropLast {v : List V} {d : List D} (h : DRs K Z v d) : DRs K Z v.dropLast d.dropLast := by
  rw [List.dropLast_eq_take, List.dropLast_eq_take, h.length]; exact h.take _
theorem DRs.rep {v : List V} {d : List D} (h : DRs K Z v d) : ∀ k : Nat, DRs K Z (List.replicate k v).flatten (List.replicate k d).flatten
  | 0 => .nil
  | k + 1 => by rw [List.replicate_succ, List.flatten_cons, List.replicate_succ, List.flatten_cons]; exact h.append (h.rep k)
theorem DRs.snoc {v : List V} {d : List D} {u : V} {e : D} (h : DRs K Z v d) (q : DR K Z u e) : DRs K Z (v ++ [u]) (d ++ [e]) := h.append (.cons q .nil)
theorem DRs.ints : ∀ (ns : List Int), DRs K Z (ns.map V.int) (ns.map PyData.int)
  | [] => .nil
  | n :: r => .cons (.int n) (DRs.ints r)
theorem DRs.intsI : ∀ {v : List V} {ns : List Int}, DRs K Z v (ns.map PyData.int) → v = ns.map V.int
  | _, [], h => by cases h; rfl
  | _, n :: r, h => by
    cases h with
    | cons a b => cases a; rw [b.intsI]; rfl
theorem DRs.blsI : ∀ {v : List V} {ns : List Bool}, DRs K Z v (ns.map PyData.bool) → v = ns.map V.bl
  | _, [], h => by cases h; rfl
  | _, n :: r, h => by
    cases h with
    | cons a b => cases a; rw [b.blsI]; rfl
theorem DRs.strsI : ∀ {v : List V} {ns : List Str}, DRs K Z v (ns.map PyData.str) → v = ns.map V.str
  | _, [], h => by cases h; rfl
  | _, n :: r, h => by
    cases h with
    | cons a b => cases a; rw [b.strsI]; rfl
end

/-! ### the parts of a state -/
/-- what an expression gives: a datum, or the pen -/
inductive Rv where
  | dat (d : D) | pen
/-- what a slot holds: nothing known; a datum that stays; a list, a list of lists, a dict of the body's own, which nothing else holds; a caught error -/
inductive Sl where
  | no
  | rv (r : Rv)
  | lst (ds : List D)
  | lst2 (dss : List (List D))
  | dk (kvs : List (Key × D))
  | dt (kvs : List (List Key × D))
  | exc (a dd : Addr) (fs : List (Str × D))
/-- the slots; how many draws at most were made -/
structure Ga where
  s : List Sl
  c : Nat
abbrev Ga.set (Γ : Ga) (i : Nat) (x : Sl) : Ga := ⟨Γ.s.set i x, Γ.c⟩
abbrev Ga.at (Γ : Ga) (i : Nat) : Sl := Γ.s.getD i .no
/-- the pen's dict: what its entries are, behind c draws at most -/
def PenI (Z : Hp) (kvs : List (Key × V)) (c : Nat) : Prop := ∃ (a : Addr) (ns : List Int) (i d k f : Int),
  kvs = [(.inr "cells", .ref a), (.inr "at", .int i), (.inr "digits", .int d), (.inr "count", .int k), (.inr "fold", .int f)] ∧ Z a = some (.lst (ns.map V.int)) ∧ 0 ≤ i ∧ 0 ≤ d ∧ 0 ≤ k ∧ k ≤ c ∧ 0 ≤ f ∧ f < 2 ^ 32
theorem PenI.mono {Z Z' : Hp} (s : Sub Z Z') {kvs : List (Key × V)} {c c' : Nat} (hc : c ≤ c') (h : PenI Z kvs c) : PenI Z' kvs c' := by
  obtain ⟨a, ns, i, d, k, f, e, h1, h2, h3, h4, h5, h6⟩ := h
  exact ⟨a, ns, i, d, k, f, e, s _ _ h1, h2, h3, h4, by omega, h6⟩
def PenOk (Z H : Hp) (p : Addr) (c : Nat) : Prop := ∃ kvs, H p = some (.dK kvs) ∧ PenI Z kvs c
theorem PenOk.there {Z H : Hp} {p : Addr} {c : Nat} (h : PenOk Z H p c) : H p ≠ none := by
  obtain ⟨kvs, e, _⟩ := h
  rw [e]; simp
theorem PenOk.mono {Z H Z' H' : Hp} {p : Addr} {c c' : Nat} (h : PenOk Z H p c) (s : Sub Z Z') (hh : ∀ o, H p = some o → H' p = some o) (hc : c ≤ c') : PenOk Z' H' p c' := by
  obtain ⟨kvs, e, q⟩ := h
  exact ⟨kvs, hh _ e, q.mono s hc⟩
/-- what was there when the body began -/
structure Gh where
  PN : Addr → Prop
  Z0 : Hp
  H0 : Hp
  Zb : Hp
abbrev Ow := Addr → Option Nat
def RvR (K : Fg) (PN : Addr → Prop) (Z : Hp) : Rv → V → Prop
  | .dat d, v => DR K Z v d
  | .pen, v => ∃ p, v = .ref p ∧ PN p
inductive RvRs (K : Fg) (PN : Addr → Prop) (Z : Hp) : List Rv → List V → Prop where
  | nil : RvRs K PN Z [] []
  | cons {r : Rv} {rs : List Rv} {v : V} {vs : List V} : RvR K PN Z r v → RvRs K PN Z rs vs → RvRs K PN Z (r :: rs) (v :: vs)
theorem RvR.mono {K : Fg} {PN : Addr → Prop} {Z Z' : Hp} (s : Sub Z Z') {r : Rv} {v : V} (h : RvR K PN Z r v) : RvR K PN Z' r v := by
  cases r with
  | dat d => exact DR.mono s h
  | pen => exact h
theorem RvRs.mono {K : Fg} {PN : Addr → Prop} {Z Z' : Hp} (s : Sub Z Z') : ∀ {r : List Rv} {v : List V}, RvRs K PN Z r v → RvRs K PN Z' r v
  | _, _, .nil => .nil
  | _, _, .cons h t => .cons (h.mono s) (t.mono s)
theorem RvRs.length {K : Fg} {PN : Addr → Prop} {Z : Hp} : ∀ {r : List Rv} {v : List V}, RvRs K PN Z r v → r.length = v.length
  | _, _, .nil => rfl
  | _, _, .cons _ t => by rw [List.length_cons, List.length_cons, t.length]

/-- an owned list of owned lists -/
inductive L2R (K : Fg) (Z : Hp) (O : Ow) (H : Hp) (i : Nat) : List V → List (List D) → Prop where
  | nil : L2R K Z O H i [] []
  | cons {a : Addr} {vs rest : List V} {ds : List D} {dss : List (List D)} : O a = some i → H a = some (.lst vs) → DRs K Z vs ds → V.ref a ∉ rest → L2R K Z O H i rest dss → L2R K Z O H i (V.ref a :: rest) (ds :: dss)
/-- the fields of an error -/
inductive FsR (K : Fg) (Z : Hp) : List (Str × V) → List (Str × D) → Prop where
  | nil : FsR K Z [] []
  | cons {n : Str} {v : V} {vs : List (Str × V)} {d : D} {ds : List (Str × D)} : DR K Z v d → FsR K Z vs ds → FsR K Z ((n, v) :: vs) ((n, d) :: ds)
theorem FsR.mono {K : Fg} {Z Z' : Hp} (s : Sub Z Z') : ∀ {v : List (Str × V)} {d : List (Str × D)}, FsR K Z v d → FsR K Z' v d
  | _, _, .nil => .nil
  | _, _, .cons h t => .cons (h.mono s) (t.mono s)

def dkR (K : Fg) (Z : Hp) (kvs : List (Key × V)) (ds : List (Key × D)) : Prop := Paired (fun (p : Key × V) (q : Key × D) => p.1 = q.1 ∧ DR K Z p.2 q.2) kvs ds
def dtR (K : Fg) (Z : Hp) (kvs : List TKey) (ds : List (List Key × D)) : Prop := Paired (fun (p : TKey) (q : List Key × D) => p.1 = q.1 ∧ SqT K Z p.2.1 (p.1.map kV) ∧ DR K Z p.2.2 q.2) kvs ds
theorem dkR.mono {K : Fg} {Z Z' : Hp} (s : Sub Z Z') {a : List (Key × V)} {b : List (Key × D)} (h : dkR K Z a b) : dkR K Z' a b := Paired.mapP h fun _ _ q => ⟨q.1, q.2.mono s⟩
theorem dtR.mono {K : Fg} {Z Z' : Hp} (s : Sub Z Z') {a : List TKey} {b : List (List Key × D)} (h : dtR K Z a b) : dtR K Z' a b := Paired.mapP h fun _ _ q => ⟨q.1, s.sqT q.2.1, q.2.2.mono s⟩
theorem dkR.drk {K : Fg} {Z : Hp} : ∀ {a : List (Key × V)} {b : List (Key × D)}, dkR K Z a b → DRk K Z a (b.map fun p => (keyD p.1, p.2))
  | _, _, .nil => .nil
  | (_, _) :: _, (_, _) :: _, .cons ⟨h1, h2⟩ t => by cases h1; exact .cons h2 (dkR.drk t)
theorem dtR.drt {K : Fg} {Z : Hp} : ∀ {a : List TKey} {b : List (List Key × D)}, dtR K Z a b → DRt K Z a (b.map fun p => (tupD p.1, p.2))
  | _, _, .nil => .nil
  | (_, _, _) :: _, (_, _) :: _, .cons ⟨h1, h2, h3⟩ t => by cases h1; exact .cons h2 h3 (dtR.drt t)

def SlR (K : Fg) (G : Gh) (Z : Hp) (O : Ow) (H : Hp) (i : Nat) : Sl → Option V → Prop
  | .no, _ => True
  | .rv r, v => ∃ u, v = some u ∧ RvR K G.PN Z r u
  | .lst ds, v => ∃ a vs, v = some (.ref a) ∧ O a = some i ∧ H a = some (.lst vs) ∧ DRs K Z vs ds
  | .lst2 dss, v => ∃ a vs, v = some (.ref a) ∧ O a = some i ∧ H a = some (.lst vs) ∧ V.ref a ∉ vs ∧ L2R K Z O H i vs dss
  | .dk kvs, v => ∃ a vs, v = some (.ref a) ∧ O a = some i ∧ H a = some (.dK vs) ∧ dkR K Z vs kvs
  | .dt kvs, v => ∃ a vs, v = some (.ref a) ∧ O a = some i ∧ H a = some (dXo a vs) ∧ dtR K Z vs kvs
  | .exc a dd fs, v => ∃ fv, v = some (.ref a) ∧ Z dd = some (.xd fv) ∧ FsR K Z fv fs

structure Rel (K : Fg) (G : Gh) (Γ : Ga) (Z : Hp) (O : Ow) (σ : L2.St) (H : Hp) : Prop where
  len : Γ.s.length = σ.length
  sub : Sub Z H
  pen : ∀ p, G.PN p → PenOk Z H p Γ.c ∧ Z p = none ∧ O p = none ∧ G.H0 p ≠ none
  own : ∀ a i, O a = some i → Z a = none ∧ G.H0 a = none ∧ H a ≠ none
  sl : ∀ i, SlR K G Z O H i (Γ.at i) (σ.getD i none)
  fH : ∀ a o, G.H0 a = some o → ¬ G.PN a → H a = some o
  fZ : Sub G.Z0 Z
  fB : Sub G.Zb Z
  fN : ∀ a, Z a ≠ none → G.Z0 a ≠ none ∨ G.H0 a = none

/-- what an expression leaves as it was -/
structure Step (PN : Addr → Prop) (Z : Hp) (O : Ow) (H : Hp) (Z' : Hp) (O' : Ow) (H' : Hp) : Prop where
  hH : ∀ a o, H a = some o → ¬ PN a → H' a = some o
  hN : ∀ a, H' a = none → H a = none
  zZ : Sub Z Z'
  zN : ∀ a, Z' a ≠ none → Z a ≠ none ∨ H a = none ∨ O a ≠ none
  oO : ∀ a i, O' a = some i → O a = some i
theorem Step.refl {PN : Addr → Prop} {Z H : Hp} {O : Ow} : Step PN Z O H Z O H := ⟨fun _ _ h _ => h, fun _ h => h, Sub.refl, fun _ h => .inl h, fun _ _ h => h⟩
theorem Step.trans {PN : Addr → Prop} {Z H Z1 H1 Z2 H2 : Hp} {O O1 O2 : Ow} (a : Step PN Z O H Z1 O1 H1) (b : Step PN Z1 O1 H1 Z2 O2 H2) : Step PN Z O H Z2 O2 H2 :=
  ⟨fun c o h n => b.hH c o (a.hH c o h n) n, fun c h => a.hN c (b.hN c h), a.zZ.trans b.zZ, fun c h => by
    rcases b.zN c h with h | h | h
    · exact a.zN c h
    · exact .inr (.inl (a.hN c h))
    · cases e : O1 c with
      | none => exact absurd e h
      | some i => exact .inr (.inr (by rw [a.oO c i e]; simp)), fun c i h => a.oO c i (b.oO c i h)⟩

/-- what a built-in that changes nothing may do: new objects -/
structure Grow (Z H Z' H' : Hp) : Prop where
  hh : Sub H H'
  zz : Sub Z Z'
  zh : Sub Z' H'
  zn : ∀ a, Z' a ≠ none → Z a ≠ none ∨ H a = none
theorem Grow.refl {Z H : Hp} (s : Sub Z H) : Grow Z H Z H := ⟨Sub.refl, Sub.refl, s, fun _ h => .inl h⟩
/-- a new object, laid into Z too -/
theorem Grow.new {Z H : Hp} (s : Sub Z H) {p : Addr} {o : HO} (h : H p = none) : Grow Z H (upd Z p o) (upd H p o) := by
  have hz : Z p = none := by
    cases e : Z p with
    | none => rfl
    | some u => rw [s _ _ e] at h; cases h
  refine ⟨Sub.upd h, Sub.upd hz, fun a u e => ?_, fun a e => ?_⟩
  · by_cases q : a = p
    · subst q; rw [upd_same] at e ⊢; exact e
    · rw [upd_ne q] at e ⊢; exact s _ _ e
  · by_cases q : a = p
    · subst q; exact .inr h
    · rw [upd_ne q] at e; exact .inl e
/-- .. not laid into Z -/
theorem Grow.new' {Z H : Hp} (s : Sub Z H) {p : Addr} {o : HO} (h : H p = none) : Grow Z H Z (upd H p o) :=
  ⟨Sub.upd h, Sub.refl, s.trans (Sub.upd h), fun a e => .inl e⟩
theorem Sub.free {Z H : Hp} (s : Sub Z H) {p : Addr} (h : H p = none) : Z p = none := by
  cases e : Z p with
  | none => rfl
  | some u => rw [s _ _ e] at h; cases h
theorem Grow.trans {Z H Z1 H1 Z2 H2 : Hp} (a : Grow Z H Z1 H1) (b : Grow Z1 H1 Z2 H2) : Grow Z H Z2 H2 :=
  ⟨a.hh.trans b.hh, a.zz.trans b.zz, b.zh, fun c h => by
    rcases b.zn c h with h | h
    · exact a.zn c h
    · exact .inr (a.hh.free h)⟩
theorem Grow.step {PN : Addr → Prop} {Z H Z' H' : Hp} {O : Ow} (g : Grow Z H Z' H') : Step PN Z O H Z' O H' :=
  ⟨fun c o h _ => g.hh c o h, fun c h => g.hh.free h, g.zz, fun c h => (g.zn c h).elim .inl fun h => .inr (.inl h), fun _ _ h => h⟩

section
variable {K : Fg} {G : Gh} {Γ Γ' : Ga} {Z Z' H H' : Hp} {O O' : Ow} {σ : L2.St}
theorem L2R.mono {i : Nat} (s : Sub Z Z') (hh : ∀ a o, O a = some i → H a = some o → H' a = some o) : ∀ {vs : List V} {dss : List (List D)}, L2R K Z O H i vs dss → L2R K Z' O H' i vs dss
  | _, _, .nil => .nil
  | _, _, .cons h1 h2 h3 h4 h5 => .cons h1 (hh _ _ h1 h2) (h3.mono s) h4 (h5.mono s hh)
theorem SlR.mono {i : Nat} (s : Sub Z Z') (hh : ∀ a o, O a = some i → H a = some o → H' a = some o) {x : Sl} {v : Option V} (h : SlR K G Z O H i x v) : SlR K G Z' O H' i x v := by
  cases x with
  | no => trivial
  | rv r => obtain ⟨u, e, q⟩ := h; exact ⟨u, e, q.mono s⟩
  | lst ds => obtain ⟨a, vs, e, o, q, r⟩ := h; exact ⟨a, vs, e, o, hh _ _ o q, r.mono s⟩
  | lst2 dss => obtain ⟨a, vs, e, o, q, n, r⟩ := h; exact ⟨a, vs, e, o, hh _ _ o q, n, r.mono s hh⟩
  | dk kvs => obtain ⟨a, vs, e, o, q, r⟩ := h; exact ⟨a, vs, e, o, hh _ _ o q, r.mono s⟩
  | dt kvs => obtain ⟨a, vs, e, o, q, r⟩ := h; exact ⟨a, vs, e, o, hh _ _ o q, r.mono s⟩
  | exc a dd fs => obtain ⟨fv, e, q, r⟩ := h; exact ⟨fv, e, s _ _ q, r.mono s⟩
theorem Rel.H0free (R : Rel K G Γ Z O σ H) {a : Addr} (h : H a = none) : G.H0 a = none := by
  cases e : G.H0 a with
  | none => rfl
  | some o =>
    by_cases p : G.PN a
    · exact absurd h (R.pen a p).1.there
    · rw [R.fH a o e p] at h; cases h
theorem Rel.ofree (R : Rel K G Γ Z O σ H) {a : Addr} (h : H a = none) : O a = none := by
  cases e : O a with
  | none => rfl
  | some i => exact absurd h (R.own a i e).2.2
theorem Rel.pfree (R : Rel K G Γ Z O σ H) {a : Addr} (h : H a = none) : ¬ G.PN a := fun p => by
  exact (R.pen a p).1.there h
theorem Rel.grow (R : Rel K G Γ Z O σ H) (g : Grow Z H Z' H') : Rel K G Γ Z' O σ H' where
  len := R.len
  sub := g.zh
  pen := fun p hp => by
    obtain ⟨h1, h4, h5, h6⟩ := R.pen p hp
    refine ⟨h1.mono g.zz (fun o e => g.hh _ _ e) (Nat.le_refl _), ?_, h5, h6⟩
    cases e : Z' p with
    | none => rfl
    | some o =>
      rcases g.zn p (by rw [e]; simp) with q | q
      · exact absurd h4 q
      · exact absurd q h1.there
  own := fun a i h => by
    obtain ⟨h1, h2, h3⟩ := R.own a i h
    refine ⟨?_, h2, fun e => h3 (g.hh.free e)⟩
    cases e : Z' a with
    | none => rfl
    | some o =>
      rcases g.zn a (by rw [e]; simp) with q | q
      · exact absurd h1 q
      · exact absurd q h3
  sl := fun i => (R.sl i).mono g.zz fun a o _ h => g.hh a o h
  fH := fun a o h n => g.hh _ _ (R.fH a o h n)
  fZ := R.fZ.trans g.zz
  fB := R.fB.trans g.zz
  fN := fun a h => by
    rcases g.zn a h with q | q
    · exact R.fN a q
    · exact .inr (R.H0free q)
theorem Rel.zfree (R : Rel K G Γ Z O σ H) {a : Addr} (h : G.PN a) : Z a = none := (R.pen a h).2.1
end

/-- the value v reads as d now; its own object may be one of the body's -/
inductive BR (K : Fg) (PN : Addr → Prop) (Z H : Hp) : V → D → Prop where
  | z {v : V} {d : D} : DR K Z v d → BR K PN Z H v d
  | l {a : Addr} {vs : List V} {ds : List D} : ¬ PN a → H a = some (.lst vs) → DRs K Z vs ds → BR K PN Z H (.ref a) (.list ds)
  | dk {a : Addr} {vs : List (Key × V)} {ds : List (D × D)} : ¬ PN a → H a = some (.dK vs) → DRk K Z vs ds → BR K PN Z H (.ref a) (.dict ds)
  | dt {a : Addr} {vs : List TKey} {ds : List (D × D)} : ¬ PN a → H a = some (dXo a vs) → DRt K Z vs ds → BR K PN Z H (.ref a) (.dict ds)
inductive BRs (K : Fg) (PN : Addr → Prop) (Z H : Hp) : List V → List D → Prop where
  | nil : BRs K PN Z H [] []
  | cons {v : V} {vs : List V} {d : D} {ds : List D} : BR K PN Z H v d → BRs K PN Z H vs ds → BRs K PN Z H (v :: vs) (d :: ds)
section
variable {K : Fg} {PN : Addr → Prop} {Z H Z' H' : Hp}
theorem BR.grow (z : Sub Z Z') (h : ∀ a o, H a = some o → ¬ PN a → H' a = some o) {v : V} {d : D} (b : BR K PN Z H v d) : BR K PN Z' H' v d := by
  cases b with
  | z b => exact .z (b.mono z)
  | l n a b => exact .l n (h _ _ a n) (b.mono z)
  | dk n a b => exact .dk n (h _ _ a n) (b.mono z)
  | dt n a b => exact .dt n (h _ _ a n) (b.mono z)
theorem BRs.grow (z : Sub Z Z') (h : ∀ a o, H a = some o → ¬ PN a → H' a = some o) : ∀ {v : List V} {d : List D}, BRs K PN Z H v d → BRs K PN Z' H' v d
  | _, _, .nil => .nil
  | _, _, .cons a b => .cons (a.grow z h) (b.grow z h)
theorem BRs.length : ∀ {v : List V} {d : List D}, BRs K PN Z H v d → v.length = d.length
  | _, _, .nil => rfl
  | _, _, .cons _ t => by rw [List.length_cons, List.length_cons, t.length]
theorem BR.listI (s : Sub Z H) {v : V} {ds : List D} (b : BR K PN Z H v (.list ds)) : ∃ a vs, v = .ref a ∧ H a = some (.lst vs) ∧ DRs K Z vs ds := by
  cases b with
  | z b => cases b with | lst h t => exact ⟨_, _, rfl, s _ _ h, t⟩
  | l _ h t => exact ⟨_, _, rfl, h, t⟩
theorem BR.tupI (s : Sub Z H) {v : V} {ds : List D} (b : BR K PN Z H v (.tuple ds)) : ∃ a vs, v = .ref a ∧ SqT K H a vs ∧ SqT K Z a vs ∧ DRs K Z vs ds := by
  cases b with
  | z b => cases b with | tup h t => exact ⟨_, _, rfl, s.sqT h, h, t⟩
theorem BR.intI {v : V} {i : Int} (b : BR K PN Z H v (.int i)) : v = .int i := by cases b with | z b => cases b; rfl
theorem BR.boolI {v : V} {i : Bool} (b : BR K PN Z H v (.bool i)) : v = .bl i := by cases b with | z b => cases b; rfl
theorem BR.strI {v : V} {i : Str} (b : BR K PN Z H v (.str i)) : v = .str i := by cases b with | z b => cases b; rfl
theorem BR.noneI {v : V} (b : BR K PN Z H v .none) : v = .non := by cases b with | z b => cases b; rfl
mutual
def nodict : D → Bool
  | .list ds => nodicts ds
  | .tuple ds => nodicts ds
  | .dict _ => false
  | .none => true
  | .bool _ => true
  | .int _ => true
  | .str _ => true
def nodicts : List D → Bool
  | [] => true
  | d :: ds => nodict d && nodicts ds
end
mutual
theorem DR.dp (s : Sub Z H) : ∀ {v : V} {d : D}, DR K Z v d → nodict d = true → Dp K H v d
  | _, _, .non, _ => .non
  | _, _, .bl b, _ => .bl b
  | _, _, .int b, _ => .int b
  | _, _, .str b, _ => .str b
  | _, _, .lst h t, n => .lst (SqL.of (s _ _ h)) (DRs.dp s t (by simpa [nodict] using n))
  | _, _, .tup h t, n => .tup (s.sqT h) (DRs.dp s t (by simpa [nodict] using n))
  | _, _, .dk h t, n => by simp [nodict] at n
  | _, _, .dt h t, n => by simp [nodict] at n
theorem DRs.dp (s : Sub Z H) : ∀ {v : List V} {d : List D}, DRs K Z v d → nodicts d = true → DpAll K H v d
  | _, _, .nil, _ => .nil
  | _, _, .cons h t, n => by
    simp only [nodicts, Bool.and_eq_true] at n
    exact .cons (DR.dp s h n.1) (DRs.dp s t n.2)
end
theorem BR.dp (s : Sub Z H) {v : V} {d : D} (b : BR K PN Z H v d) (n : nodict d = true) : Dp K H v d := by
  cases b with
  | z b => exact b.dp s n
  | l _ a b => exact .lst (SqL.of a) (b.dp s (by simpa [nodict] using n))
  | dk _ a b => simp [nodict] at n
  | dt _ a b => simp [nodict] at n
end
end VL
namespace VL
open PySem PySem.Spec PyProof.Rows L2

/-! ### readings over data -/
abbrev WE (ρ : Type) := Ga → (ρ → Ga → Prop) → Prop
/-- what an expression's result is: a value that stays, or a new object that nothing holds -/
inductive Rz where
  | v (r : Rv)
  | ls (ds : List D)
  | ls2 (dss : List (List D))
  | dk (kvs : List (Key × D))
  | dt (kvs : List (List Key × D))
def lift {ρ υ : Type} (K : Fg) (G : Gh) (RR : Hp → Hp → Ow → Hp → ρ → υ → Prop) (w : WE ρ) : L2.St → Hp → (υ → Hp → Prop) → Prop := fun σ H Q =>
  ∃ (Γ : Ga) (Z : Hp) (O : Ow) (P : ρ → Ga → Prop), Rel K G Γ Z O σ H ∧ w Γ P ∧ ∀ r Γ' v Z' O' H', P r Γ' → Rel K G Γ' Z' O' σ H' → Step G.PN Z O H Z' O' H' → RR H Z' O' H' r v → Q v H'
def Fresh (G : Gh) (Hs Z : Hp) (O : Ow) (a : Addr) : Prop := Hs a = none ∧ Z a = none ∧ O a = none
def RzR (K : Fg) (G : Gh) (Hs Z : Hp) (O : Ow) (H : Hp) : Rz → V → Prop
  | .v r, v => RvR K G.PN Z r v
  | .ls ds, v => ∃ a vs, v = .ref a ∧ Fresh G Hs Z O a ∧ H a = some (.lst vs) ∧ DRs K Z vs ds
  | .ls2 dss, v => False
  | .dk kvs, v => ∃ a vs, v = .ref a ∧ Fresh G Hs Z O a ∧ H a = some (.dK vs) ∧ dkR K Z vs kvs
  | .dt kvs, v => ∃ a vs, v = .ref a ∧ Fresh G Hs Z O a ∧ H a = some (dXo a vs) ∧ dtR K Z vs kvs
def AE (X : Cx) (G : Gh) (e : Expr) (w : WE Rv) : Prop := PE X e (lift X.K G (fun _ Z _ _ r v => RvR X.K G.PN Z r v) w)
def AB (X : Cx) (G : Gh) (e : Expr) (w : WE D) : Prop := PE X e (lift X.K G (fun _ Z _ H d v => BR X.K G.PN Z H v d) w)
def AZ (X : Cx) (G : Gh) (e : Expr) (w : WE Rz) : Prop := PE X e (lift X.K G (RzR X.K G) w)
def AT (X : Cx) (G : Gh) (e : Expr) (w : WE Bool) : Prop := PT X e (lift X.K G (fun _ _ _ _ (a b : Bool) => a = b) w)
def AW (X : Cx) (G : Gh) (e : Expr) (w : WE Bool) : Prop := PW X e (lift X.K G (fun _ _ _ _ (a b : Bool) => a = b) w)
def AA (X : Cx) (G : Gh) (es : List Expr) (w : WE (List Rv)) : Prop := PA X es (lift X.K G (fun _ Z _ _ rs (vs : List V) => RvRs X.K G.PN Z rs vs ∧ vs.length = es.length) w)
def ABs (X : Cx) (G : Gh) (es : List Expr) (w : WE (List D)) : Prop := PA X es (lift X.K G (fun _ Z _ H ds (vs : List V) => BRs X.K G.PN Z H vs ds) w)
section
variable {X : Cx} {G : Gh} {e a b c : Expr} {es rest : List Expr}
theorem PEi {t t' : TE} (h : PE X e t) (i : ∀ σ H Q, t' σ H Q → t σ H Q) : PE X e t' := ⟨fun pins s σ H Q I q => h.run pins s σ H Q I (i σ H Q q)⟩
theorem PTi {t t' : TT} (h : PT X e t) (i : ∀ σ H Q, t' σ H Q → t σ H Q) : PT X e t' := ⟨fun pins s σ H Q I q => h.run pins s σ H Q I (i σ H Q q)⟩
theorem PWi {t t' : TT} (h : PW X e t) (i : ∀ σ H Q, t' σ H Q → t σ H Q) : PW X e t' := ⟨fun wh pins s σ H Q I q => h.run wh pins s σ H Q I (i σ H Q q)⟩
theorem PAi {t t' : TA} (h : PA X es t) (i : ∀ σ H Q, t' σ H Q → t σ H Q) : PA X es t' := ⟨fun p pins s σ H Q I q => h.run p pins s σ H Q I (i σ H Q q)⟩
theorem PSi {st : Stmt} {t t' : TS} (h : PS X st t) (i : ∀ D σ H, t' D σ H → t D σ H) : PS X st t' := ⟨fun pins s σ H D I q => h.run pins s σ H D I (i D σ H q)⟩
theorem PSsi {st : List Stmt} {t t' : TS} (h : PSs X st t) (i : ∀ D σ H, t' D σ H → t D σ H) : PSs X st t' := ⟨fun pins s σ H D I q => h.run pins s σ H D I (i D σ H q)⟩
end

/-! ### changes of a state -/
section
variable {K : Fg} {G : Gh} {Γ : Ga} {Z H : Hp} {O : Ow} {σ : L2.St}
/-- a new object is laid into Z for good -/
theorem Rel.frz (R : Rel K G Γ Z O σ H) {a : Addr} {o : HO} (h : H a = some o) (hz : Z a = none) (ho : O a = none) (h0 : G.H0 a = none) : Rel K G Γ (upd Z a o) O σ H where
  len := R.len
  sub := fun b u e => by
    by_cases q : b = a
    · subst q; rw [upd_same] at e; rw [← e]; exact h
    · rw [upd_ne q] at e; exact R.sub _ _ e
  pen := fun p hp => by
    obtain ⟨h1, h4, h5, h6⟩ := R.pen p hp
    refine ⟨h1.mono (Sub.upd hz) (fun o e => e) (Nat.le_refl _), ?_, h5, h6⟩
    rw [upd_ne]
    · exact h4
    · rintro rfl; exact h6 h0
  own := fun b i e => by
    obtain ⟨h1, h2, h3⟩ := R.own b i e
    refine ⟨?_, h2, h3⟩
    rw [upd_ne]
    · exact h1
    · rintro rfl; rw [ho] at e; cases e
  sl := fun i => (R.sl i).mono (Sub.upd hz) fun _ _ _ h => h
  fH := R.fH
  fZ := R.fZ.trans (Sub.upd hz)
  fB := R.fB.trans (Sub.upd hz)
  fN := fun b e => by
    by_cases q : b = a
    · subst q; exact .inr h0
    · rw [upd_ne q] at e; exact R.fN b e
def dropO (O : Ow) (i : Nat) : Ow := fun a => if O a = some i then none else O a
theorem dropO_some {O : Ow} {i j : Nat} {a : Addr} (h : dropO O i a = some j) : O a = some j ∧ j ≠ i := by
  unfold dropO at h
  split at h
  · cases h
  · rename_i n; exact ⟨h, fun e => n (e ▸ h)⟩
theorem dropO_keep {O : Ow} {i j : Nat} {a : Addr} (h : O a = some j) (n : j ≠ i) : dropO O i a = some j := by
  unfold dropO; rw [if_neg]
  · exact h
  · rw [h]; intro q; exact n (Option.some.inj q)
theorem L2R.own {O' : Ow} {i : Nat} (k : ∀ a, O a = some i → O' a = some i) : ∀ {vs : List V} {dss : List (List D)}, L2R K Z O H i vs dss → L2R K Z O' H i vs dss
  | _, _, .nil => .nil
  | _, _, .cons h1 h2 h3 h4 h5 => .cons (k _ h1) h2 h3 h4 (h5.own k)
theorem SlR.own {O' : Ow} {i : Nat} (k : ∀ a, O a = some i → O' a = some i) {x : Sl} {v : Option V} (h : SlR K G Z O H i x v) : SlR K G Z O' H i x v := by
  cases x with
  | no => trivial
  | rv r => exact h
  | lst ds => obtain ⟨a, vs, e, o, q, r⟩ := h; exact ⟨a, vs, e, k _ o, q, r⟩
  | lst2 dss => obtain ⟨a, vs, e, o, q, n, r⟩ := h; exact ⟨a, vs, e, k _ o, q, n, r.own k⟩
  | dk kvs => obtain ⟨a, vs, e, o, q, r⟩ := h; exact ⟨a, vs, e, k _ o, q, r⟩
  | dt kvs => obtain ⟨a, vs, e, o, q, r⟩ := h; exact ⟨a, vs, e, k _ o, q, r⟩
  | exc a dd fs => exact h
theorem Ga.at_set {i j : Nat} {x : Sl} (h : j ≠ i) : (Γ.set i x).at j = Γ.at j := by
  show (Γ.s.set i x).getD j .no = Γ.s.getD j .no
  rw [List.getD_eq_getElem?_getD, List.getD_eq_getElem?_getD, List.getElem?_set_ne (Ne.symm h)]
theorem Ga.at_same {i : Nat} {x : Sl} (h : i < Γ.s.length) : (Γ.set i x).at i = x := by
  show (Γ.s.set i x).getD i .no = x
  rw [List.getD_eq_getElem?_getD, List.getElem?_set_self h]; rfl
theorem st_set {i j : Nat} {x : Option V} (h : j ≠ i) : (σ.set i x).getD j none = σ.getD j none := by
  rw [List.getD_eq_getElem?_getD, List.getD_eq_getElem?_getD, List.getElem?_set_ne (Ne.symm h)]
theorem st_same {i : Nat} {x : Option V} (h : i < σ.length) : (σ.set i x).getD i none = x := by
  rw [List.getD_eq_getElem?_getD, List.getElem?_set_self h]; rfl
/-- slot i is set to what nothing of the body owns -/
theorem Rel.setNo (R : Rel K G Γ Z O σ H) (i : Nat) {x : Sl} {v : Option V} (hx : ∀ O', SlR K G Z O' H i x v) : Rel K G (Γ.set i x) Z (dropO O i) (σ.set i v) H where
  len := by show (Γ.s.set i x).length = _; rw [List.length_set, List.length_set]; exact R.len
  sub := R.sub
  pen := fun p hp => by
    obtain ⟨h1, h2, h3, h4⟩ := R.pen p hp
    exact ⟨h1, h2, by unfold dropO; split <;> first | rfl | exact h3, h4⟩
  own := fun a j h => R.own a j (dropO_some h).1
  sl := fun j => by
    by_cases q : j = i
    · subst q
      by_cases hl : j < Γ.s.length
      · rw [Ga.at_same hl, st_same (by rw [← R.len]; exact hl)]; exact hx _
      · have : (Γ.set j x).at j = .no := by
          show (Γ.s.set j x).getD j .no = .no
          rw [List.getD_eq_getElem?_getD, List.getElem?_eq_none (by rw [List.length_set]; omega)]; rfl
        rw [this]; trivial
    · rw [Ga.at_set q, st_set q]
      exact (R.sl j).own fun a h => dropO_keep h q
  fH := R.fH
  fZ := R.fZ
  fB := R.fB
  fN := R.fN
theorem Rel.setRv (R : Rel K G Γ Z O σ H) (i : Nat) {r : Rv} {v : V} (h : RvR K G.PN Z r v) : Rel K G (Γ.set i (.rv r)) Z (dropO O i) (σ.set i (some v)) H := R.setNo i fun _ => ⟨v, rfl, h⟩
def ownO (O : Ow) (i : Nat) (a : Addr) : Ow := fun b => if b = a then some i else dropO O i b
theorem ownO_self {O : Ow} {i : Nat} {a : Addr} : ownO O i a a = some i := if_pos rfl
theorem ownO_keep {O : Ow} {i j : Nat} {a b : Addr} (h : O b = some j) (n : j ≠ i) (ha : O a = none) : ownO O i a b = some j := by
  unfold ownO; rw [if_neg]
  · exact dropO_keep h n
  · rintro rfl; rw [ha] at h; cases h
/-- slot i is set to a new object -/
theorem Rel.setOwn (R : Rel K G Γ Z O σ H) (i : Nat) {a : Addr} {x : Sl} (hz : Z a = none) (ho : O a = none) (h0 : G.H0 a = none) (hh : H a ≠ none) (hp : ¬ G.PN a)
    (hx : SlR K G Z (ownO O i a) H i x (some (.ref a))) : Rel K G (Γ.set i x) Z (ownO O i a) (σ.set i (some (.ref a))) H where
  len := by show (Γ.s.set i x).length = _; rw [List.length_set, List.length_set]; exact R.len
  sub := R.sub
  pen := fun p hq => by
    obtain ⟨h1, h2, h3, h4⟩ := R.pen p hq
    refine ⟨h1, h2, ?_, h4⟩
    unfold ownO dropO
    rw [if_neg (by rintro rfl; exact hp hq)]
    split <;> first | rfl | exact h3
  own := fun b j h => by
    unfold ownO at h
    split at h
    · rename_i q; subst q; exact ⟨hz, h0, hh⟩
    · exact R.own b j (dropO_some h).1
  sl := fun j => by
    by_cases q : j = i
    · subst q
      by_cases hl : j < Γ.s.length
      · rw [Ga.at_same hl, st_same (by rw [← R.len]; exact hl)]; exact hx
      · have : (Γ.set j x).at j = .no := by
          show (Γ.s.set j x).getD j .no = .no
          rw [List.getD_eq_getElem?_getD, List.getElem?_eq_none (by rw [List.length_set]; omega)]; rfl
        rw [this]; trivial
    · rw [Ga.at_set q, st_set q]
      exact (R.sl j).own fun b h => ownO_keep h q ho
  fH := R.fH
  fZ := R.fZ
  fB := R.fB
  fN := R.fN
theorem Rel.slAt (R : Rel K G Γ Z O σ H) {i : Nat} {x : Sl} (h : Γ.at i = x) : SlR K G Z O H i x (σ.getD i none) := h ▸ R.sl i
theorem getD_some {i : Nat} {v : V} (h : σ.getD i none = some v) : σ[i]? = some (some v) := by
  rw [List.getD_eq_getElem?_getD] at h
  cases e : σ[i]? with
  | none => rw [e] at h; cases h
  | some u => rw [e] at h; exact congrArg some h
/-- an object of slot i alone is given up, laid into Z -/
theorem Rel.giveUp (R : Rel K G Γ Z O σ H) {i : Nat} {a : Addr} {o : HO} {r : Rv} (ho : O a = some i) (h : H a = some o) (hv : σ.getD i none = some (.ref a)) (hr : RvR K G.PN (upd Z a o) r (.ref a)) :
    Rel K G (Γ.set i (.rv r)) (upd Z a o) (dropO O i) σ H ∧ Step G.PN Z O H (upd Z a o) (dropO O i) H := by
  obtain ⟨hz, h0, hn⟩ := R.own a i ho
  refine ⟨⟨?_, ?_, fun p hp => ?_, fun b j e => ?_, fun j => ?_, R.fH, R.fZ.trans (Sub.upd hz), R.fB.trans (Sub.upd hz), fun b e => ?_⟩, ⟨fun _ _ h _ => h, fun _ h => h, Sub.upd hz, fun b e => ?_, fun b j e => (dropO_some e).1⟩⟩
  · show (Γ.s.set i _).length = _
    rw [List.length_set]; exact R.len
  · intro b u e
    by_cases q : b = a
    · subst q; rw [upd_same] at e; rw [← e]; exact h
    · rw [upd_ne q] at e; exact R.sub _ _ e
  · obtain ⟨h1, h4, h5, h6⟩ := R.pen p hp
    refine ⟨h1.mono (Sub.upd hz) (fun o e => e) (Nat.le_refl _), ?_, by unfold dropO; split <;> first | rfl | exact h5, h6⟩
    rw [upd_ne]
    · exact h4
    · rintro rfl; exact h6 h0
  · obtain ⟨e1, e2⟩ := dropO_some e
    obtain ⟨h1, h2, h3⟩ := R.own b j e1
    refine ⟨?_, h2, h3⟩
    rw [upd_ne]
    · exact h1
    · rintro rfl; rw [ho] at e1; exact e2 (Option.some.inj e1).symm
  · by_cases q : j = i
    · subst q
      by_cases hl : j < Γ.s.length
      · rw [Ga.at_same hl]; exact ⟨_, hv, hr⟩
      · have : (Γ.set j (.rv r)).at j = .no := by
          show (Γ.s.set j _).getD j .no = .no
          rw [List.getD_eq_getElem?_getD, List.getElem?_eq_none (by rw [List.length_set]; omega)]; rfl
        rw [this]; trivial
    · rw [Ga.at_set q]
      exact ((R.sl j).mono (Sub.upd hz) fun _ _ _ h => h).own fun b h => dropO_keep h q
  · by_cases q : b = a
    · subst q; exact .inr h0
    · rw [upd_ne q] at e; exact R.fN b e
  · by_cases q : b = a
    · subst q; exact .inr (.inr (by rw [ho]; simp))
    · rw [upd_ne q] at e; exact .inl e
end

/-! ### names and constants -/
section
variable {X : Cx} {G : Gh} {e a b c : Expr} {es rest : List Expr} {pos : Pos}
def wC (r : Rv) : WE Rv := fun Γ P => P r Γ
theorem ae_of {v : V} {r : Rv} (h : PE X e (tC v)) (hr : ∀ Z, RvR X.K G.PN Z r v) : AE X G e (wC r) :=
  PEi h fun σ H Q ⟨Γ, Z, O, P, R, w, k⟩ => k _ _ _ _ _ _ w R Step.refl (hr Z)
theorem ae_int {i : Int} {j} : AE X G (.Constant (.int i) j pos) (wC (.dat (.int i))) := ae_of pe_int fun _ => .int i
theorem ae_bl {i : Bool} {j} : AE X G (.Constant (.bool i) j pos) (wC (.dat (.bool i))) := ae_of pe_bl fun _ => .bl i
theorem ae_non {j} : AE X G (.Constant .none j pos) (wC (.dat .none)) := ae_of pe_non fun _ => .non
theorem ae_str {i : Str} {j} : AE X G (.Constant (.str i) j pos) (wC (.dat (.str i))) := ae_of pe_str fun _ => .str i
/-- a constant of the module -/
theorem ae_glob {x : Str} {v : V} {u : Value} {d : D} (hg : Gl X x) (hm : X.mg x = some u) (r : RelV v u) (hd : ∀ Z, DR X.K Z v d) (hq : (x == ("__debug__" : Str)) = false := by decide) : AE X G (.Name x pos) (wC (.dat d)) :=
  ae_of (pe_glob hg hm r hq) hd
def wName (i : Nat) : WE Rv := fun Γ P => match Γ.at i with
  | .rv r => P r Γ
  | .lst ds => P (.dat (.list ds)) (Γ.set i (.rv (.dat (.list ds))))
  | _ => False
theorem ae_name (i : Nat) {x : Str} (hN : X.N[i]? = some x := by rfl) (hv : Vis X.env.scope x := by first | exact Or.inl rfl | exact Or.inr (Or.inl rfl) | exact Or.inr (Or.inr rfl)) (hd : (x == ("__debug__" : Str)) = false := by decide)
    (hcd : (x == ("__classdict__" : Str)) = false := by decide) : AE X G (.Name x pos) (wName i) := by
  refine PEi (pe_var hN hv hd hcd) fun σ H Q ⟨Γ, Z, O, P, R, w, k⟩ => ?_
  unfold wName at w
  cases e : Γ.at i with
  | no => rw [e] at w; exact w.elim
  | exc _ _ _ => rw [e] at w; exact w.elim
  | lst2 _ => rw [e] at w; exact w.elim
  | dk _ => rw [e] at w; exact w.elim
  | dt _ => rw [e] at w; exact w.elim
  | rv r =>
    rw [e] at w
    obtain ⟨u, h1, h2⟩ := R.slAt e
    exact ⟨u, getD_some h1, k _ _ _ _ _ _ w R Step.refl h2⟩
  | lst ds =>
    rw [e] at w
    obtain ⟨p, vs, h1, h2, h3, h4⟩ := R.slAt e
    have hz := (R.own p i h2).1
    have hr : RvR X.K G.PN (upd Z p (.lst vs)) (.dat (.list ds)) (.ref p) := .lst upd_same (h4.mono (Sub.upd hz))
    obtain ⟨R', S'⟩ := R.giveUp h2 h3 h1 hr
    exact ⟨_, getD_some h1, k _ _ _ _ _ _ w R' S' hr⟩
/-- a name that is only looked at -/
def wNameB (i : Nat) : WE D := fun Γ P => match Γ.at i with
  | .rv (.dat d) => P d Γ
  | .lst ds => P (.list ds) Γ
  | .dk kvs => P (.dict (kvs.map fun p => (keyD p.1, p.2))) Γ
  | .dt kvs => P (.dict (kvs.map fun p => (tupD p.1, p.2))) Γ
  | _ => False
theorem Rel.npen {K : Fg} {G : Gh} {Γ : Ga} {Z H : Hp} {O : Ow} {σ : L2.St} (R : Rel K G Γ Z O σ H) {a : Addr} {i : Nat} (h : O a = some i) : ¬ G.PN a := fun hp => by
  have := (R.pen a hp).2.2.1
  rw [this] at h; cases h
theorem ab_name (i : Nat) {x : Str} (hN : X.N[i]? = some x := by rfl) (hv : Vis X.env.scope x := by first | exact Or.inl rfl | exact Or.inr (Or.inl rfl) | exact Or.inr (Or.inr rfl)) (hd : (x == ("__debug__" : Str)) = false := by decide)
    (hcd : (x == ("__classdict__" : Str)) = false := by decide) : AB X G (.Name x pos) (wNameB i) := by
  refine PEi (pe_var hN hv hd hcd) fun σ H Q ⟨Γ, Z, O, P, R, w, k⟩ => ?_
  unfold wNameB at w
  cases e : Γ.at i with
  | no => rw [e] at w; exact w.elim
  | exc _ _ _ => rw [e] at w; exact w.elim
  | lst2 _ => rw [e] at w; exact w.elim
  | rv r =>
    rw [e] at w
    cases r with
    | pen => exact w.elim
    | dat d =>
      obtain ⟨u, h1, h2⟩ := R.slAt e
      exact ⟨u, getD_some h1, k _ _ _ _ _ _ w R Step.refl (.z h2)⟩
  | lst ds =>
    rw [e] at w
    obtain ⟨p, vs, h1, h2, h3, h4⟩ := R.slAt e
    exact ⟨_, getD_some h1, k _ _ _ _ _ _ w R Step.refl (.l (R.npen h2) h3 h4)⟩
  | dk kvs =>
    rw [e] at w
    obtain ⟨p, vs, h1, h2, h3, h4⟩ := R.slAt e
    exact ⟨_, getD_some h1, k _ _ _ _ _ _ w R Step.refl (.dk (R.npen h2) h3 h4.drk)⟩
  | dt kvs =>
    rw [e] at w
    obtain ⟨p, vs, h1, h2, h3, h4⟩ := R.slAt e
    exact ⟨_, getD_some h1, k _ _ _ _ _ _ w R Step.refl (.dt (R.npen h2) h3 h4.drt)⟩

/-! ### from one judgement to another -/
def wDat (w : WE Rv) : WE D := fun Γ P => w Γ fun r Γ' => match r with
  | .dat d => P d Γ'
  | .pen => False
theorem AE.ab {w : WE Rv} (h : AE X G e w) : AB X G e (wDat w) := PEi h fun σ H Q ⟨Γ, Z, O, P, R, q, k⟩ =>
  ⟨Γ, Z, O, _, R, q, fun r Γ' v Z' O' H' p R' S' b => by
    cases r with
    | pen => exact p.elim
    | dat d => exact k d Γ' v Z' O' H' p R' S' (.z b)⟩
def Rz.rv : Rz → Rv
  | .v r => r
  | .ls ds => .dat (.list ds)
  | .ls2 dss => .dat (.list (dss.map .list))
  | .dk kvs => .dat (.dict (kvs.map fun p => (keyD p.1, p.2)))
  | .dt kvs => .dat (.dict (kvs.map fun p => (tupD p.1, p.2)))
def wFrz (w : WE Rz) : WE Rv := fun Γ P => w Γ fun z Γ' => P z.rv Γ'
theorem Step.frz {PN : Addr → Prop} {Z H Z' H' : Hp} {O O' : Ow} {a : Addr} {o : HO} (s : Step PN Z O H Z' O' H') (h : H a = none) (hz : Z' a = none) : Step PN Z O H (upd Z' a o) O' H' :=
  ⟨s.hH, s.hN, s.zZ.trans (Sub.upd hz), fun b e => by
    by_cases q : b = a
    · subst q; exact .inr (.inl h)
    · rw [upd_ne q] at e; exact s.zN b e, s.oO⟩
/-- what stands at d is known to its object from now on -/
def LockQ (Q : VK) : VK := fun v H => Q v H ∨ ∃ d u, H d = some u ∧ Mut (some u) ∧ ∀ od, Q v (upd H d (.frz od u))
theorem pe_frz {t : TE} (h : PE X e t) : PE X e (fun σ H Q => t σ H (LockQ Q)) := ⟨fun pins s σ H Q I q => thn (h.run pins s σ H _ I q) fun v s1 ⟨x, H1, I1, r, q1⟩ => by
  rcases q1 with q1 | ⟨d, u, hd, mu, q1⟩
  · exact ⟨x, H1, I1, r, q1⟩
  · obtain ⟨od, I2⟩ := I1.lock hd mu
    exact ⟨x, _, I2, r, q1 od⟩⟩
theorem Rel.lockNew {K : Fg} {G : Gh} {Γ : Ga} {Z H : Hp} {O : Ow} {σ : L2.St} (R : Rel K G Γ Z O σ H) {a : Addr} {u : HO} (od : Obj) (h : H a = some u) (hz : Z a = none) (ho : O a = none) (h0 : G.H0 a = none) (hp : ¬ G.PN a) : Rel K G Γ (upd Z a (.frz od u)) O σ (upd H a (.frz od u)) where
  len := R.len
  sub := fun b o e => by
    by_cases q : b = a
    · subst q; rw [upd_same] at e ⊢; exact e
    · rw [upd_ne q] at e ⊢; exact R.sub _ _ e
  pen := fun p h => by
    obtain ⟨h1, h4, h5, h6⟩ := R.pen p h
    have ne : p ≠ a := fun q => h6 (by rw [q]; exact h0)
    exact ⟨h1.mono (Sub.upd hz) (fun o e => by rw [upd_ne ne]; exact e) (Nat.le_refl _), by rw [upd_ne ne]; exact h4, h5, h6⟩
  own := fun b i h => by
    obtain ⟨h1, h2, h3⟩ := R.own b i h
    have ne : b ≠ a := fun q => by rw [q, ho] at h; cases h
    exact ⟨by rw [upd_ne ne]; exact h1, h2, by rw [upd_ne ne]; exact h3⟩
  sl := fun i => (R.sl i).mono (Sub.upd hz) fun b o hb e => by rw [upd_ne (fun q => by rw [q, ho] at hb; cases hb)]; exact e
  fH := fun b o e n => by rw [upd_ne (fun q => by rw [q, h0] at e; cases e)]; exact R.fH b o e n
  fZ := R.fZ.trans (Sub.upd hz)
  fB := R.fB.trans (Sub.upd hz)
  fN := fun b e => by
    by_cases q : b = a
    · subst q; exact .inr h0
    · rw [upd_ne q] at e; exact R.fN b e
theorem Step.lockNew {PN : Addr → Prop} {Z H Z' H' : Hp} {O O' : Ow} {a : Addr} {o : HO} (s : Step PN Z O H Z' O' H') (h : H a = none) (hz : Z' a = none) : Step PN Z O H (upd Z' a o) O' (upd H' a o) :=
  ⟨fun b u e n => by rw [upd_ne (fun q => by rw [q, h] at e; cases e)]; exact s.hH b u e n, fun b e => by
    by_cases q : b = a
    · rw [q]; exact h
    · rw [upd_ne q] at e; exact s.hN b e, s.zZ.trans (Sub.upd hz), fun b e => by
    by_cases q : b = a
    · subst q; exact .inr (.inl h)
    · rw [upd_ne q] at e; exact s.zN b e, s.oO⟩
theorem AZ.ae {w : WE Rz} (h : AZ X G e w) : AE X G e (wFrz w) := PEi (pe_frz h) fun σ H Q ⟨Γ, Z, O, P, R, q, k⟩ =>
  ⟨Γ, Z, O, _, R, q, fun r Γ' v Z' O' H' p R' S' b => by
    cases r with
    | v r => exact .inl (k _ Γ' v Z' O' H' p R' S' b)
    | ls2 _ => exact b.elim
    | ls ds =>
      obtain ⟨a, vs, rfl, ⟨f1, f2, f3⟩, h1, h2⟩ := b
      exact .inl (k _ Γ' _ _ O' H' p (R'.frz h1 f2 f3 (R.H0free f1)) (S'.frz f1 f2) (.lst upd_same (h2.mono (Sub.upd f2))))
    | dk ds =>
      obtain ⟨a, vs, rfl, ⟨f1, f2, f3⟩, h1, h2⟩ := b
      exact .inr ⟨a, _, h1, trivial, fun od => k _ Γ' _ _ O' _ p (R'.lockNew od h1 f2 f3 (R.H0free f1) (R.pfree f1)) (S'.lockNew f1 f2) (.dk upd_same (h2.mono (Sub.upd f2)).drk)⟩
    | dt ds =>
      obtain ⟨a, vs, rfl, ⟨f1, f2, f3⟩, h1, h2⟩ := b
      exact .inr ⟨a, _, h1, trivial, fun od => k _ Γ' _ _ O' _ p (R'.lockNew od h1 f2 f3 (R.H0free f1) (R.pfree f1)) (S'.lockNew f1 f2) (.dt upd_same (h2.mono (Sub.upd f2)).drt)⟩⟩
def wZ (w : WE Rv) : WE Rz := fun Γ P => w Γ fun r Γ' => P (.v r) Γ'
theorem AE.az {w : WE Rv} (h : AE X G e w) : AZ X G e (wZ w) := PEi h fun σ H Q ⟨Γ, Z, O, P, R, q, k⟩ =>
  ⟨Γ, Z, O, _, R, q, fun r Γ' v Z' O' H' p R' S' b => k _ Γ' v Z' O' H' p R' S' b⟩

/-! ### argument lists -/
def wNil {ρ : Type} : WE (List ρ) := fun Γ P => P [] Γ
def wCons {ρ : Type} (w : WE ρ) (ws : WE (List ρ)) : WE (List ρ) := fun Γ P => w Γ fun r Γ1 => ws Γ1 fun rs Γ2 => P (r :: rs) Γ2
theorem aa_nil : AA X G [] wNil := PAi pa_nil fun σ H Q ⟨Γ, Z, O, P, R, w, k⟩ => k _ _ _ _ _ _ w R Step.refl ⟨.nil, rfl⟩
theorem aa_cons {w : WE Rv} {ws : WE (List Rv)} (h : AE X G e w) (hs : AA X G es ws) (hq : starEach (e :: es) X.env = (false, eval e X.env) :: starEach es X.env := by rfl) : AA X G (e :: es) (wCons w ws) :=
  PAi (pa_cons h hs hq) fun σ H Q ⟨Γ, Z, O, P, R, w, k⟩ => ⟨Γ, Z, O, _, R, w, fun r Γ1 v Z1 O1 H1 p1 R1 S1 b1 => ⟨Γ1, Z1, O1, _, R1, p1, fun rs Γ2 vs Z2 O2 H2 p2 R2 S2 ⟨b2, l2⟩ =>
    k _ _ _ _ _ _ p2 R2 (S1.trans S2) ⟨.cons (b1.mono S2.zZ) b2, by rw [List.length_cons, List.length_cons, l2]⟩⟩⟩
theorem ab_nil : ABs X G [] wNil := PAi pa_nil fun σ H Q ⟨Γ, Z, O, P, R, w, k⟩ => k _ _ _ _ _ _ w R Step.refl .nil
theorem ab_cons {w : WE D} {ws : WE (List D)} (h : AB X G e w) (hs : ABs X G es ws) (hq : starEach (e :: es) X.env = (false, eval e X.env) :: starEach es X.env := by rfl) : ABs X G (e :: es) (wCons w ws) :=
  PAi (pa_cons h hs hq) fun σ H Q ⟨Γ, Z, O, P, R, w, k⟩ => ⟨Γ, Z, O, _, R, w, fun r Γ1 v Z1 O1 H1 p1 R1 S1 b1 => ⟨Γ1, Z1, O1, _, R1, p1, fun rs Γ2 vs Z2 O2 H2 p2 R2 S2 b2 =>
    k _ _ _ _ _ _ p2 R2 (S1.trans S2) (.cons (b1.grow S2.zZ S2.hH) b2)⟩⟩

/-! ### displays -/
def dats : List Rv → (List D → Prop) → Prop
  | [], k => k []
  | .dat d :: r, k => dats r fun ds => k (d :: ds)
  | .pen :: _, _ => False
theorem dats_of {K : Fg} {PN : Addr → Prop} {Z : Hp} : ∀ {rs : List Rv} {vs : List V} {k : List D → Prop}, RvRs K PN Z rs vs → dats rs k → ∃ ds, DRs K Z vs ds ∧ k ds
  | _, _, _, .nil, h => ⟨[], .nil, h⟩
  | .dat d :: rs, _, k, .cons h t, q => by
    obtain ⟨ds, a, b⟩ := dats_of (k := fun ds => k (d :: ds)) t q
    exact ⟨d :: ds, .cons h a, b⟩
  | .pen :: rs, _, k, .cons h t, q => q.elim
def wTup (ws : WE (List Rv)) : WE Rv := fun Γ P => ws Γ fun rs Γ' => dats rs fun ds => P (.dat (.tuple ds)) Γ'
theorem small_line {n : Nat} (h : n ≤ 1000) : n ≤ sizeLine := Nat.le_of_lt (small1000 h)
theorem ae_tup {ws : WE (List Rv)} {x1} (h : AA X G es ws) (hl : es.length ≤ 1000 := by decide) : AE X G (.Tuple es x1 pos) (wTup ws) :=
  PEi (pe_tup h) fun σ H Q ⟨Γ, Z, O, P, R, w, k⟩ => ⟨Γ, Z, O, _, R, w, fun rs Γ1 vs Z1 O1 H1 p1 R1 S1 ⟨b1, l1⟩ => by
    refine ⟨small_line (by rw [l1]; exact hl), fun p hp => ?_⟩
    obtain ⟨ds, b, q⟩ := dats_of b1 p1
    have g := Grow.new (o := .tup vs) R1.sub hp
    exact k _ _ _ _ _ _ q (R1.grow g) (S1.trans g.step) (.tup (SqT.of upd_same) (b.mono g.zz))⟩
def wLst (ws : WE (List Rv)) : WE Rz := fun Γ P => ws Γ fun rs Γ' => dats rs fun ds => P (.ls ds) Γ'
theorem az_lst {ws : WE (List Rv)} (h : AA X G es ws) (hl : es.length ≤ 1000 := by decide) : AZ X G (.List es pos) (wLst ws) :=
  PEi (pe_lst h) fun σ H Q ⟨Γ, Z, O, P, R, w, k⟩ => ⟨Γ, Z, O, _, R, w, fun rs Γ1 vs Z1 O1 H1 p1 R1 S1 ⟨b1, l1⟩ => by
    refine ⟨small_line (by rw [l1]; exact hl), fun p hp => ?_⟩
    obtain ⟨ds, b, q⟩ := dats_of b1 p1
    have g := Grow.new' (o := .lst vs) R1.sub hp
    exact k _ _ _ _ _ _ q (R1.grow g) (S1.trans g.step) ⟨p, vs, rfl, ⟨S1.hN p hp, R1.sub.free hp, R1.ofree hp⟩, upd_same, b⟩⟩

/-! ### operators and calls of built-ins that change nothing -/
structure Ctx (PN : Addr → Prop) (Z H : Hp) : Prop where
  sub : Sub Z H
  pz : ∀ p, PN p → Z p = none ∧ H p ≠ none
theorem Rel.ctx {K : Fg} {G : Gh} {Γ : Ga} {Z H : Hp} {O : Ow} {σ : L2.St} (R : Rel K G Γ Z O σ H) : Ctx G.PN Z H := ⟨R.sub, fun p hp => ⟨R.zfree hp, fun e => R.pfree e hp⟩⟩
def RzN (K : Fg) (H Z' H' : Hp) : Rz → V → Prop
  | .v (.dat d), v => DR K Z' v d
  | .v .pen, _ => False
  | .ls ds, v => ∃ a vs, v = .ref a ∧ H a = none ∧ Z' a = none ∧ H' a = some (.lst vs) ∧ DRs K Z' vs ds
  | .ls2 _, _ => False
  | .dk kvs, v => ∃ a vs, v = .ref a ∧ H a = none ∧ Z' a = none ∧ H' a = some (.dK vs) ∧ dkR K Z' vs kvs
  | .dt kvs, v => ∃ a vs, v = .ref a ∧ H a = none ∧ Z' a = none ∧ H' a = some (dXo a vs) ∧ dtR K Z' vs kvs
theorem RzN.up {K : Fg} {G : Gh} {Γ : Ga} {Hs Z H Z' H' : Hp} {O : Ow} {σ : L2.St} (R : Rel K G Γ Z O σ H) (hs : ∀ a, H a = none → Hs a = none) : ∀ {z : Rz} {v : V}, RzN K H Z' H' z v → RzR K G Hs Z' O H' z v
  | .v (.dat d), v, h => h
  | .ls ds, v, ⟨a, vs, e, h1, h2, h3, h4⟩ => ⟨a, vs, e, ⟨hs a h1, h2, R.ofree h1⟩, h3, h4⟩
  | .dk ds, v, ⟨a, vs, e, h1, h2, h3, h4⟩ => ⟨a, vs, e, ⟨hs a h1, h2, R.ofree h1⟩, h3, h4⟩
  | .dt ds, v, ⟨a, vs, e, h1, h2, h3, h4⟩ => ⟨a, vs, e, ⟨hs a h1, h2, R.ofree h1⟩, h3, h4⟩
abbrev Sem2 := D → D → (Rz → Prop) → Prop
abbrev SemN := List D → (Rz → Prop) → Prop
def Pure2 (K : Fg) (r : R2) (sem : Sem2) : Prop := ∀ (PN : Addr → Prop) (Z H : Hp) (x y : V) (d e : D) (P : Rz → Prop) (Q : VK), Ctx PN Z H → BR K PN Z H x d → BR K PN Z H y e → sem d e P →
  (∀ z v Z' H', P z → Grow Z H Z' H' → RzN K H Z' H' z v → Q v H') → r x y H Q
def PureN (K : Fg) (r : List V → Hp → VK → Prop) (sem : SemN) : Prop := ∀ (PN : Addr → Prop) (Z H : Hp) (xs : List V) (ds : List D) (P : Rz → Prop) (Q : VK), Ctx PN Z H → BRs K PN Z H xs ds → sem ds P →
  (∀ z v Z' H', P z → Grow Z H Z' H' → RzN K H Z' H' z v → Q v H') → r xs H Q
def w2 (sem : Sem2) (wa wb : WE D) : WE Rz := fun Γ P => wa Γ fun d Γ1 => wb Γ1 fun e Γ2 => sem d e fun z => P z Γ2
theorem tOp_of {r : R2} {sem : Sem2} (hp : Pure2 X.K r sem) {wa wb : WE D} {σ : L2.St} {H : Hp} {Q : VK} (h : lift X.K G (RzR X.K G) (w2 sem wa wb) σ H Q) :
    tOp r (lift X.K G (fun _ Z _ H d v => BR X.K G.PN Z H v d) wa) (lift X.K G (fun _ Z _ H d v => BR X.K G.PN Z H v d) wb) σ H Q := by
  obtain ⟨Γ, Z, O, P, R, w, k⟩ := h
  exact ⟨Γ, Z, O, _, R, w, fun d Γ1 x Z1 O1 H1 p1 R1 S1 b1 => ⟨Γ1, Z1, O1, _, R1, p1, fun e Γ2 y Z2 O2 H2 p2 R2 S2 b2 =>
    hp G.PN Z2 H2 x y d e _ _ R2.ctx (b1.grow S2.zZ S2.hH) b2 p2 fun z v Z' H' pz g rz => k _ _ _ _ _ _ pz (R2.grow g) ((S1.trans S2).trans g.step) (rz.up R2 (S1.trans S2).hN)⟩⟩
theorem az_bin {op : Operator} {r : R2} {sem : Sem2} {wa wb : WE D} (ho : OpR X (binaryOp op) r) (hp : Pure2 X.K r sem) (ha : AB X G a wa) (hb : AB X G b wb) : AZ X G (.BinOp a op b pos) (w2 sem wa wb) :=
  PEi (pe_op ho ha hb) fun _ _ _ h => tOp_of hp h
theorem az_cmp {op : CmpOp} {r : R2} {sem : Sem2} {wa wb : WE D} (ho : OpR X (compareOp op) r) (hp : Pure2 X.K r sem) (ha : AB X G a wa) (hb : AB X G b wb) (hm : behindInMarks op b = false := by first | exact nomark _ | rfl) : AZ X G (.Compare a [op] [b] pos) (w2 sem wa wb) :=
  PEi (pe_cmpR ho ha hb hm) fun _ _ _ h => tOp_of hp h
def wBool (w : WE Rz) : WE Bool := fun Γ P => w Γ fun z Γ' => match z with
  | .v (.dat (.bool k)) => P k Γ'
  | _ => False
theorem bool_of {K : Fg} {G : Gh} {w : WE Rz} {σ : L2.St} {H : Hp} {Q : Bool → Hp → Prop} (h : lift K G (fun _ _ _ _ (a b : Bool) => a = b) (wBool w) σ H Q) :
    lift K G (RzR K G) w σ H (fun x H' => ∃ k, x = .bl k ∧ Q k H') := by
  obtain ⟨Γ, Z, O, P, R, w, k⟩ := h
  refine ⟨Γ, Z, O, _, R, w, fun z Γ1 x Z1 O1 H1 p1 R1 S1 b1 => ?_⟩
  cases z with
  | v r =>
    cases r with
    | pen => exact p1.elim
    | dat d =>
      cases d with
      | bool c =>
        have : x = .bl c := by
          have b' : DR K Z1 x (.bool c) := b1
          cases b'; rfl
        exact ⟨c, this, k _ _ _ _ _ _ p1 R1 S1 rfl⟩
      | _ => exact p1.elim
  | _ => exact p1.elim
theorem at_cmp {op : CmpOp} {r : R2} {sem : Sem2} {wa wb : WE D} (ho : OpR X (compareOp op) r) (hp : Pure2 X.K r sem) (ha : AB X G a wa) (hb : AB X G b wb) (hm : behindInMarks op b = false := by first | exact nomark _ | rfl) : AT X G (.Compare a [op] [b] pos) (wBool (w2 sem wa wb)) :=
  PTi (pt_cmpR ho ha hb hm) fun _ _ _ h => tOp_of hp (bool_of h)
/-- an expression whose value is a bool, as a test -/
theorem AZ.at {w : WE Rz} (h : AZ X G e w) (he : ∀ whole, isTrue e X.env whole = (do let v ← whole; standAt e.pos; holding [v] (truthy v)) := by intro _; rfl) : AT X G e (wBool w) :=
  PTi (pt_val h he) fun _ _ _ h => bool_of h
/-- a < b < c -/
def wChain (s1 s2 : Sem2) (wa wb wc : WE D) : WE Rz := fun Γ P => wa Γ fun d Γ1 => wb Γ1 fun e Γ2 => s1 d e fun z => match z with
  | .v (.dat (.bool k)) => if k = true then wc Γ2 fun f Γ3 => s2 e f fun z => P z Γ3 else P (.v (.dat (.bool false))) Γ2
  | _ => False
theorem tChain_of {r r' : R2} {sem sem' : Sem2} (hp : Pure2 X.K r sem) (hp' : Pure2 X.K r' sem') {wa wb wc : WE D} {σ : L2.St} {H : Hp} {Q : VK} (h : lift X.K G (RzR X.K G) (wChain sem sem' wa wb wc) σ H Q) :
    tChain r r' (lift X.K G (fun _ Z _ H d v => BR X.K G.PN Z H v d) wa) (lift X.K G (fun _ Z _ H d v => BR X.K G.PN Z H v d) wb) (lift X.K G (fun _ Z _ H d v => BR X.K G.PN Z H v d) wc) σ H Q := by
  obtain ⟨Γ, Z, O, P, R, w, k⟩ := h
  refine ⟨Γ, Z, O, _, R, w, fun d Γ1 x Z1 O1 H1 p1 R1 S1 b1 => ⟨Γ1, Z1, O1, _, R1, p1, fun e Γ2 y Z2 O2 H2 p2 R2 S2 b2 => ?_⟩⟩
  refine hp G.PN Z2 H2 x y d e _ _ R2.ctx (b1.grow S2.zZ S2.hH) b2 p2 fun z v Z' H' pz g rz => ?_
  have R3 := R2.grow g
  have S3 : Step G.PN Z O H Z' O2 H' := (S1.trans S2).trans g.step
  cases z with
  | v r =>
    cases r with
    | pen => exact pz.elim
    | dat d =>
      cases d with
      | bool c =>
        have : v = .bl c := by
          have b' : DR X.K Z' v (.bool c) := rz
          cases b'; rfl
        refine ⟨c, this, ?_⟩
        cases c with
        | false => exact k _ _ _ _ _ _ pz R3 S3 (.bl false)
        | true =>
          refine ⟨Γ2, Z', O2, _, R3, pz, fun f Γ3 u Z3 O3 H3 p3 R4 S4 b3 => ?_⟩
          have b2' : BR X.K G.PN Z3 H3 y e := (b2.grow g.zz fun a o h _ => g.hh a o h).grow S4.zZ S4.hH
          exact hp' G.PN Z3 H3 y u e f _ _ R4.ctx b2' b3 p3 fun z v Z5 H5 pz g5 rz => k _ _ _ _ _ _ pz (R4.grow g5) ((S3.trans S4).trans g5.step) (rz.up R4 (S3.trans S4).hN)
      | _ => exact pz.elim
  | _ => exact pz.elim
theorem az_chain {op op' : CmpOp} {r r' : R2} {s1 s2 : Sem2} {wa wb wc : WE D} (ho : OpR X (compareOp op) r) (hp : Pure2 X.K r s1) (ho' : OpR X (compareOp op') r') (hp' : Pure2 X.K r' s2) (ha : AB X G a wa) (hb : AB X G b wb) (hc : AB X G c wc) (hm : lastMarks [op, op'] [b, c] = false := by rfl) :
    AZ X G (.Compare a [op, op'] [b, c] pos) (wChain s1 s2 wa wb wc) := PEi (pe_chain ho ho' ha hb hc hm) fun _ _ _ h => tChain_of hp hp' h
theorem at_chain {op op' : CmpOp} {r r' : R2} {s1 s2 : Sem2} {wa wb wc : WE D} (ho : OpR X (compareOp op) r) (hp : Pure2 X.K r s1) (ho' : OpR X (compareOp op') r') (hp' : Pure2 X.K r' s2) (ha : AB X G a wa) (hb : AB X G b wb) (hc : AB X G c wc) (hm : lastMarks [op, op'] [b, c] = false := by rfl) :
    AT X G (.Compare a [op, op'] [b, c] pos) (wBool (wChain s1 s2 wa wb wc)) := PTi (pt_chain ho ho' ha hb hc hm) fun _ _ _ h => tChain_of hp hp' (bool_of h)

/-! ### built-ins by name -/
def wN (sem : SemN) (ws : WE (List D)) : WE Rz := fun Γ P => ws Γ fun ds Γ1 => sem ds fun z => P z Γ1
theorem tCB_of {r : List V → Hp → VK → Prop} {sem : SemN} (hp : PureN X.K r sem) {ws : WE (List D)} {σ : L2.St} {H : Hp} {Q : VK} (h : lift X.K G (RzR X.K G) (wN sem ws) σ H Q) :
    tCB r (lift X.K G (fun _ Z _ H ds (vs : List V) => BRs X.K G.PN Z H vs ds) ws) σ H Q := by
  obtain ⟨Γ, Z, O, P, R, w, k⟩ := h
  exact ⟨Γ, Z, O, _, R, w, fun d Γ1 x Z1 O1 H1 p1 R1 S1 b1 => hp G.PN Z1 H1 x d _ _ R1.ctx b1 p1 fun z v Z' H' pz g rz => k _ _ _ _ _ _ pz (R1.grow g) (S1.trans g.step) (rz.up R1 S1.hN)⟩
theorem az_callB {x : Str} {p : Pos} {id : String} {r : List V → Hp → VK → Prop} {sem : SemN} {ws : WE (List D)} (hc : CallR X (.builtin id) r) (hp : PureN X.K r sem) (hg : Gl X x) (hm : X.mg x = none) (hv : bootBuiltins x = some (.builtin id)) (h : ABs X G (e :: es) ws)
    (hn : x ≠ "__name__" := by decide) (hdb : (x == ("__debug__" : Str)) = false := by decide) (he : starEach (e :: es) X.env = (false, eval e X.env) :: starEach es X.env := by rfl) (hpl : (backTo pos (starEach es X.env)).any (·.1) = false := by rfl) :
    AZ X G (.Call (.Name x p) (e :: es) [] pos) (wN sem ws) := PEi (pe_callB hc hg hm hv h hn hdb he hpl) fun _ _ _ h => tCB_of hp h
theorem az_callTy {x : Str} {p : Pos} {T : String} {r : List V → Hp → VK → Prop} {sem : SemN} {ws : WE (List D)} (hc : CallR X (.type T) r) (hp : PureN X.K r sem) (hg : Gl X x) (hm : X.mg x = none) (hv : bootBuiltins x = some (.type T)) (h : ABs X G (e :: es) ws)
    (hn : x ≠ "__name__" := by decide) (hdb : (x == ("__debug__" : Str)) = false := by decide) (he : starEach (e :: es) X.env = (false, eval e X.env) :: starEach es X.env := by rfl) (hpl : (backTo pos (starEach es X.env)).any (·.1) = false := by rfl) :
    AZ X G (.Call (.Name x p) (e :: es) [] pos) (wN sem ws) := PEi (pe_callTy hc hg hm hv h hn hdb he hpl) fun _ _ _ h => tCB_of hp h
end
end VL
namespace VL
open PySem PySem.Spec PyProof.Rows L2
section
variable {X : Cx} {G : Gh} {e a b c : Expr} {es rest : List Expr} {pos : Pos}
/-! ### and, or, not, if-else -/
def wAndT (wa wb : WE Bool) : WE Bool := fun Γ P => wa Γ fun k Γ1 => if k = true then wb Γ1 P else P false Γ1
def wOrT (wa wb : WE Bool) : WE Bool := fun Γ P => wa Γ fun k Γ1 => if k = true then P true Γ1 else wb Γ1 P
def wNotT (wa : WE Bool) : WE Bool := fun Γ P => wa Γ fun k Γ1 => P (!k) Γ1
theorem lift_imp {ρ υ : Type} {K : Fg} {RR : Hp → Hp → Ow → Hp → ρ → υ → Prop} {w w' : WE ρ} {σ : L2.St} {H : Hp} {Q : υ → Hp → Prop} (h : lift K G RR w σ H Q) (i : ∀ Γ P, w Γ P → w' Γ P) : lift K G RR w' σ H Q := by
  obtain ⟨Γ, Z, O, P, R, q, k⟩ := h
  exact ⟨Γ, Z, O, P, R, i _ _ q, k⟩
theorem at_not {wa : WE Bool} (h : AT X G a wa) : AT X G (.UnaryOp .Not a pos) (wNotT wa) := PTi (pt_not h) fun σ H Q ⟨Γ, Z, O, P, R, q, k⟩ =>
  ⟨Γ, Z, O, _, R, q, fun r Γ1 v Z1 O1 H1 p1 R1 S1 b1 => k _ _ _ _ _ _ p1 R1 S1 (by rw [b1])⟩
theorem aw_and1 {wa : WE Bool} (h : AT X G a wa) : AW X G (.BoolOp .And [a] pos) wa := pw_and1 h
theorem aw_or1 {wa : WE Bool} (h : AT X G a wa) : AW X G (.BoolOp .Or [a] pos) wa := pw_or1 h
theorem tAnd_of {wa wb : WE Bool} {σ : L2.St} {H : Hp} {Q : Bool → Hp → Prop} (h : lift X.K G (fun _ _ _ _ (a b : Bool) => a = b) (wAndT wa wb) σ H Q) :
    tAnd (lift X.K G (fun _ _ _ _ (a b : Bool) => a = b) wa) (lift X.K G (fun _ _ _ _ (a b : Bool) => a = b) wb) σ H Q := by
  obtain ⟨Γ, Z, O, P, R, q, k⟩ := h
  refine ⟨Γ, Z, O, _, R, q, fun r Γ1 v Z1 O1 H1 p1 R1 S1 b1 => ?_⟩
  subst b1
  cases r with
  | false => exact iteF (k _ _ _ _ _ _ p1 R1 S1 rfl)
  | true => exact iteT ⟨Γ1, Z1, O1, _, R1, p1, fun r Γ2 v Z2 O2 H2 p2 R2 S2 b2 => k _ _ _ _ _ _ p2 R2 (S1.trans S2) b2⟩
theorem tOr_of {wa wb : WE Bool} {σ : L2.St} {H : Hp} {Q : Bool → Hp → Prop} (h : lift X.K G (fun _ _ _ _ (a b : Bool) => a = b) (wOrT wa wb) σ H Q) :
    tOr (lift X.K G (fun _ _ _ _ (a b : Bool) => a = b) wa) (lift X.K G (fun _ _ _ _ (a b : Bool) => a = b) wb) σ H Q := by
  obtain ⟨Γ, Z, O, P, R, q, k⟩ := h
  refine ⟨Γ, Z, O, _, R, q, fun r Γ1 v Z1 O1 H1 p1 R1 S1 b1 => ?_⟩
  subst b1
  cases r with
  | true => exact iteT (k _ _ _ _ _ _ p1 R1 S1 rfl)
  | false => exact iteF ⟨Γ1, Z1, O1, _, R1, p1, fun r Γ2 v Z2 O2 H2 p2 R2 S2 b2 => k _ _ _ _ _ _ p2 R2 (S1.trans S2) b2⟩
theorem aw_and {wa wb : WE Bool} (ha : AT X G a wa) (hb : AW X G (.BoolOp .And (b :: rest) pos) wb) : AW X G (.BoolOp .And (a :: b :: rest) pos) (wAndT wa wb) := PWi (pw_and ha hb) fun _ _ _ h => tAnd_of h
theorem aw_or {wa wb : WE Bool} (ha : AT X G a wa) (hb : AW X G (.BoolOp .Or (b :: rest) pos) wb) : AW X G (.BoolOp .Or (a :: b :: rest) pos) (wOrT wa wb) := PWi (pw_or ha hb) fun _ _ _ h => tOr_of h
theorem AW.at {w : WE Bool} (h : AW X G e w) : AT X G e w := PW.pt h
/-- .. as values: all but the last are bools -/
def wAndV (wa : WE Rv) (wb : WE Rv) : WE Rv := fun Γ P => wa Γ fun r Γ1 => match r with
  | .dat (.bool k) => if k = true then wb Γ1 P else P (.dat (.bool false)) Γ1
  | _ => False
def wOrV (wa : WE Rv) (wb : WE Rv) : WE Rv := fun Γ P => wa Γ fun r Γ1 => match r with
  | .dat (.bool k) => if k = true then P (.dat (.bool true)) Γ1 else wb Γ1 P
  | _ => False
def wNotV (wa : WE Rv) : WE Rv := fun Γ P => wa Γ fun r Γ1 => match r with
  | .dat (.bool k) => P (.dat (.bool (!k))) Γ1
  | _ => False
theorem ae_one {op : BoolOp} {w : WE Rv} (h : AE X G a w) : AE X G (.BoolOp op [a] pos) w := pe_one h
theorem ae_and {wa wb : WE Rv} (ha : AE X G a wa) (hb : AE X G (.BoolOp .And (b :: rest) pos) wb) : AE X G (.BoolOp .And (a :: b :: rest) pos) (wAndV wa wb) := PEi (pe_and ha hb) fun σ H Q h => by
  obtain ⟨Γ, Z, O, P, R, q, k⟩ := h
  refine ⟨Γ, Z, O, _, R, q, fun r Γ1 v Z1 O1 H1 p1 R1 S1 b1 => ?_⟩
  cases r with
  | pen => exact p1.elim
  | dat d =>
    cases d with
    | bool c =>
      have : v = .bl c := by
        have b' : DR X.K Z1 v (.bool c) := b1
        cases b'; rfl
      refine ⟨c, this, ?_⟩
      cases c with
      | false => exact k _ _ _ _ _ _ p1 R1 S1 (.bl false)
      | true => exact ⟨Γ1, Z1, O1, _, R1, p1, fun r Γ2 v Z2 O2 H2 p2 R2 S2 b2 => k _ _ _ _ _ _ p2 R2 (S1.trans S2) b2⟩
    | _ => exact p1.elim
theorem ae_or {wa wb : WE Rv} (ha : AE X G a wa) (hb : AE X G (.BoolOp .Or (b :: rest) pos) wb) : AE X G (.BoolOp .Or (a :: b :: rest) pos) (wOrV wa wb) := PEi (pe_or ha hb) fun σ H Q h => by
  obtain ⟨Γ, Z, O, P, R, q, k⟩ := h
  refine ⟨Γ, Z, O, _, R, q, fun r Γ1 v Z1 O1 H1 p1 R1 S1 b1 => ?_⟩
  cases r with
  | pen => exact p1.elim
  | dat d =>
    cases d with
    | bool c =>
      have : v = .bl c := by
        have b' : DR X.K Z1 v (.bool c) := b1
        cases b'; rfl
      refine ⟨c, this, ?_⟩
      cases c with
      | true => exact k _ _ _ _ _ _ p1 R1 S1 (.bl true)
      | false => exact ⟨Γ1, Z1, O1, _, R1, p1, fun r Γ2 v Z2 O2 H2 p2 R2 S2 b2 => k _ _ _ _ _ _ p2 R2 (S1.trans S2) b2⟩
    | _ => exact p1.elim
theorem ae_not {wa : WE Rv} (ha : AE X G a wa) : AE X G (.UnaryOp .Not a pos) (wNotV wa) := PEi (pe_not ha) fun σ H Q h => by
  obtain ⟨Γ, Z, O, P, R, q, k⟩ := h
  refine ⟨Γ, Z, O, _, R, q, fun r Γ1 v Z1 O1 H1 p1 R1 S1 b1 => ?_⟩
  cases r with
  | pen => exact p1.elim
  | dat d =>
    cases d with
    | bool c =>
      have : v = .bl c := by
        have b' : DR X.K Z1 v (.bool c) := b1
        cases b'; rfl
      exact ⟨c, this, k _ _ _ _ _ _ p1 R1 S1 (.bl (!c))⟩
    | _ => exact p1.elim
def wIf {ρ : Type} (t : WE Bool) (wa wb : WE ρ) : WE ρ := fun Γ P => t Γ fun k Γ1 => if k = true then wa Γ1 P else wb Γ1 P
theorem ae_if {t : WE Bool} {wa wb : WE Rv} (hc : AT X G c t) (ha : AE X G a wa) (hb : AE X G b wb) : AE X G (.IfExp c a b pos) (wIf t wa wb) := PEi (pe_ifExp hc ha hb) fun σ H Q h => by
  obtain ⟨Γ, Z, O, P, R, q, k⟩ := h
  refine ⟨Γ, Z, O, _, R, q, fun r Γ1 v Z1 O1 H1 p1 R1 S1 b1 => ?_⟩
  subst b1
  cases r with
  | true => exact iteT ⟨Γ1, Z1, O1, _, R1, p1, fun r Γ2 v Z2 O2 H2 p2 R2 S2 b2 => k _ _ _ _ _ _ p2 R2 (S1.trans S2) b2⟩
  | false => exact iteF ⟨Γ1, Z1, O1, _, R1, p1, fun r Γ2 v Z2 O2 H2 p2 R2 S2 b2 => k _ _ _ _ _ _ p2 R2 (S1.trans S2) b2⟩
end

/-! ### statements -/
structure En where
  nx : Ga → Prop
  rt : Rv → Ga → Prop
  bk : Ga → Prop := fun _ => False
  ct : Ga → Prop := fun _ => False
abbrev WS := En → Ga → Prop
structure EnR (K : Fg) (G : Gh) (E : En) (T : Ends) : Prop where
  nx : ∀ Γ Z O σ H, E.nx Γ → Rel K G Γ Z O σ H → T.nx σ H
  rt : ∀ r Γ Z O σ H v, E.rt r Γ → Rel K G Γ Z O σ H → RvR K G.PN Z r v → T.rt v H
  bk : ∀ Γ Z O σ H, E.bk Γ → Rel K G Γ Z O σ H → T.bk σ H
  ct : ∀ Γ Z O σ H, E.ct Γ → Rel K G Γ Z O σ H → T.ct σ H
def liftS (K : Fg) (G : Gh) (w : WS) : TS := fun T σ H => ∃ Γ Z O E, Rel K G Γ Z O σ H ∧ w E Γ ∧ EnR K G E T
def AS (X : Cx) (G : Gh) (st : Stmt) (w : WS) : Prop := PS X st (liftS X.K G w)
def ASs (X : Cx) (G : Gh) (st : List Stmt) (w : WS) : Prop := PSs X st (liftS X.K G w)
section
variable {X : Cx} {G : Gh} {e a b c : Expr} {es : List Expr} {pos : Pos} {st : Stmt} {rest body : List Stmt}
def wNext : WS := fun E Γ => E.nx Γ
def wSeq (w u : WS) : WS := fun E Γ => w { E with nx := u E } Γ
theorem ass_nil : ASs X G [] wNext := PSsi pss_nil fun T σ H ⟨Γ, Z, O, E, R, w, k⟩ => k.nx _ _ _ _ _ w R
theorem ass_cons {w u : WS} (h : AS X G st w) (hr : ASs X G rest u) : ASs X G (st :: rest) (wSeq w u) :=
  PSsi (pss_cons h hr) fun T σ H ⟨Γ, Z, O, E, R, w, k⟩ => ⟨Γ, Z, O, _, R, w, ⟨fun Γ Z O σ H q R => ⟨Γ, Z, O, E, R, q, k⟩, k.rt, k.bk, k.ct⟩⟩
theorem ass_one {w : WS} (h : AS X G st w) : ASs X G [st] w := pss_one h
theorem as_never : AS X G st fun _ _ => False := PSi ps_never fun T σ H ⟨Γ, Z, O, E, R, w, k⟩ => w
theorem ass_never : ASs X G rest fun _ _ => False := PSsi pss_never fun T σ H ⟨Γ, Z, O, E, R, w, k⟩ => w
theorem as_pass : AS X G (.Pass pos) wNext := PSi ps_pass fun T σ H ⟨Γ, Z, O, E, R, w, k⟩ => k.nx _ _ _ _ _ w R
theorem as_break : AS X G (.Break pos) (fun E Γ => E.bk Γ) := PSi ps_break fun T σ H ⟨Γ, Z, O, E, R, w, k⟩ => k.bk _ _ _ _ _ w R
theorem as_continue : AS X G (.Continue pos) (fun E Γ => E.ct Γ) := PSi ps_continue fun T σ H ⟨Γ, Z, O, E, R, w, k⟩ => k.ct _ _ _ _ _ w R
def wRet (w : WE Rv) : WS := fun E Γ => w Γ E.rt
theorem as_ret {w : WE Rv} (h : AE X G e w) : AS X G (.Return (some e) pos) (wRet w) := PSi (ps_ret h) fun T σ H ⟨Γ, Z, O, E, R, w, k⟩ => ⟨Γ, Z, O, _, R, w, fun r Γ1 v Z1 O1 H1 p1 R1 S1 b1 => k.rt _ _ _ _ _ _ _ p1 R1 b1⟩
theorem as_retN : AS X G (.Return none pos) (fun E Γ => E.rt (.dat .none) Γ) := PSi ps_retN fun T σ H ⟨Γ, Z, O, E, R, w, k⟩ => k.rt _ _ _ _ _ _ _ w R .non
def wDrop (w : WE Rv) : WS := fun E Γ => w Γ fun _ Γ1 => E.nx Γ1
theorem as_expr {w : WE Rv} (h : AE X G e w) (hs : swapsWith e none pos.line X.env = pure false := by rfl) : AS X G (.Expr e pos) (wDrop w) :=
  PSi (ps_expr h hs) fun T σ H ⟨Γ, Z, O, E, R, w, k⟩ => ⟨Γ, Z, O, _, R, w, fun r Γ1 v Z1 O1 H1 p1 R1 S1 b1 => k.nx _ _ _ _ _ p1 R1⟩
def wIfS (t : WE Bool) (wa wb : WS) : WS := fun E Γ => t Γ fun k Γ1 => if k = true then wa E Γ1 else wb E Γ1
theorem as_if {sa sb : List Stmt} {t : WE Bool} {wa wb : WS} (hc : AT X G c t) (ha : ASs X G sa wa) (hb : ASs X G sb wb) : AS X G (.If c sa sb pos) (wIfS t wa wb) :=
  PSi (ps_if hc ha hb) fun T σ H ⟨Γ, Z, O, E, R, w, k⟩ => ⟨Γ, Z, O, _, R, w, fun r Γ1 v Z1 O1 H1 p1 R1 S1 b1 => by
    subst b1
    cases r with
    | true => exact iteT ⟨Γ1, Z1, O1, E, R1, p1, k⟩
    | false => exact iteF ⟨Γ1, Z1, O1, E, R1, p1, k⟩⟩
def wSet (i : Nat) (w : WE Rv) : WS := fun E Γ => w Γ fun r Γ1 => E.nx (Γ1.set i (.rv r))
theorem as_set (i : Nat) {x : Str} {w : WE Rv} {pos' : Pos} (hN : X.N.Nodup) (h : AE X G e w) (hi : X.N[i]? = some x := by rfl) (hx : Loc X.env.scope x := by first | exact Or.inl rfl | exact Or.inr rfl) (hs : swapsWith e (some (.Name x pos')) pos.line X.env = pure false := by rfl)
    (hf : X.fn x = true ∨ X.env.scope.names.lookup x = some .local := by first | exact .inl rfl | exact .inr rfl | assumption) : AS X G (.Assign [.Name x pos'] e pos) (wSet i w) :=
  PSi (ps_set hN hi hx h hs hf) fun T σ H ⟨Γ, Z, O, E, R, w, k⟩ => ⟨Γ, Z, O, _, R, w, fun r Γ1 v Z1 O1 H1 p1 R1 S1 b1 => k.nx _ _ _ _ _ p1 (R1.setRv i b1)⟩
/-- what a new object becomes in a slot -/
def Rz.sl : Rz → Sl
  | .v r => .rv r
  | .ls ds => .lst ds
  | .ls2 dss => .lst2 dss
  | .dk kvs => .dk kvs
  | .dt kvs => .dt kvs
theorem Rel.setZ {K : Fg} {Γ : Ga} {Hs Z H : Hp} {O : Ow} {σ : L2.St} (R : Rel K G Γ Z O σ H) (hs : ∀ a, Hs a = none → G.H0 a = none ∧ ¬ G.PN a) (i : Nat) {z : Rz} {v : V} (h : RzR K G Hs Z O H z v) : ∃ O', Rel K G (Γ.set i z.sl) Z O' (σ.set i (some v)) H := by
  cases z with
  | v r => exact ⟨_, R.setRv i h⟩
  | ls2 _ => exact h.elim
  | ls ds =>
    obtain ⟨a, vs, rfl, ⟨f1, f2, f3⟩, h1, h2⟩ := h
    exact ⟨_, R.setOwn i f2 f3 (hs a f1).1 (by rw [h1]; simp) (hs a f1).2 ⟨a, vs, rfl, ownO_self, h1, h2⟩⟩
  | dk ds =>
    obtain ⟨a, vs, rfl, ⟨f1, f2, f3⟩, h1, h2⟩ := h
    exact ⟨_, R.setOwn i f2 f3 (hs a f1).1 (by rw [h1]; simp) (hs a f1).2 ⟨a, vs, rfl, ownO_self, h1, h2⟩⟩
  | dt ds =>
    obtain ⟨a, vs, rfl, ⟨f1, f2, f3⟩, h1, h2⟩ := h
    exact ⟨_, R.setOwn i f2 f3 (hs a f1).1 (by rw [h1]; simp) (hs a f1).2 ⟨a, vs, rfl, ownO_self, h1, h2⟩⟩
def wSetZ (i : Nat) (w : WE Rz) : WS := fun E Γ => w Γ fun z Γ1 => E.nx (Γ1.set i z.sl)
theorem as_setZ (i : Nat) {x : Str} {w : WE Rz} {pos' : Pos} (hN : X.N.Nodup) (h : AZ X G e w) (hi : X.N[i]? = some x := by rfl) (hx : Loc X.env.scope x := by first | exact Or.inl rfl | exact Or.inr rfl) (hs : swapsWith e (some (.Name x pos')) pos.line X.env = pure false := by rfl)
    (hf : X.fn x = true ∨ X.env.scope.names.lookup x = some .local := by first | exact .inl rfl | exact .inr rfl | assumption) : AS X G (.Assign [.Name x pos'] e pos) (wSetZ i w) :=
  PSi (ps_set hN hi hx h hs hf) fun T σ H ⟨Γ, Z, O, E, R, w, k⟩ => ⟨Γ, Z, O, _, R, w, fun r Γ1 v Z1 O1 H1 p1 R1 S1 b1 => by
    obtain ⟨O', R'⟩ := R1.setZ (fun a h => ⟨R.H0free h, R.pfree h⟩) i b1
    exact k.nx _ _ _ _ _ p1 R'⟩
/-- a, b = x, y -/
theorem Step.rz {K : Fg} {Γ Γ' : Ga} {Hs Z H Z' H' : Hp} {O O' : Ow} {σ : L2.St} (R : Rel K G Γ Z O σ H) (R' : Rel K G Γ' Z' O' σ H') (S : Step G.PN Z O H Z' O' H') (hs : ∀ a, Hs a = none → G.H0 a = none ∧ ¬ G.PN a) {z : Rz} {v : V} (h : RzR K G Hs Z O H z v) : RzR K G Hs Z' O' H' z v := by
  have fr : ∀ a o, Fresh G Hs Z O a → H a = some o → Fresh G Hs Z' O' a := fun a o ⟨f1, f2, f3⟩ q => by
    refine ⟨f1, ?_, ?_⟩
    · cases e : Z' a with
      | none => rfl
      | some u =>
        rcases S.zN a (by rw [e]; simp) with r | r | r
        · exact absurd f2 r
        · rw [q] at r; cases r
        · exact absurd f3 r
    · cases e : O' a with
      | none => rfl
      | some j => rw [S.oO a j e] at f3; cases f3
  cases z with
  | v r => exact h.mono S.zZ
  | ls2 _ => exact h
  | ls ds =>
    obtain ⟨a, vs, rfl, f, h1, h2⟩ := h
    exact ⟨a, vs, rfl, fr a _ f h1, S.hH _ _ h1 (hs a f.1).2, h2.mono S.zZ⟩
  | dk ds =>
    obtain ⟨a, vs, rfl, f, h1, h2⟩ := h
    exact ⟨a, vs, rfl, fr a _ f h1, S.hH _ _ h1 (hs a f.1).2, h2.mono S.zZ⟩
  | dt ds =>
    obtain ⟨a, vs, rfl, f, h1, h2⟩ := h
    exact ⟨a, vs, rfl, fr a _ f h1, S.hH _ _ h1 (hs a f.1).2, h2.mono S.zZ⟩
/-- a new object that was made later than another one stands apart from it -/
theorem ownO_no {O : Ow} {i : Nat} {a b : Addr} (h : O b = none) (n : b ≠ a) : ownO O i a b = none := by
  unfold ownO dropO
  rw [if_neg n]
  split <;> first | rfl | exact h
theorem dropO_no {O : Ow} {i : Nat} {b : Addr} (h : O b = none) : dropO O i b = none := by
  unfold dropO
  split <;> first | rfl | exact h
theorem Rel.setZ2 {K : Fg} {Γ : Ga} {Hs H1 Z H : Hp} {O : Ow} {σ : L2.St} (R : Rel K G Γ Z O σ H) (hs : ∀ a, Hs a = none → G.H0 a = none ∧ ¬ G.PN a) (hs1 : ∀ a, H1 a = none → G.H0 a = none ∧ ¬ G.PN a) (i j : Nat) {z y : Rz} {v u : V}
    (h : RzR K G Hs Z O H z v) (h' : RzR K G H1 Z O H y u) (apart : ∀ a, v = .ref a → H1 a ≠ none ∨ ∃ r, z = .v r) : ∃ O', Rel K G ((Γ.set i z.sl).set j y.sl) Z O' ((σ.set i (some v)).set j (some u)) H := by
  have key : ∃ O1, Rel K G (Γ.set i z.sl) Z O1 (σ.set i (some v)) H ∧ ∀ b, O b = none → H1 b = none → O1 b = none := by
    cases z with
    | v r => exact ⟨_, R.setRv i h, fun b q _ => dropO_no q⟩
    | ls2 _ => exact h.elim
    | ls ds =>
      obtain ⟨a, vs, rfl, ⟨f1, f2, f3⟩, h1, h2⟩ := h
      refine ⟨_, R.setOwn i f2 f3 (hs a f1).1 (by rw [h1]; simp) (hs a f1).2 ⟨a, vs, rfl, ownO_self, h1, h2⟩, fun b q q1 => ownO_no q ?_⟩
      rintro rfl
      rcases apart b rfl with z | ⟨_, z⟩
      · exact z q1
      · cases z
    | dk ds =>
      obtain ⟨a, vs, rfl, ⟨f1, f2, f3⟩, h1, h2⟩ := h
      refine ⟨_, R.setOwn i f2 f3 (hs a f1).1 (by rw [h1]; simp) (hs a f1).2 ⟨a, vs, rfl, ownO_self, h1, h2⟩, fun b q q1 => ownO_no q ?_⟩
      rintro rfl
      rcases apart b rfl with z | ⟨_, z⟩
      · exact z q1
      · cases z
    | dt ds =>
      obtain ⟨a, vs, rfl, ⟨f1, f2, f3⟩, h1, h2⟩ := h
      refine ⟨_, R.setOwn i f2 f3 (hs a f1).1 (by rw [h1]; simp) (hs a f1).2 ⟨a, vs, rfl, ownO_self, h1, h2⟩, fun b q q1 => ownO_no q ?_⟩
      rintro rfl
      rcases apart b rfl with z | ⟨_, z⟩
      · exact z q1
      · cases z
  obtain ⟨O1, R1, fr⟩ := key
  have h2 : RzR K G H1 Z O1 H y u := by
    cases y with
    | v r => exact h'
    | ls2 _ => exact h'
    | ls ds => obtain ⟨a, vs, e, ⟨f1, f2, f3⟩, q⟩ := h'; exact ⟨a, vs, e, ⟨f1, f2, fr a f3 f1⟩, q⟩
    | dk ds => obtain ⟨a, vs, e, ⟨f1, f2, f3⟩, q⟩ := h'; exact ⟨a, vs, e, ⟨f1, f2, fr a f3 f1⟩, q⟩
    | dt ds => obtain ⟨a, vs, e, ⟨f1, f2, f3⟩, q⟩ := h'; exact ⟨a, vs, e, ⟨f1, f2, fr a f3 f1⟩, q⟩
  exact R1.setZ hs1 j h2
def wPar (i j : Nat) (wa wb : WE Rz) : WS := fun E Γ => wa Γ fun z Γ1 => wb Γ1 fun y Γ2 => E.nx ((Γ2.set i z.sl).set j y.sl)
theorem RzR.apart {K : Fg} {Hs Z H : Hp} {O : Ow} {z : Rz} {v : V} (h : RzR K G Hs Z O H z v) : ∀ a, v = .ref a → H a ≠ none ∨ ∃ r, z = .v r := fun a e => by
  cases z with
  | v r => exact .inr ⟨r, rfl⟩
  | ls2 _ => exact h.elim
  | ls ds => obtain ⟨b, vs, e', _, q, _⟩ := h; cases e.symm.trans e'; exact .inl (by rw [q]; simp)
  | dk ds => obtain ⟨b, vs, e', _, q, _⟩ := h; cases e.symm.trans e'; exact .inl (by rw [q]; simp)
  | dt ds => obtain ⟨b, vs, e', _, q, _⟩ := h; cases e.symm.trans e'; exact .inl (by rw [q]; simp)
theorem as_par (i j : Nat) {x y : Str} {wa wb : WE Rz} {px py pt : Pos} {kt k2 pt2} (hN : X.N.Nodup) (ha : AZ X G a wa) (hb : AZ X G b wb) (hc : X.calm = true := by rfl) (hi : X.N[i]? = some x := by rfl) (hj : X.N[j]? = some y := by rfl) (hij : i ≠ j := by decide)
    (hx : X.env.scope.names.lookup x = some .local := by rfl) (hy : X.env.scope.names.lookup y = some .local := by rfl)
    (hw : swappedStores [.Tuple [.Name x px, .Name y py] kt pt] (.Tuple [a, b] k2 pt2) X.env = pure (some [x, y]) := by rfl)
    (hs : swapsWithSole [.Tuple [.Name x px, .Name y py] kt pt] (.Tuple [a, b] k2 pt2) pos.line X.env = pure false := by rfl)
    (hq : starEach [a, b] X.env = (false, eval a X.env) :: starEach [b] X.env := by rfl) (hq2 : starEach [b] X.env = (false, eval b X.env) :: starEach [] X.env := by rfl) :
    AS X G (.Assign [.Tuple [.Name x px, .Name y py] kt pt] (.Tuple [a, b] k2 pt2) pos) (wPar i j wa wb) :=
  PSi (ps_par hc hN hi hj hij hx hy (pa_cons ha (pa_cons hb pa_nil hq2) hq) hw hs) fun T σ H ⟨Γ, Z, O, E, R, w, k⟩ => ⟨Γ, Z, O, _, R, w, fun z Γ1 v Z1 O1 H1 p1 R1 S1 b1 => ⟨Γ1, Z1, O1, _, R1, p1, fun y Γ2 u Z2 O2 H2 p2 R2 S2 b2 => by
    have b1' := S2.rz R1 R2 (fun a h => ⟨R.H0free h, R.pfree h⟩) b1
    obtain ⟨O', R'⟩ := R2.setZ2 (fun a h => ⟨R.H0free h, R.pfree h⟩) (fun a h => ⟨R1.H0free h, R1.pfree h⟩) i j b1' b2 b1.apart
    exact ⟨_, _, rfl, k.nx _ _ _ _ _ p2 R'⟩⟩⟩
end

/-! ### targets -/
abbrev WG := D → Ga → (Ga → Prop) → Prop
abbrev WGs := List D → Ga → (Ga → Prop) → Prop
def wipeG (Γ : Ga) : List Nat → Ga
  | [] => Γ
  | v :: vs => (wipeG Γ vs).set v .no
def liftG (K : Fg) (G : Gh) (vs : List Nat) (w : WG) : TG := fun v σ H Q => ∃ Γ Z O d P, Rel K G Γ Z O σ H ∧ DR K Z v d ∧ w d Γ P ∧ ∀ Γ' O' σ', P Γ' → Rel K G Γ' Z O' σ' H → (∀ us, (∀ i ∈ vs, i ∈ us) → wipe σ' us = wipe σ us) → (∀ a j, O' a = some j → O a = some j) → Q σ' H
def liftGs (K : Fg) (G : Gh) (vs : List Nat) (w : WGs) : TGs := fun v σ H Q => ∃ Γ Z O d P, Rel K G Γ Z O σ H ∧ DRs K Z v d ∧ w d Γ P ∧ ∀ Γ' O' σ', P Γ' → Rel K G Γ' Z O' σ' H → (∀ us, (∀ i ∈ vs, i ∈ us) → wipe σ' us = wipe σ us) → (∀ a j, O' a = some j → O a = some j) → Q σ' H
def AG (X : Cx) (G : Gh) (tg : Expr) (vs : List Nat) (w : WG) : Prop := PG X tg (liftG X.K G vs w)
def AGs (X : Cx) (G : Gh) (tg : List Expr) (vs : List Nat) (w : WGs) : Prop := PGs X tg (liftGs X.K G vs w)
section
variable {X : Cx} {G : Gh} {e a b c : Expr} {es : List Expr} {pos : Pos} {vs us : List Nat}
theorem PGi {t t' : TG} (h : PG X e t) (i : ∀ v σ H Q, t' v σ H Q → t v σ H Q) : PG X e t' := ⟨fun pins s σ H v u Q I r q => h.run pins s σ H v u Q I r (i v σ H Q q)⟩
theorem PGsi {t t' : TGs} (h : PGs X es t) (i : ∀ v σ H Q, t' v σ H Q → t v σ H Q) : PGs X es t' := ⟨fun pins s σ H v u Q I r q => h.run pins s σ H v u Q I r (i v σ H Q q)⟩
theorem wipe_set {σ : L2.St} {i : Nat} {x : Option V} : ∀ {us : List Nat}, i ∈ us → wipe (σ.set i x) us = wipe σ us
  | u :: us, h => by
    unfold wipe
    by_cases q : i ∈ us
    · rw [wipe_set q]
    · have : i = u := by
        rcases List.mem_cons.mp h with e | e
        · exact e
        · exact absurd e q
      subst this
      have key : ∀ us : List Nat, wipe (σ.set i x) us = wipe σ us ∨ wipe (σ.set i x) us = (wipe σ us).set i x := fun us => by
        induction us with
        | nil => exact .inr rfl
        | cons u us ih =>
          unfold wipe
          rcases ih with e | e
          · rw [e]; exact .inl rfl
          · rw [e]
            by_cases hu : u = i
            · subst hu; rw [List.set_set]; exact .inl rfl
            · rw [List.set_comm _ _ (Ne.symm hu)]; exact .inr rfl
      rcases key us with e | e
      · rw [e]
      · rw [e, List.set_set]
def gSet (i : Nat) : WG := fun d Γ P => P (Γ.set i (.rv (.dat d)))
theorem ag_name (i : Nat) {x : Str} (hN : X.N.Nodup) (hi : X.N[i]? = some x := by rfl) (hx : Loc X.env.scope x := by first | exact Or.inl rfl | exact Or.inr rfl) (hf : X.fn x = true ∨ X.env.scope.names.lookup x = some .local := by first | exact .inl rfl | exact .inr rfl | assumption) :
    AG X G (.Name x pos) [i] (gSet i) := PGi (pg_name hN hi hx hf) fun v σ H Q ⟨Γ, Z, O, d, P, R, r, w, k⟩ => k _ _ _ w (R.setRv i r) (fun us h => wipe_set (h i (by simp))) fun a j h => (dropO_some h).1
def gsNil : WGs := fun ds Γ P => match ds with
  | [] => P Γ
  | _ => False
def gsCons (w : WG) (u : WGs) : WGs := fun ds Γ P => match ds with
  | d :: r => w d Γ fun Γ' => u r Γ' P
  | [] => False
theorem ags_nil : AGs X G [] [] gsNil := PGsi pgs_nil fun v σ H Q ⟨Γ, Z, O, d, P, R, r, w, k⟩ => by
  cases r with
  | nil => exact ⟨rfl, k _ _ _ w R (fun us _ => rfl) fun _ _ h => h⟩
  | cons _ _ => exact w.elim
theorem ags_cons {w : WG} {u : WGs} (h : AG X G e vs w) (hr : AGs X G es us u) (hs : (assignEach (e :: es) X.env).map (·.2) = assign e X.env :: (assignEach es X.env).map (·.2) := by rfl) : AGs X G (e :: es) (vs ++ us) (gsCons w u) :=
  PGsi (pgs_cons h hr hs) fun v σ H Q ⟨Γ, Z, O, d, P, R, r, w, k⟩ => by
    cases r with
    | nil => exact w.elim
    | cons r1 r2 =>
      exact ⟨_, _, rfl, Γ, Z, O, _, _, R, r1, w, fun Γ1 O1 σ1 p1 R1 z1 o1 => ⟨Γ1, Z, O1, _, _, R1, r2, p1, fun Γ2 O2 σ2 p2 R2 z2 o2 => k _ _ _ p2 R2 (fun us h => by
        rw [z2 us fun i hi => h i (List.mem_append_right _ hi), z1 us fun i hi => h i (List.mem_append_left _ hi)]) fun a j h => o1 a j (o2 a j h)⟩⟩
def gTupV (n : Nat) (u : WGs) : WG := fun d Γ P => match d with
  | .tuple ds => ds.length = n ∧ u ds Γ P
  | _ => False
theorem ag_tup {k n : Nat} {u : WGs} (h : AGs X G es vs u) (hc : X.calm = true := by rfl) (hn : (assignEach es X.env).length = n := by rfl) (hst : (assignEach es X.env).findIdx? (·.1) = none := by rfl) : AG X G (.Tuple es k pos) vs (gTupV n u) :=
  PGi (pg_tup hc h hn hst) fun v σ H Q ⟨Γ, Z, O, d, P, R, r, w, k⟩ => by
    cases r with
    | tup q t => exact ⟨_, _, rfl, R.sub.sqT q, by rw [t.length]; exact w.1, Γ, Z, O, _, P, R, t, w.2, k⟩
    | _ => exact w.elim
/-- target = e, the target several names or one -/
def wAsg (w : WE Rv) (g : WG) : WS := fun E Γ => w Γ fun r Γ1 => match r with
  | .dat d => g d Γ1 E.nx
  | .pen => False
theorem as_asg {w : WE Rv} {g : WG} (h : AE X G e w) (hg : AG X G a vs g) (hs : swapsWithSole [a] e pos.line X.env = pure false := by rfl) (hw : swappedStores [a] e X.env = pure none := by rfl)
    (h1 : (assignEach [a] X.env).map (·.2) = [assign a X.env] := by rfl) : AS X G (.Assign [a] e pos) (wAsg w g) :=
  PSi (ps_asg h hg hs hw h1) fun T σ H ⟨Γ, Z, O, E, R, w, k⟩ => ⟨Γ, Z, O, _, R, w, fun r Γ1 v Z1 O1 H1 p1 R1 S1 b1 => by
    cases r with
    | pen => exact p1.elim
    | dat d => exact ⟨Γ1, Z1, O1, d, _, R1, b1, p1, fun Γ' O' σ' p' R' _ _ => k.nx _ _ _ _ _ p' R'⟩⟩
end

/-! ### what is walked -/
/-- J gives the items, while Z stands -/
def WalkD (K : Fg) (PN : Addr → Prop) (Z : Hp) (J : It) (items : List D) : Prop := ∃ (Gp : Hp → Prop) (Y : Nat → Hp → V → Hp → Prop), Walk J items.length Gp Y ∧ items.length ≤ sizeLine ∧ (∀ H, Sub Z H → Gp H) ∧
  ∀ i H x H' Zc, Sub Z Zc → Ctx PN Zc H → Y i H x H' → ∃ d Z', items[i]? = some d ∧ Grow Zc H Z' H' ∧ DR K Z' x d
def liftI (K : Fg) (G : Gh) (w : WE (List D)) : TI := fun σ H R => ∃ Γ Z O P, Rel K G Γ Z O σ H ∧ w Γ P ∧ ∀ items Γ' J Z' O' H', P items Γ' → Rel K G Γ' Z' O' σ H' → Step G.PN Z O H Z' O' H' → WalkD K G.PN Z' J items → R J H'
def AI (X : Cx) (G : Gh) (tg iter : Expr) (w : WE (List D)) : Prop := PI X tg iter (liftI X.K G w)
/-! ### for -/
def forW (g : WG) (wb : WS) (E : En) : List D → Ga → Prop
  | [], Γ => E.nx Γ
  | d :: r, Γ => g d Γ fun Γ' => wb { E with nx := forW g wb E r, ct := forW g wb E r, bk := E.nx } Γ'
def wFor (wi : WE (List D)) (g : WG) (wb : WS) : WS := fun E Γ => wi Γ fun items Γ1 => forW g wb E items Γ1
section
variable {X : Cx} {G : Gh} {tg iter : Expr} {body : List Stmt} {pos : Pos} {vs : List Nat}
abbrev Gh.wb (G : Gh) (Zb : Hp) : Gh := { G with Zb := Zb }
theorem Rel.wb {K : Fg} {Γ : Ga} {Z H : Hp} {O : Ow} {σ : L2.St} (R : Rel K G Γ Z O σ H) {Zb : Hp} (s : Sub Zb Z) : Rel K (G.wb Zb) Γ Z O σ H := ⟨R.len, R.sub, R.pen, R.own, R.sl, R.fH, R.fZ, s, R.fN⟩
theorem Rel.unwb {K : Fg} {Γ : Ga} {Z H Zb : Hp} {O : Ow} {σ : L2.St} (R : Rel K (G.wb Zb) Γ Z O σ H) (s : Sub G.Zb Zb) : Rel K G Γ Z O σ H := ⟨R.len, R.sub, R.pen, R.own, R.sl, R.fH, R.fZ, s.trans R.fB, R.fN⟩
theorem exG {tg : Expr} {ι : Type} {t : ι → TG} (h : ∀ i, PG X tg (t i)) : PG X tg (fun v σ H Q => ∃ i, t i v σ H Q) := ⟨fun pins s σ H v u Q I r ⟨i, q⟩ => (h i).run pins s σ H v u Q I r q⟩
theorem exE {e : Expr} {ι : Type} {t : ι → TE} (h : ∀ i, PE X e (t i)) : PE X e (fun σ H Q => ∃ i, t i σ H Q) := ⟨fun pins s σ H Q I ⟨i, q⟩ => (h i).run pins s σ H Q I q⟩
theorem exT {e : Expr} {ι : Type} {t : ι → TT} (h : ∀ i, PT X e (t i)) : PT X e (fun σ H Q => ∃ i, t i σ H Q) := ⟨fun pins s σ H Q I ⟨i, q⟩ => (h i).run pins s σ H Q I q⟩
theorem exI {tg e : Expr} {ι : Type} {t : ι → TI} (h : ∀ i, PI X tg e (t i)) : PI X tg e (fun σ H Q => ∃ i, t i σ H Q) := ⟨fun pins s σ H Q I ⟨i, q⟩ => (h i).run pins s σ H Q I q⟩
theorem exS {st : List Stmt} {ι : Type} {t : ι → TS} (h : ∀ i, PSs X st (t i)) : PSs X st (fun D σ H => ∃ i, t i D σ H) := ⟨fun pins s σ H D I ⟨i, q⟩ => (h i).run pins s σ H D I q⟩
theorem as_for {wi : WE (List D)} {g : WG} {wb : WS} (hp : PassesOwn (model X.prog X.w) X.A X.env X.xe) (hi : AI X G tg iter wi) (hg : ∀ Zb, AG X (G.wb Zb) tg vs g) (hb : ∀ Zb, ASs X (G.wb Zb) body wb) (hc : X.calm = true := by rfl) (hs : ∀ x, foldedSetIterable iter X.env x = pure x := by intro _; rfl) :
    AS X G (.For tg iter body [] pos) (wFor wi g wb) := PSi (ps_for hp hc hi (exG hg) (exS hb) hs) fun T σ H ⟨Γ, Z, O, E, R, w, k⟩ => by
  refine ⟨Γ, Z, O, _, R, w, fun items Γ1 J Z1 O1 H1 p1 R1 S1 ⟨Gp, Y, wk, hz, hG, hY⟩ => ?_⟩
  have sB : Sub G.Zb Z1 := R1.fB
  refine for_it (D := T) (g := fun v σ H Q => ∃ i, liftG X.K (G.wb i) vs g v σ H Q) (tb := fun D σ H => ∃ i, liftS X.K (G.wb i) wb D σ H) wk (fun i σ H => ∃ Γ Z O, Rel X.K (G.wb Z1) Γ Z O σ H ∧ forW g wb E (items.drop i) Γ) ⟨Γ1, Z1, O1, R1.wb Sub.refl, by simpa using p1⟩ (fun i σ H _ ⟨Γ, Z, O, R, _⟩ => hG H (R.fB.trans R.sub)) ?_ ?_
  · rintro i x σ H H' hi ⟨Γ, Z, O, R, q⟩ hy
    obtain ⟨d, Z', hd, gr, hr⟩ := hY i H x H' Z R.fB R.ctx hy
    have hdrop : items.drop i = d :: items.drop (i + 1) := by
      obtain ⟨h1, h2⟩ := List.getElem?_eq_some_iff.mp hd
      rw [← h2]; exact List.drop_eq_getElem_cons h1
    rw [hdrop] at q
    refine ⟨Z1, Γ, Z', O, d, _, R.grow gr, hr, q, fun Γ2 O2 σ2 p2 R2 _ _ => ?_⟩
    exact ⟨Z1, Γ2, Z', O2, _, R2, p2, ⟨fun Γ3 Z3 O3 σ3 H3 q3 R3 => ⟨Γ3, Z3, O3, R3, q3⟩, fun r Γ3 Z3 O3 σ3 H3 v q3 R3 => k.rt r Γ3 Z3 O3 σ3 H3 v q3 (R3.unwb sB), fun Γ3 Z3 O3 σ3 H3 q3 R3 => k.nx _ _ _ _ _ q3 (R3.unwb sB), fun Γ3 Z3 O3 σ3 H3 q3 R3 => ⟨Γ3, Z3, O3, R3, q3⟩⟩⟩
  · rintro σ H ⟨Γ, Z, O, R, q⟩
    rw [List.drop_length] at q
    exact k.nx _ _ _ _ _ q (R.unwb sB)

/-! ### while: by an invariant W and a measure -/
def wWhile (t : WE Bool) (wb : WS) : WS := fun E Γ => ∃ W : Nat → Ga → Prop, (∃ m, W m Γ) ∧ ∀ m Γ, W m Γ → t Γ fun k Γ1 => if k = true then ∃ N : Ga → Prop, (∀ Γ', N Γ' → ∃ m', m' < m ∧ W m' Γ') ∧ wb { E with nx := N, ct := N, bk := E.nx } Γ1 else E.nx Γ1
theorem as_while {c : Expr} {t : WE Bool} {wb : WS} (hp : PassesOwn (model X.prog X.w) X.A X.env X.xe) (hc : AT X G c t) (hb : ASs X G body wb) : AS X G (.While c body [] pos) (wWhile t wb) :=
  PSi (ps_while hp hc hb) fun T σ H ⟨Γ, Z, O, E, R, ⟨W, ⟨m0, w0⟩, turn⟩, k⟩ => by
    refine ⟨fun m σ H => ∃ Γ Z O, Rel X.K G Γ Z O σ H ∧ W m Γ, ⟨m0, Γ, Z, O, R, w0⟩, fun m σ H ⟨Γ, Z, O, R, w⟩ => ?_⟩
    refine ⟨Γ, Z, O, _, R, turn m Γ w, fun r Γ1 v Z1 O1 H1 p1 R1 S1 b1 => ?_⟩
    subst b1
    cases r with
    | false => exact iteF (k.nx _ _ _ _ _ p1 R1)
    | true =>
      obtain ⟨N, hN, p1⟩ := p1
      refine iteT ⟨fun σ H => ∃ Γ Z O, Rel X.K G Γ Z O σ H ∧ N Γ, fun σ' H' ⟨Γ, Z, O, R, w⟩ => ?_, Γ1, Z1, O1, _, R1, p1, ⟨fun Γ3 Z3 O3 σ3 H3 q3 R3 => ⟨Γ3, Z3, O3, R3, q3⟩, k.rt, fun Γ3 Z3 O3 σ3 H3 q3 R3 => k.nx _ _ _ _ _ q3 R3, fun Γ3 Z3 O3 σ3 H3 q3 R3 => ⟨Γ3, Z3, O3, R3, q3⟩⟩⟩
      obtain ⟨m', h1, h2⟩ := hN _ w
      exact ⟨m', h1, Γ, Z, O, R, h2⟩
end

/-! ### comprehensions -/
/-- tests of a comprehension -/
def ATs (X : Cx) (G : Gh) (ifs : List Expr) (w : WE Bool) : Prop := PTs X ifs (lift X.K G (fun _ _ _ _ (a b : Bool) => a = b) w)
def wYes : WE Bool := fun Γ P => P true Γ
/-- the elements, one after another; the block's own slots are forgotten behind each turn -/
def compW (vs : List Nat) (g : WG) (t : WE Bool) (w : WE Rv) : List D → List D → Ga → (List D → Ga → Prop) → Prop
  | [], acc, Γ, P => P acc Γ
  | d :: r, acc, Γ, P => g d Γ fun Γ1 => t Γ1 fun k Γ2 => if k = true then w Γ2 fun rv Γ3 => match rv with
      | .dat e => compW vs g t w r (acc ++ [e]) (wipeG Γ3 vs) P
      | .pen => False
    else compW vs g t w r acc (wipeG Γ2 vs) P
/-- slots that own nothing -/
def plainSl : Sl → Prop
  | .no => True
  | .rv _ => True
  | _ => False
def backG (Γ Γ0 : Ga) : List Nat → Ga
  | [] => Γ
  | v :: vs => (backG Γ Γ0 vs).set v (Γ0.at v)
def wComp (vs : List Nat) (wi : WE (List D)) (g : WG) (t : WE Bool) (w : WE Rv) : WE Rz := fun Γ P => (∀ v ∈ vs, plainSl (Γ.at v)) ∧ wi Γ fun items Γ1 => compW vs g t w items [] (wipeG Γ1 vs) fun acc Γ2 => P (.ls acc) (backG Γ2 Γ vs)
section
variable {X : Cx} {G : Gh} {tg iter elt : Expr} {ifs : List Expr} {pos : Pos} {vs : List Nat}
theorem ats_nil : ATs X G [] wYes := ⟨fun pins s σ H Q I ⟨Γ, Z, O, P, R, w, k⟩ => pts_nil.run pins s σ H Q I (k _ _ _ _ _ _ w R Step.refl rfl)⟩
theorem ats_one {c : Expr} {w : WE Bool} (h : AT X G c w) : ATs X G [c] w := pts_one h
theorem wipe_wipe {σ : L2.St} {us : List Nat} : wipe (wipe σ us) us = wipe σ us := by
  have key : ∀ ws : List Nat, (∀ i ∈ ws, i ∈ us) → wipe (wipe σ ws) us = wipe σ us := fun ws => by
    induction ws with
    | nil => intro _; rfl
    | cons w ws ih =>
      intro h
      show wipe ((wipe σ ws).set w none) us = _
      rw [wipe_set (h w (by simp)), ih fun i hi => h i (List.mem_cons_of_mem _ hi)]
  exact key us fun _ h => h
theorem Rel.wipeR {K : Fg} {Γ : Ga} {Z H : Hp} {O : Ow} {σ : L2.St} (R : Rel K G Γ Z O σ H) : ∀ vs : List Nat, ∃ O', Rel K G (wipeG Γ vs) Z O' (wipe σ vs) H ∧ ∀ a i, O' a = some i → O a = some i
  | [] => ⟨O, R, fun _ _ h => h⟩
  | v :: vs => by
    obtain ⟨O1, R1, h1⟩ := R.wipeR vs
    exact ⟨_, R1.setNo v (x := .no) (v := none) fun _ => trivial, fun a i h => h1 a i (dropO_some h).1⟩
theorem backG_len (Γ Γ0 : Ga) : ∀ vs : List Nat, (backG Γ Γ0 vs).s.length = Γ.s.length
  | [] => rfl
  | v :: vs => by show ((backG Γ Γ0 vs).s.set v _).length = _; rw [List.length_set, backG_len]
theorem backG_c (Γ Γ0 : Ga) : ∀ vs : List Nat, (backG Γ Γ0 vs).c = Γ.c
  | [] => rfl
  | v :: vs => backG_c Γ Γ0 vs
theorem backG_in {Γ Γ0 : Ga} (hl : Γ.s.length = Γ0.s.length) : ∀ {vs : List Nat} {i : Nat}, i ∈ vs → (backG Γ Γ0 vs).at i = Γ0.at i
  | v :: vs, i, h => by
    by_cases q : i = v
    · subst q
      by_cases hi : i < Γ0.s.length
      · exact Ga.at_same (Γ := backG Γ Γ0 vs) (by rw [backG_len, hl]; exact hi)
      · have e1 : (backG Γ Γ0 (i :: vs)).at i = .no := by
          show List.getD _ _ _ = _
          rw [List.getD_eq_getElem?_getD, List.getElem?_eq_none (by rw [backG_len, hl]; omega)]; rfl
        have e2 : Γ0.at i = .no := by
          show List.getD _ _ _ = _
          rw [List.getD_eq_getElem?_getD, List.getElem?_eq_none (by omega)]; rfl
        rw [e1, e2]
    · show ((backG Γ Γ0 vs).set v (Γ0.at v)).at i = _
      rw [Ga.at_set q]
      exact backG_in hl ((List.mem_cons.mp h).resolve_left q)
theorem backG_out {Γ Γ0 : Ga} : ∀ {vs : List Nat} {i : Nat}, i ∉ vs → (backG Γ Γ0 vs).at i = Γ.at i
  | [], _, _ => rfl
  | v :: vs, i, h => by
    show ((backG Γ Γ0 vs).set v (Γ0.at v)).at i = _
    rw [Ga.at_set (fun e => h (by simp [e]))]
    exact backG_out fun e => h (List.mem_cons_of_mem _ e)
theorem wipe_outD {σ : L2.St} {i : Nat} : ∀ {vs : List Nat}, i ∉ vs → (wipe σ vs).getD i none = σ.getD i none := fun {vs} h => by
  rw [List.getD_eq_getElem?_getD, List.getD_eq_getElem?_getD, wipe_out h]
/-- behind the block the slots are as they were -/
theorem Rel.back {K : Fg} {Γ Γ0 : Ga} {Z Z0 H H0 : Hp} {O O0 : Ow} {σ : L2.St} (R0 : Rel K G Γ0 Z0 O0 σ H0) (s : Sub Z0 Z) (R : Rel K G Γ Z O (wipe σ vs) H) (hp : ∀ v ∈ vs, plainSl (Γ0.at v)) : Rel K G (backG Γ Γ0 vs) Z O σ H where
  len := by rw [backG_len, R.len, wipe_length]
  sub := R.sub
  pen := fun p h => by rw [backG_c]; exact R.pen p h
  own := R.own
  sl := fun i => by
    by_cases h : i ∈ vs
    · rw [backG_in (by rw [R.len, wipe_length, R0.len]) h]
      have q := R0.sl i
      have z := hp i h
      cases e : Γ0.at i with
      | no => trivial
      | rv r => rw [e] at q; obtain ⟨u, a, b⟩ := q; exact ⟨u, a, b.mono s⟩
      | lst _ => rw [e] at z; exact z.elim
      | lst2 _ => rw [e] at z; exact z.elim
      | dk _ => rw [e] at z; exact z.elim
      | dt _ => rw [e] at z; exact z.elim
      | exc _ _ _ => rw [e] at z; exact z.elim
    · rw [backG_out h]
      have q := R.sl i
      rw [wipe_outD h] at q
      exact q
  fH := R.fH
  fZ := R.fZ
  fB := R.fB
  fN := R.fN
/-- while a comprehension runs: the new list at L holds what is made so far -/
def CompI (K : Fg) (G : Gh) (vs : List Nat) (σ : L2.St) (Z1 : Hp) (O1 : Ow) (H1 : Hp) (L : Addr) (n : Nat) (w : List D → Ga → Prop) (H : Hp) : Prop :=
  ∃ Γ Z O acc ds, Rel K (G.wb Z1) Γ Z O (wipe σ vs) H ∧ Step G.PN Z1 O1 H1 Z O H ∧ H L = some (.lst acc) ∧ Z L = none ∧ O L = none ∧ DRs K Z acc ds ∧ ds.length ≤ n ∧ w ds Γ
theorem Rel.updL {K : Fg} {Γ : Ga} {Z H : Hp} {O : Ow} {σ : L2.St} (R : Rel K G Γ Z O σ H) {L : Addr} {o : HO} (hz : Z L = none) (ho : O L = none) (h0 : G.H0 L = none) : Rel K G Γ Z O σ (upd H L o) where
  len := R.len
  sub := fun a u e => by rw [upd_ne (fun q => by rw [q, hz] at e; cases e)]; exact R.sub _ _ e
  pen := fun p h => by
    obtain ⟨h1, h4, h5, h6⟩ := R.pen p h
    exact ⟨h1.mono Sub.refl (fun o e => by rw [upd_ne (fun q => h6 (by rw [q]; exact h0))]; exact e) (Nat.le_refl _), h4, h5, h6⟩
  own := fun a i h => by
    obtain ⟨h1, h2, h3⟩ := R.own a i h
    exact ⟨h1, h2, by rw [upd_ne (fun q => by rw [q, ho] at h; cases h)]; exact h3⟩
  sl := fun i => (R.sl i).mono Sub.refl fun a u h e => by rw [upd_ne (fun q => by rw [q, ho] at h; cases h)]; exact e
  fH := fun a u e n => by rw [upd_ne (fun q => by rw [q, h0] at e; cases e)]; exact R.fH a u e n
  fZ := R.fZ
  fB := R.fB
  fN := R.fN
theorem Step.keepL {PN : Addr → Prop} {Z H Z' H' : Hp} {O O' : Ow} {L : Addr} {o : HO} (S : Step PN Z O H Z' O' H') (h : H L = some o) (hz : Z L = none) (ho : O L = none) (hp : ¬ PN L) : H' L = some o ∧ Z' L = none ∧ O' L = none := by
  refine ⟨S.hH _ _ h hp, ?_, ?_⟩
  · cases e : Z' L with
    | none => rfl
    | some u =>
      rcases S.zN L (by rw [e]; simp) with r | r | r
      · exact absurd hz r
      · rw [h] at r; cases r
      · exact absurd ho r
  · cases e : O' L with
    | none => rfl
    | some j => rw [S.oO L j e] at ho; cases ho
theorem Step.updL {PN : Addr → Prop} {Z H Z' H' : Hp} {O O' : Ow} {L : Addr} {o : HO} (S : Step PN Z O H Z' O' H') (h : H L = none) : Step PN Z O H Z' O' (upd H' L o) :=
  ⟨fun a u e n => by rw [upd_ne (fun q => by rw [q, h] at e; cases e)]; exact S.hH a u e n, fun a e => by
    by_cases q : a = L
    · rw [q]; exact h
    · rw [upd_ne q] at e; exact S.hN a e, S.zZ, S.zN, S.oO⟩
theorem comp_of {wi : WE (List D)} {g : WG} {t : WE Bool} {w : WE Rv} (own : List (Str × Nat)) (hv : ∀ i ∈ vs, i ∈ own.map (·.2)) {σ : L2.St} {H : Hp} {Q : VK} (h : lift X.K G (RzR X.K G) (wComp (own.map (·.2)) wi g t w) σ H Q) :
    tLc (liftI X.K G wi) (fun v σ H Q => ∃ i, liftG X.K (G.wb i) vs g v σ H Q) (fun σ H1 Q => ∃ Zb, lift X.K (G.wb Zb) (fun _ _ _ _ (a b : Bool) => a = b) t σ H1 Q) (fun σ H Q => ∃ i, lift X.K (G.wb i) (fun _ Z _ _ r v => RvR X.K G.PN Z r v) w σ H Q) (own.map (·.2)) σ H Q := by
  obtain ⟨Γ, Z, O, P, R, ⟨hp, q⟩, k⟩ := h
  refine ⟨Γ, Z, O, _, R, q, fun items Γ1 J Z1 O1 H1 p1 R1 S1 ⟨Gp, Y, wk, hz, hG, hY⟩ L hL => ?_⟩
  have sB : Sub G.Zb Z1 := R1.fB
  have h0 : G.H0 L = none := R1.H0free hL
  have hPN : ¬ G.PN L := R1.pfree hL
  obtain ⟨Ow', Rw, hO⟩ := R1.wipeR (own.map (·.2))
  refine lc_it (g := fun v σ H Q => ∃ i, liftG X.K (G.wb i) vs g v σ H Q) (tt := fun σ H1 Q => ∃ Zb, lift X.K (G.wb Zb) (fun _ _ _ _ (a b : Bool) => a = b) t σ H1 Q) (te := fun σ H Q => ∃ i, lift X.K (G.wb i) (fun _ Z _ _ r v => RvR X.K G.PN Z r v) w σ H Q) (vs := own.map (·.2)) (σ := σ) (H1 := H1) (D := L) (Qd := fun H => Q (.ref L) H) wk (fun i H => CompI X.K G (own.map (·.2)) σ Z1 O1 H1 L i (fun ds Γx => compW (own.map (·.2)) g t w (items.drop i) ds Γx fun acc Γ2 => P (.ls acc) (backG Γ2 Γ (own.map (·.2)))) H) ?_ (fun i H _ ⟨_, _, _, _, _, R, _⟩ => hG H (R.fB.trans R.sub)) ?_ ?_
  · exact ⟨_, Z1, Ow', [], [], (Rw.wb Sub.refl).updL (R1.sub.free hL) (Rw.ofree hL) h0, ⟨fun a u e n => by rw [upd_ne (fun q => by rw [q, hL] at e; cases e)]; exact e, fun a e => by
      by_cases q : a = L
      · rw [q]; exact hL
      · rw [upd_ne q] at e; exact e, Sub.refl, fun a e => .inl e, hO⟩, upd_same, R1.sub.free hL, Rw.ofree hL, .nil, Nat.le_refl _, by simpa using p1⟩
  · rintro i x H H' hi ⟨Γ2, Z2, O2, acc, ds, R2, S2, hl, hzl, hol, hds, hlen, q2⟩ hy
    obtain ⟨d, Z3, hd, gr, hr⟩ := hY i H x H' Z2 R2.fB R2.ctx hy
    have hdrop : items.drop i = d :: items.drop (i + 1) := by
      obtain ⟨h1, h2⟩ := List.getElem?_eq_some_iff.mp hd
      rw [← h2]; exact List.drop_eq_getElem_cons h1
    rw [hdrop] at q2
    have R3 := R2.grow gr
    have Sg : Step G.PN Z2 O2 H Z3 O2 H' := gr.step
    refine ⟨Z1, Γ2, Z3, O2, d, _, R3, hr, q2, fun Γ4 O4 σ4 p4 R4 z4 o4 => ⟨(z4 _ hv).trans wipe_wipe, Z1, Γ4, Z3, O4, _, R4, p4, fun r Γ5 v Z5 O5 H5 p5 R5 S5 b5 => ?_⟩⟩
    subst b5
    have S4 : Step G.PN Z2 O2 H Z3 O4 H' := ⟨Sg.hH, Sg.hN, Sg.zZ, Sg.zN, fun a j h => Sg.oO a j (o4 a j h)⟩
    have S5' : Step G.PN Z2 O2 H Z5 O5 H5 := S4.trans S5
    cases r with
    | false =>
      refine iteF ?_
      obtain ⟨O6, R6, hO6⟩ := R5.wipeR (own.map (·.2))
      rw [z4 _ hv] at R6
      obtain ⟨l1, l2, l3⟩ := S5'.keepL hl hzl hol hPN
      refine ⟨_, Z5, O6, acc, ds, by rw [← wipe_wipe]; exact R6, ?_, l1, l2, ?_, hds.mono S5'.zZ, Nat.le_succ_of_le hlen, p5⟩
      · have S6 := S2.trans S5'
        exact ⟨S6.hH, S6.hN, S6.zZ, S6.zN, fun a j h => S6.oO a j (hO6 a j h)⟩
      · cases e : O6 L with
        | none => rfl
        | some j => rw [hO6 L j e] at l3; cases l3
    | true =>
      refine iteT ⟨Z1, Γ5, Z5, O5, _, R5, p5, fun rv Γ7 v Z7 O7 H7 p7 R7 S7 b7 => ?_⟩
      have S8 : Step G.PN Z2 O2 H Z7 O7 H7 := S5'.trans S7
      obtain ⟨l1, l2, l3⟩ := S8.keepL hl hzl hol hPN
      have e1 := hds.length
      refine ⟨acc, l1, ?_, ?_⟩
      · rw [e1]; exact Nat.lt_of_lt_of_le (Nat.lt_of_le_of_lt hlen hi) hz
      cases rv with
      | pen => exact p7.elim
      | dat dd =>
        obtain ⟨O9, R9, hO9⟩ := R7.wipeR (own.map (·.2))
        rw [z4 _ hv] at R9
        have l9 : O9 L = none := by
          cases e : O9 L with
          | none => rfl
          | some j => rw [hO9 L j e] at l3; cases l3
        refine ⟨_, Z7, O9, acc ++ [v], ds ++ [dd], by rw [← wipe_wipe]; exact R9.updL l2 l9 h0, ?_, upd_same, l2, l9, (hds.mono S8.zZ).snoc b7, by rw [List.length_append]; exact Nat.succ_le_succ hlen, p7⟩
        have S10 := S2.trans S8
        have S11 : Step G.PN Z1 O1 H1 Z7 O9 H7 := ⟨S10.hH, S10.hN, S10.zZ, S10.zN, fun a j h => S10.oO a j (hO9 a j h)⟩
        exact S11.updL hL
  · rintro H ⟨Γ2, Z2, O2, acc, ds, R2, S2, hl, hzl, hol, hds, hlen, q2⟩
    rw [List.drop_length] at q2
    exact k _ _ _ _ _ _ q2 (Rel.back R ((S1.trans S2).zZ) (R2.unwb sB) hp) (S1.trans S2) ⟨L, acc, rfl, ⟨S1.hN L hL, hzl, hol⟩, hl, hds⟩
theorem az_comp {wi : WE (List D)} {g : WG} {t : WE Bool} {w : WE Rv} {scope : Scope} (own : List (Str × Nat)) (hN : X.N.Nodup) (hi : AI X G tg iter wi) (ok : BlkOk X.N X.env.scope scope own)
    (hg : ∀ (Zb : Hp) (s : Shared) (H : Hp) (C : Addr) (cl : List (Str × Addr)) (fp : List Addr), AG (X.blk s H scope (compEnvC scope cl C X.env) fp) (G.wb Zb) tg vs g)
    (ht : ∀ (Zb : Hp) (s : Shared) (H : Hp) (C : Addr) (cl : List (Str × Addr)) (fp : List Addr), ATs (X.blk s H scope (compEnvC scope cl C X.env) fp) (G.wb Zb) ifs t)
    (he : ∀ (Zb : Hp) (s : Shared) (H : Hp) (C : Addr) (cl : List (Str × Addr)) (fp : List Addr), AE (X.blk s H scope (compEnvC scope cl C X.env) fp) (G.wb Zb) elt w)
    (hv : ∀ i ∈ vs, i ∈ own.map (·.2) := by decide) (hc : X.calm = true := by rfl) (hs : ∀ x, foldedSetIterable iter X.env x = pure x := by intro _; rfl) : AZ X G (.ListComp elt [⟨tg, iter, ifs, 0⟩] scope pos) (wComp (own.map (·.2)) wi g t w) := by
  have exTs : ∀ (s : Shared) (H : Hp) (C : Addr) (cl : List (Str × Addr)) (fp : List Addr), PTs (X.blk s H scope (compEnvC scope cl C X.env) fp) ifs (fun σ H1 Q => ∃ Zb, lift X.K (G.wb Zb) (fun _ _ _ _ (a b : Bool) => a = b) t σ H1 Q) := fun s H C cl fp => ⟨fun pins s1 σ H1 Q I ⟨Zb, q⟩ => (ht Zb s H C cl fp).run pins s1 σ H1 Q I q⟩
  refine PEi (pe_lc hc hN hi ok (fun s H C cl fp => exG (t := fun Zb => liftG X.K (G.wb Zb) vs g) fun Zb => hg Zb s H C cl fp) exTs (fun s H C cl fp => exE (t := fun Zb => lift X.K (G.wb Zb) (fun _ Z _ _ r v => RvR X.K G.PN Z r v) w) fun Zb => he Zb s H C cl fp) hs) fun σ H Q h => comp_of own hv h
end
end VL
namespace VL
open PySem PySem.Spec PyProof.Rows L2

/-! ### errors -/
structure Exc where
  c : Str
  fs : List (Str × D)
/-- an error of the class that the module calls e.c, its own dict at dd -/
def ExR (K : Fg) (mg : Str → Option Value) (Z H : Hp) (e : Exc) (cls : Value) (d : Option Addr) : Prop :=
  ∃ (C dd : Addr) (fv : List (Str × V)), mg e.c = some (.ref C) ∧ cls = .ref C ∧ d = some dd ∧ Z dd = some (.xd fv) ∧ FsR K Z fv e.fs
def WEx (K : Fg) (mg : Str → Option Value) (G : Gh) (Ex : Exc → Ga → Prop) : WX := fun cls d σ H => ∃ e Γ Z O, Rel K (G.wb G.Z0) Γ Z O σ H ∧ ExR K mg Z H e cls d ∧ Ex e Γ

/-! ### the promise of a def, told by data -/
abbrev WF := List Rv → Nat → (Rv → Nat → Prop) → (Exc → Nat → Prop) → Prop
structure Fn (PN : Addr → Prop) (Z H Z' H' : Hp) (c : Nat) : Prop where
  hH : ∀ a o, H a = some o → ¬ PN a → H' a = some o
  hN : ∀ a, H' a = none → H a = none
  zZ : Sub Z Z'
  zs : Sub Z' H'
  zN : ∀ a, Z' a ≠ none → Z a ≠ none ∨ H a = none
  pen : ∀ p, PN p → PenOk Z' H' p c ∧ Z' p = none
def spOf (K : Fg) (mg : Str → Option Value) (W : WF) : Sp := fun vs H Q E => ∃ (PN : Addr → Prop) (Z : Hp) (c : Nat) (as : List Rv) (P : Rv → Nat → Prop) (R : Exc → Nat → Prop), Sub Z H ∧ (∀ p, PN p → PenOk Z H p c ∧ Z p = none) ∧ RvRs K PN Z as vs ∧ W as c P R ∧
  (∀ r c' v Z' H', P r c' → Fn PN Z H Z' H' c' → RvR K PN Z' r v → Q v H') ∧ (∀ e c' cls d Z' H', R e c' → Fn PN Z H Z' H' c' → ExR K mg Z' H' e cls d → E cls d H')
structure RoomG (k : Nat) (A : Around) : Prop where
  room : Room k A
  gd : A.guards = some []
theorem RoomG.mono {j k : Nat} {A : Around} (r : RoomG k A) (h : j ≤ k) : RoomG j A := ⟨r.room.mono h, r.gd⟩
/-- the def at f keeps W, with k calls' room at most -/
structure FnV (P : Program) (w : World) (K : Fg) (mg : Str → Option Value) (base : Heap) (k : Nat) (f : Addr) (fd : FuncData) (ps : List Str) (W : WF) : Prop where
  len : ∀ as c P R, W as c P R → as.length = ps.length
  run : ∀ (A : Around) (outer : List Env) (s : Shared) (H : Hp) (args : Args) (us : List Value) (vs : List V) (Q : VK) (E : XK), RoomG k A → Env0 P w K mg base A outer s H → BindsTo s fd args (ps.zip us) → Vals vs us → spOf K mg W vs H Q E →
    codeAny (model P w) A (.call (.ref f) args) (CR (L2.CX P w) outer P w H s Q E) s
theorem FnV.mono {P : Program} {w : World} {K : Fg} {mg : Str → Option Value} {base : Heap} {j k : Nat} {f : Addr} {fd : FuncData} {ps : List Str} {W : WF} (F : FnV P w K mg base j f fd ps W) (h : j ≤ k) : FnV P w K mg base k f fd ps W :=
  ⟨F.len, fun A o s H a u v Q E r => F.run A o s H a u v Q E (r.mono h)⟩
theorem FnV.imp {P : Program} {w : World} {K : Fg} {mg : Str → Option Value} {base : Heap} {k : Nat} {f : Addr} {fd : FuncData} {ps : List Str} {W W' : WF} (F : FnV P w K mg base k f fd ps W) (h : ∀ as c P R, W' as c P R → W as c P R) : FnV P w K mg base k f fd ps W' :=
  ⟨fun as c P R q => F.len as c P R (h _ _ _ _ q), fun A o s H a u v Q E r e b x ⟨PN, Z, c, as, P1, R1, h1, h2, h3, h4, h5, h6⟩ => F.run A o s H a u v Q E r e b x ⟨PN, Z, c, as, P1, R1, h1, h2, h3, h _ _ _ _ h4, h5, h6⟩⟩

section
variable {K : Fg} {G : Gh} {Γ : Ga} {Z H Z' H' : Hp} {O : Ow} {σ : L2.St}
theorem Rel.fn (R : Rel K G Γ Z O σ H) {c : Nat} (f : Fn G.PN Z H Z' H' c) : Rel K G ⟨Γ.s, c⟩ Z' O σ H' where
  len := R.len
  sub := f.zs
  pen := fun p hp => ⟨(f.pen p hp).1, (f.pen p hp).2, (R.pen p hp).2.2.1, (R.pen p hp).2.2.2⟩
  own := fun a i h => by
    obtain ⟨h1, h2, h3⟩ := R.own a i h
    refine ⟨?_, h2, fun e => h3 (f.hN a e)⟩
    cases e : Z' a with
    | none => rfl
    | some o =>
      rcases f.zN a (by rw [e]; simp) with q | q
      · exact absurd h1 q
      · exact absurd q h3
  sl := fun i => (R.sl i).mono f.zZ fun a o h e => f.hH a o e (R.npen h)
  fH := fun a o h n => f.hH a o (R.fH a o h n) n
  fZ := R.fZ.trans f.zZ
  fB := R.fB.trans f.zZ
  fN := fun a h => by
    rcases f.zN a h with q | q
    · exact R.fN a q
    · exact .inr (R.H0free q)
theorem Fn.step {PN : Addr → Prop} {c : Nat} (f : Fn PN Z H Z' H' c) : Step PN Z O H Z' O H' := ⟨f.hH, f.hN, f.zZ, fun a h => (f.zN a h).elim .inl fun h => .inr (.inl h), fun _ _ h => h⟩
end

section
variable {X : Cx} {G : Gh} {Ex : Exc → Ga → Prop} {e : Expr} {es : List Expr} {pos : Pos}
theorem run_fv {k : Nat} {f : Addr} {fd : FuncData} {ps : List Str} {W : WF} {T : WX} {pins : List (Addr × Obj)} {σ : L2.St} {H : Hp} {s : Shared} {Q : VK} {us : List Value} {vs : List V} (F : FnV X.prog X.w X.K X.mg X.base k f fd ps W) (room : RoomG k X.A) (hb : Binds X.K fd ps []) (tk : Takes X T)
    (I : Inv X pins σ H s) (r : Vals vs us) (h : spOf X.K X.mg W vs H Q fun cls d H' => T cls d σ H') : wpAny (model X.prog X.w) X.A (call (.ref f) us) (EP X pins σ Q) X.xe s := by
  have many : us.length = ps.length := by
    obtain ⟨_, _, _, as, _, _, _, _, h3, h4, _⟩ := h
    rw [← F.len _ _ _ _ h4, h3.length, Paired.length r]
  have bound := hb s us I.kIn (by rw [List.append_nil]; exact many)
  rw [List.append_nil] at bound
  refine wpAny_call (codeAny_mono (F.run X.A X.stack s H ⟨us, []⟩ us vs Q _ room I.env0 bound r h) ?_)
  rintro (er | fl) s' z
  · exact tk er s' (XE.of_call I (fun _ _ _ q => q) z)
  · cases fl <;> first | exact I.after z | exact False.elim z
def wCall (W : WF) (Ex : Exc → Ga → Prop) (ws : WE (List Rv)) : WE Rv := fun Γ P => ws Γ fun rs Γ1 => W rs Γ1.c (fun r c => P r ⟨Γ1.s, c⟩) fun e c => Ex e ⟨Γ1.s, c⟩
theorem call_sp {K : Fg} {mg : Str → Option Value} {W : WF} {Γ1 : Ga} {Z Z1 H H1 : Hp} {O O1 : Ow} {σ : L2.St} {P : Rv → Ga → Prop} {Q : VK} {rs : List Rv} {vs : List V} (R1 : Rel K G Γ1 Z1 O1 σ H1) (S1 : Step G.PN Z O H Z1 O1 H1) (b : RvRs K G.PN Z1 rs vs)
    (h : W rs Γ1.c (fun r c => P r ⟨Γ1.s, c⟩) fun e c => Ex e ⟨Γ1.s, c⟩) (k : ∀ r Γ' v Z' O' H', P r Γ' → Rel K G Γ' Z' O' σ H' → Step G.PN Z O H Z' O' H' → RvR K G.PN Z' r v → Q v H') : spOf K mg W vs H1 Q fun cls d H' => WEx K mg G Ex cls d σ H' :=
  ⟨G.PN, Z1, Γ1.c, rs, _, _, R1.sub, fun p hp => ⟨(R1.pen p hp).1, (R1.pen p hp).2.1⟩, b, h, fun r c v Z' H' p f q => k _ _ _ _ _ _ p (R1.fn f) (S1.trans f.step) q, fun e c cls d Z' H' q f x => ⟨e, _, Z', O1, (R1.fn f).wb (R1.fZ.trans f.zZ), x, q⟩⟩
theorem ae_call {k : Nat} {f : Addr} {fd : FuncData} {ps : List Str} {W : WF} {ws : WE (List Rv)} {x : Str} {p : Pos} (F : FnV X.prog X.w X.K X.mg X.base k f fd ps W) (room : RoomG k X.A) (hm : X.mg x = some (.ref f)) (hk : PySem.W.keepIn X.K (.ref f) = true) (hb : Binds X.K fd ps []) (tk : Takes X (WEx X.K X.mg G Ex))
    (ha : AA X G (e :: es) ws) (hg : Gl X x := by rfl) (hdb : (x == ("__debug__" : Str)) = false := by decide) (he : starEach (e :: es) X.env = (false, eval e X.env) :: starEach es X.env := by rfl) (hpl : (backTo pos (starEach es X.env)).any (·.1) = false := by rfl) :
    AE X G (.Call (.Name x p) (e :: es) [] pos) (wCall W Ex ws) := ⟨fun pins s σ H Q I ⟨Γ, Z, O, P, R, w, k⟩ => wpAny_Call_Name_kw (ld_glob I hg hm (PySem.W.callWith_K (h₀ := X.base) I.ok.mod.kin hk
      (thn (ha.run pos pins s σ H _ I ⟨Γ, Z, O, _, R, w, fun rs Γ1 vs Z1 O1 H1 p1 R1 S1 b1 => (show ∃ rs Γ1 Z1 O1, W rs Γ1.c (fun r c => P r ⟨Γ1.s, c⟩) (fun e c => Ex e ⟨Γ1.s, c⟩) ∧ Rel X.K G Γ1 Z1 O1 σ H1 ∧ Step G.PN Z O H Z1 O1 H1 ∧ RvRs X.K G.PN Z1 rs vs from ⟨rs, Γ1, Z1, O1, p1, R1, S1, b1.1⟩)⟩)
        fun us s1 ⟨vs, H1, I1, r, rs, Γ1, Z1, O1, p1, R1, S1, b1⟩ => ⟨I1.kIn, run_fv F room hb tk I1 r (call_sp R1 S1 b1 p1 k)⟩) he hpl) hdb)⟩
theorem ae_call0 {k : Nat} {f : Addr} {fd : FuncData} {ps : List Str} {W : WF} {x : Str} {p : Pos} (F : FnV X.prog X.w X.K X.mg X.base k f fd ps W) (room : RoomG k X.A) (hm : X.mg x = some (.ref f)) (hk : PySem.W.keepIn X.K (.ref f) = true) (hb : Binds X.K fd ps []) (tk : Takes X (WEx X.K X.mg G Ex)) (hg : Gl X x := by rfl)
    (hdb : (x == ("__debug__" : Str)) = false := by decide) : AE X G (.Call (.Name x p) [] [] pos) (wCall W Ex wNil) :=
  ⟨fun pins s σ H Q I ⟨Γ, Z, O, P, R, w, k⟩ => wpAny_Call_Name_kw (ld_glob I hg hm (PySem.W.callWith_K0 I.kIn hk (run_fv (us := []) F room hb tk I .nil (call_sp R Step.refl .nil w k))) hdb)⟩

/-! ### raise C(..), C an error with fields of its own -/
/-- what the top says of a class of errors with two fields (with one: g is none) -/
structure ErrT (K : Fg) (mg : Str → Option Value) (x : Str) (f : Str) (g : Option Str) (C fI : Addr) (fd : FuncData) (ps : List Str) : Prop where
  gC : mg x = some (.ref C)
  ox : OexC K C
  iC : PySem.W.findIn K (.ref C) "__init__" = some (some (.ref fI))
  tI : PySem.W.typeIn K (.ref fI) = some (.type "function")
  nf : PySem.W.findIn K (.ref C) f = some none
  ng : ∀ y, g = some y → PySem.W.findIn K (.ref C) y = some none
  bi : Binds K fd ps []
  ok : ∀ (P : Program) (w : World) (base : Heap), FnOk P w K mg base (L2.CX P w) 1 fI fd ps fun vs H Q _ => match g with
    | none => ∃ a v, vs = [.ref a, v] ∧ H a = some (exo a C none) ∧ ∀ d, H d = none → d ≠ a → Q .non (upd (upd H d (exd d [(f, v)])) a (exo a C (some d)))
    | some y => ∃ a v u, vs = [.ref a, v, u] ∧ H a = some (exo a C none) ∧ ∀ d, H d = none → d ≠ a → Q .non (upd (upd (upd H d (exd d [(f, v)])) a (exo a C (some d))) d (exd d [(y, u), (f, v)]))
def wRaise (x : Str) (f : Str) (g : Option Str) (Ex : Exc → Ga → Prop) (ws : WE (List Rv)) : WS := fun _ Γ => ws Γ fun rs Γ1 => dats rs fun ds => match g, ds with
  | none, [d] => Ex ⟨x, [(f, d)]⟩ Γ1
  | some y, [d, d'] => Ex ⟨x, [(y, d'), (f, d)]⟩ Γ1
  | _, _ => False
theorem upd_del {H : Hp} {a d : Addr} {H' : Hp} {o : HO} (ha : H a = none) (h : ∀ b, b ≠ a → b ≠ d → H' b = H b) : upd (del H' a) d o = upd H d o := by
  funext b
  by_cases q : b = d
  · subst q; rw [upd_same, upd_same]
  · rw [upd_ne q, upd_ne q]
    by_cases r : b = a
    · subst r; rw [del_same, ha]
    · rw [del_ne r]; exact h b r q
theorem as_raise {x f : Str} {g : Option Str} {C fI : Addr} {fd : FuncData} {ps : List Str} {ws : WE (List Rv)} {p : Pos} {pos' : Pos} (T : ErrT X.K X.mg x f g C fI fd ps) (room : RoomG 2 X.A) (tk : Takes X (WEx X.K X.mg G Ex)) (hx : Passes (L2.CX X.prog X.w) X (fun _ _ _ => False)) (ha : AA X G (e :: es) ws)
    (hl : (e :: es).length ≤ 1000 := by decide) (hc : X.calm = true := by rfl) (hg : Gl X x := by rfl) (hdb : (x == ("__debug__" : Str)) = false := by decide) (he : starEach (e :: es) X.env = (false, eval e X.env) :: starEach es X.env := by rfl) (hpl : (backTo pos (starEach es X.env)).any (·.1) = false := by rfl) :
    AS X G (.Raise (some (.Call (.Name x p) (e :: es) [] pos)) none pos') (wRaise x f g Ex ws) := by
  refine PSi (ps_raise hc tk (pmk_oex T.ox T.iC T.tI (T.ok X.prog X.w X.base) room.room T.bi .nil hx hg T.gC ha hdb he hpl)) fun T' σ H ⟨Γ, Z, O, E, R, w, k⟩ => ?_
  refine ⟨Γ, Z, O, _, R, w, fun rs Γ1 vs Z1 O1 H1 p1 R1 S1 ⟨b1, l1⟩ => ⟨by rw [l1]; exact hl, fun a han => ?_⟩⟩
  obtain ⟨ds, hds, q⟩ := dats_of b1 p1
  rw [List.append_nil]
  -- the end: the error with its fields
  have fin : ∀ (d : Addr) (fs : List (Str × V)) (es : List (Str × D)) (H2 : Hp), H1 d = none → (∀ b, b ≠ a → b ≠ d → H2 b = H1 b) → FsR X.K Z1 fs es → Ex ⟨x, es⟩ Γ1 → WEx X.K X.mg G Ex (.ref C) (some d) σ (upd (del H2 a) d (.xd fs)) := fun d fs es H2 hd h2 hf q => by
    rw [upd_del han h2]
    have g := Grow.new (o := .xd fs) R1.sub hd
    exact ⟨⟨x, es⟩, Γ1, _, O1, (R1.grow g).wb (R1.fZ.trans g.zz), ⟨C, d, fs, T.gC, rfl, rfl, upd_same, hf.mono g.zz⟩, q⟩
  cases g with
  | none =>
    match ds, vs, hds, q with
    | [d0], [v], .cons h1 .nil, q =>
      refine ⟨a, v, rfl, upd_same, fun d hd hda => ⟨rfl, d, [(f, v)], ?_, ?_, ?_, ?_⟩⟩
      · exact upd_same
      · rw [upd_ne hda, upd_same]
      · rw [upd_ne hda] at hd; exact hd
      · refine fin d _ [(f, d0)] _ (by rw [upd_ne hda] at hd; exact hd) (fun b h1 h2 => ?_) (.cons h1 .nil) q
        rw [upd_ne h1, upd_ne h2, upd_ne h1]
  | some y =>
    match ds, vs, hds, q with
    | [d0, d1], [v, u], .cons h1 (.cons h2 .nil), q =>
      refine ⟨a, v, u, rfl, upd_same, fun d hd hda => ⟨rfl, d, [(y, u), (f, v)], ?_, ?_, ?_, ?_⟩⟩
      · rw [upd_ne (Ne.symm hda)]; exact upd_same
      · exact upd_same
      · rw [upd_ne hda] at hd; exact hd
      · refine fin d _ [(y, d1), (f, d0)] _ (by rw [upd_ne hda] at hd; exact hd) (fun b h1 h2 => ?_) (.cons h2 (.cons h1 .nil)) q
        rw [upd_ne h2, upd_ne h1, upd_ne h2, upd_ne h1]
end

/-! ### the rule for a def -/
def startG (n : Nat) (as : List Rv) (c : Nat) : Ga := ⟨as.map .rv ++ List.replicate (n - as.length) .no, c⟩
def wDef (n m : Nat) (ws : (Exc → Ga → Prop) → WS) : WF := fun as c P R => as.length = m ∧ ws (fun e Γ => R e Γ.c) ⟨fun Γ => P (.dat .none) Γ.c, fun r Γ => P r Γ.c, fun _ => False, fun _ => False⟩ (startG n as c)
section
variable {P : Program} {w : World} {K : Fg} {mg : Str → Option Value} {base : Heap}
theorem start_get {N : List Str} {PN : Addr → Prop} {Z : Hp} {H : Hp} {G : Gh} {O : Ow} (hG : G.PN = PN) {as : List Rv} {vs : List V} (h : RvRs K PN Z as vs) (c : Nat) (i : Nat) : SlR K G Z O H i ((startG N.length as c).at i) ((L2.start N vs).getD i none) := by
  have key : ∀ {as : List Rv} {vs : List V} (i n : Nat), RvRs K PN Z as vs → (∃ r u, ((as.map Sl.rv) ++ List.replicate n Sl.no).getD i Sl.no = .rv r ∧ (vs.map some ++ List.replicate n none).getD i none = some u ∧ RvR K PN Z r u) ∨ ((as.map Sl.rv) ++ List.replicate n Sl.no).getD i Sl.no = .no := by
    intro as vs i n h
    induction h generalizing i with
    | nil =>
      right
      simp only [List.map_nil, List.nil_append, List.getD_eq_getElem?_getD, List.getElem?_replicate]
      split <;> rfl
    | cons a b ih =>
      cases i with
      | zero => exact .inl ⟨_, _, rfl, rfl, a⟩
      | succ i =>
        rcases ih i with ⟨r, u, q1, q2, q3⟩ | q
        · exact .inl ⟨r, u, by simpa using q1, by simpa using q2, q3⟩
        · right; simpa using q
  have e : vs.length = as.length := h.length.symm
  show SlR K G Z O H i ((as.map Sl.rv ++ List.replicate (N.length - as.length) Sl.no).getD i Sl.no) ((vs.map some ++ List.replicate (N.length - vs.length) none).getD i none)
  rw [e]
  rcases key i (N.length - as.length) h with ⟨r, u, q1, q2, q3⟩ | q
  · rw [q1, q2]; subst hG; exact ⟨u, rfl, q3⟩
  · rw [q]; trivial
theorem start_rel {N : List Str} {PN : Addr → Prop} {Z H : Hp} {as : List Rv} {vs : List V} {c : Nat} (s : Sub Z H) (p : ∀ p, PN p → PenOk Z H p c ∧ Z p = none) (h : RvRs K PN Z as vs) (hl : as.length ≤ N.length) : Rel K ⟨PN, Z, H, Z⟩ (startG N.length as c) Z (fun _ => none) (L2.start N vs) H where
  len := by
    have e := h.length
    show (as.map Sl.rv ++ List.replicate (N.length - as.length) Sl.no).length = (vs.map some ++ List.replicate (N.length - vs.length) none).length
    rw [List.length_append, List.length_append, List.length_map, List.length_map, List.length_replicate, List.length_replicate, e]
  sub := s
  pen := fun q hq => ⟨(p q hq).1, (p q hq).2, rfl, by
    exact (p q hq).1.there⟩
  own := fun a i e => by cases e
  sl := fun i => start_get rfl h c i
  fH := fun a o e _ => e
  fZ := Sub.refl
  fB := Sub.refl
  fN := fun a e => .inl e
theorem Rel.out {PN : Addr → Prop} {Z0 H0 Zb : Hp} {Γ : Ga} {Z H : Hp} {O : Ow} {σ : L2.St} (R : Rel K ⟨PN, Z0, H0, Zb⟩ Γ Z O σ H) : Fn PN Z0 H0 Z H Γ.c :=
  ⟨fun a o e n => R.fH a o e n, fun a e => R.H0free e, R.fZ, R.sub, R.fN, fun p hp => ⟨(R.pen p hp).1, (R.pen p hp).2.1⟩⟩
/-- THE RULE: a def of the text keeps what its body's derivation says -/
theorem fv_of {x qual : Str} {st : Stmt} {f : Addr} {fd : FuncData} {N ps : List Str} {k : Nat} {ws : (Exc → Ga → Prop) → WS} (F : Fun K x qual st f fd) (S : FnScope N ps (defScope st))
    (hbody : ∀ (cdv : Value) (A : Around) (outer : List Env) (s : Shared) (H : Hp) (E : XK) (G : Gh) (Ex : Exc → Ga → Prop), RoomG k (A.deeper (envOfC qual (defScope st) s.heap.objs.size f cdv)) →
      Takes (cxOf (L2.CX P w) P w K mg base N qual (defScope st) f cdv A outer s H E) (WEx K mg G Ex) → ASs (cxOf (L2.CX P w) P w K mg base N qual (defScope st) f cdv A outer s H E) (G.wb G.Z0) (defBody st) (ws Ex)) : FnV P w K mg base (k + 1) f fd ps (wDef N.length ps.length ws) := by
  obtain ⟨oc, od, kV, doc, pm, an, cdv, ct, osl, rfl, lk, hcd⟩ := F.ex
  have hpl : ps.length ≤ N.length := by have := congrArg List.length S.pre; rw [List.length_take] at this; omega
  have hlen : ∀ vs H Q E, spOf K mg (wDef N.length ps.length ws) vs H Q E → vs.length = ps.length := fun vs H Q E ⟨_, _, _, as, _, _, _, _, h3, h4, _⟩ => by rw [← h3.length]; exact h4.1
  refine ⟨fun as c P R q => q.1, fun A outer s H args us vs Q E room e0 hb hv hsp => ?_⟩
  -- HandS' rule, at this very A
  have hl := hlen _ _ _ _ hsp
  have KX : K.In s.heap := e0.mod.kin.keeps fun b o e => (e0.bs b o e).1
  have lim : s.heap.NoLimit := e0.mod.nolimit.keeps fun b o e => (e0.bs b o e).1
  have kinds : ∀ y ∈ ps.zip us, (defScope st).names.lookup y.1 = some .local ∨ ((defScope st).names.lookup y.1 = some .cell ∧ ((cellsFrom (s.heap.objs.size + 1) (defScope st).names []).lookup y.1).isSome = true) := by
    rintro ⟨n, v⟩ hy
    exact (S.par n (List.of_mem_zip hy).1).elim .inl fun q => .inr ⟨q, PySem.W.cellsFrom_some _ _ _ (.inl q)⟩
  refine codeAny_call_function room.room.depth (KX _ _ lk) rfl S.co S.gen rfl (PySem.W.codeRec_of KX hcd) (hb _ _ _ _ (wpAny_newFunctionEnv_cells S.kind kinds ?_))
  rintro env rfl s1 inCall
  refine ⟨lim.keeps inCall.toInCall.keep, codeAny_func ?_⟩
  obtain ⟨PN, Z, c, as, P1, R1, sub, pens, hr, ⟨hal, hw⟩, kQ, kE⟩ := hsp
  have room' : RoomG k (A.deeper (envOfC qual (defScope st) s.heap.objs.size f cdv)) := ⟨room.room.deeper _, room.gd⟩
  have body := hbody cdv A outer s H E ⟨PN, Z, H, Z⟩ (fun e Γ => R1 e Γ.c) room' ((takes_of rfl rfl rfl rfl).imp fun cls d σ H' ⟨e, Γ, Z', O, R, x, q⟩ => kE e _ cls d Z' H' q R.out x)
  have I := inv_start (CX := L2.CX P w) (E := E) S room.room.hd e0 hl hv inCall
  have start := body.run [] s1 (L2.start N vs) H { nx := fun _ H' => Q .non H', rt := Q } I ⟨_, Z, fun _ => none, _, start_rel sub pens hr (by rw [hal]; exact hpl), hw,
    ⟨fun Γ Z' O σ H' q R => kQ _ _ _ _ _ q R.out .non, fun r Γ Z' O σ H' v q R x => kQ _ _ _ _ _ q R.out x, fun _ _ _ _ _ q => q.elim, fun _ _ _ _ _ q => q.elim⟩⟩
  refine wpAny_mono start ?_ fun _ _ h => h
  intro fl s' q
  cases fl with
  | next => obtain ⟨σ', H', J, q⟩ := q; exact ⟨.non, H', J.os, J.bare, J.base, J.hok, rfl, q⟩
  | ret u => obtain ⟨v, σ', H', J, rv, q⟩ := q; exact ⟨v, H', J.os, J.bare, J.base, J.hok, rv, q⟩
  | brk => obtain ⟨_, _, _, q⟩ := q; exact q.elim
  | cont => obtain ⟨_, _, _, q⟩ := q; exact q.elim
end
end VL
namespace VL
open PySem PySem.Spec PyProof.Rows L2

/-! ### what is walked: the forms -/
section
variable {X : Cx} {G : Gh} {tg e e2 : Expr} {es : List Expr} {pos p : Pos}
theorem walkD_at {K : Fg} {PN : Addr → Prop} {Z : Hp} {J : It} {xs : List V} {ds : List D} {Gp : Hp → Prop} (w : Walk J xs.length Gp (YAt xs)) (hz : xs.length ≤ sizeLine) (hG : ∀ H, Sub Z H → Gp H) (h : DRs K Z xs ds) : WalkD K PN Z J ds := by
  have e := h.length
  refine ⟨Gp, YAt xs, by rw [← e]; exact w, by rw [← e]; exact hz, hG, ?_⟩
  rintro i H x H' Zc hs C ⟨rfl, hx⟩
  obtain ⟨d, h1, h2⟩ := h.getV hx
  exact ⟨d, Zc, h1, Grow.refl C.sub, h2.mono hs⟩
/-- a list or a tuple that stays -/
def wItems (w : WE Rv) : WE (List D) := fun Γ P => w Γ fun r Γ' => match r with
  | .dat (.list ds) => P ds Γ'
  | .dat (.tuple ds) => P ds Γ'
  | _ => False
theorem ai_seq {w : WE Rv} (h : AE X G e w) : AI X G tg e (wItems w) := by
  refine ⟨fun pins s σ H R I ⟨Γ, Z, O, P, Re, q, k⟩ => ?_⟩
  refine thn (h.run pins s σ H (fun v H1 => ∃ r Γ1 Z1 O1, (match r with | .dat (.list ds) => P ds Γ1 | .dat (.tuple ds) => P ds Γ1 | _ => False) ∧ Rel X.K G Γ1 Z1 O1 σ H1 ∧ Step G.PN Z O H Z1 O1 H1 ∧ RvR X.K G.PN Z1 r v) I ⟨Γ, Z, O, _, Re, q, fun r Γ1 v Z1 O1 H1 p1 R1 S1 b1 => ⟨r, Γ1, Z1, O1, p1, R1, S1, b1⟩⟩) ?_
  rintro u s1 ⟨v, H1, I1, rv, r, Γ1, Z1, O1, p1, R1, S1, b1⟩
  have pie : ∀ {a : Addr} {J : It} {tn : Nat → Heap → Prop} {h2 : Heap}, (∀ b o, s1.heap.get? b = some o → h2.get? b = some o) → Turn X.prog X.w X.K tg J [s1.heap.objs.size] s1.heap.objs.size tn → tn 0 h2 → R J H1 → PIE X pins σ tg R (.ref s1.heap.objs.size) { s1 with heap := h2 } := fun kk T t0 q => by
    refine ⟨_, _, _, _, H1, rfl, I1.kept (t' := s1.toks) kk, T, t0, fun b hb => ?_, q⟩
    obtain rfl : b = s1.heap.objs.size := by simpa using hb
    exact I1.fpOk (Nat.le_refl _) (I1.hok.fresh (Nat.le_refl _))
  cases r with
  | pen => exact p1.elim
  | dat d =>
    have b1' : DR X.K Z1 v d := b1
    cases b1' with
    | @lst a xs ds hq ht =>
      obtain rfl : u = .ref a := rv
      have hq' : SqL X.K H1 a xs := SqL.of (R1.sub _ _ hq)
      obtain ⟨its, rvs, pl, hz⟩ := I1.list hq'
      refine wpAny_pyIter_list pl.isList (pie (a := a) (fun b o e => Heap.get?_push_of_some _ e) (turn_list a _) ⟨_, Heap.get?_push_size _ rfl, rfl, rfl⟩ (k _ _ _ _ _ _ p1 R1 S1 (walkD_at walk_list hz (fun H s => SqL.of (s _ _ hq)) ht)))
    | @tup a xs ds hq ht =>
      obtain rfl : u = .ref a := rv
      obtain ⟨its, rvs, pl, hz⟩ := I1.tuple (R1.sub.sqT hq)
      refine wpAny_pyIter_tuple (show s1.heap.IsTuple a its.toArray from pl) (pie (a := a) (fun b o e => Heap.get?_push_of_some _ e) (turn_tuple a _) ⟨_, Heap.get?_push_size _ rfl, rfl, rfl⟩ (k _ _ _ _ _ _ p1 R1 S1 (walkD_at walk_tup hz (fun H s => s.sqT hq) ht)))
    | _ => exact p1.elim
/-- range(n), range(a, b) -/
def rangeD (lo : Int) (n : Nat) : List D := (List.range n).map fun i => .int (lo + (i : Nat))
theorem rangeD_get {lo : Int} {n i : Nat} (h : i < n) : (rangeD lo n)[i]? = some (.int (lo + (i : Nat))) := by
  unfold rangeD
  rw [List.getElem?_map, List.getElem?_range h]; rfl
theorem rangeD_length {lo : Int} {n : Nat} : (rangeD lo n).length = n := by unfold rangeD; rw [List.length_map, List.length_range]
theorem walkD_range {K : Fg} {PN : Addr → Prop} {Z : Hp} {lo : Int} {n : Nat} (hz : n ≤ sizeLine) : WalkD K PN Z (Itr lo n) (rangeD lo n) := by
  have w : Walk (Itr lo n) n (fun _ => True) (fun i H x H' => i < n ∧ H' = H ∧ x = .int (lo + (i : Nat))) := ⟨fun i H h _ => h, fun H _ => Nat.le_refl n, fun i H x H' h _ y => ⟨h, y.1, y.2⟩⟩
  refine ⟨_, _, by rw [rangeD_length]; exact w, by rw [rangeD_length]; exact hz, fun H _ => trivial, ?_⟩
  rintro i H x H' Zc hs C ⟨hi, rfl, rfl⟩
  exact ⟨_, Zc, rangeD_get hi, Grow.refl C.sub, .int _⟩
theorem BRs.one {K : Fg} {PN : Addr → Prop} {Z H : Hp} {vs : List V} {d : D} (h : BRs K PN Z H vs [d]) : ∃ v, vs = [v] ∧ BR K PN Z H v d := by
  cases h with | cons a b => cases b; exact ⟨_, rfl, a⟩
theorem BRs.two {K : Fg} {PN : Addr → Prop} {Z H : Hp} {vs : List V} {d e : D} (h : BRs K PN Z H vs [d, e]) : ∃ v u, vs = [v, u] ∧ BR K PN Z H v d ∧ BR K PN Z H u e := by
  cases h with | cons a b => cases b with | cons b c => cases c; exact ⟨_, _, rfl, a, b⟩
theorem line_is : (16777216 : Nat) = sizeLine := sizeLine_eq.symm
def wRange1 (ws : WE (List D)) : WE (List D) := fun Γ P => ws Γ fun ds Γ1 => match ds with
  | [.int n] => n ≤ 16777216 ∧ -(2 ^ 62) ≤ n ∧ P (rangeD 0 n.toNat) Γ1
  | _ => False
def wRange2 (ws : WE (List D)) : WE (List D) := fun Γ P => ws Γ fun ds Γ1 => match ds with
  | [.int a, .int b] => b - a ≤ 16777216 ∧ -(2 ^ 62) ≤ a ∧ a < 2 ^ 62 ∧ -(2 ^ 62) ≤ b ∧ b < 2 ^ 62 ∧ P (rangeD a (b - a).toNat) Γ1
  | _ => False
theorem ai_range1 {ws : WE (List D)} (hm : X.mg "range" = none) (h : ABs X G [e] ws) (hg : Gl X "range" := by rfl) (hs : starEach [e] X.env = [(false, eval e X.env)] := by rfl) : AI X G tg (.Call (.Name "range" p) [e] [] pos) (wRange1 ws) := by
  refine ⟨fun pins s σ H R I ⟨Γ, Z, O, P, Re, q, k⟩ => ?_⟩
  refine (pi_range1 hg hm h hs).run pins s σ H R I ⟨Γ, Z, O, _, Re, q, fun ds Γ1 vs Z1 O1 H1 p1 R1 S1 b1 => ?_⟩
  split at p1
  · rename_i n
    obtain ⟨v, rfl, b⟩ := b1.one
    obtain ⟨h1, h2, p1⟩ := p1
    obtain rfl := b.intI
    refine ⟨n, rfl, h2, by omega, ?_⟩
    exact k _ _ _ _ _ _ p1 R1 S1 (walkD_range (by rw [← line_is]; omega))
  · exact p1.elim
theorem ai_range2 {ws : WE (List D)} (hm : X.mg "range" = none) (h : ABs X G [e, e2] ws) (hg : Gl X "range" := by rfl) (hs : starEach [e, e2] X.env = [(false, eval e X.env), (false, eval e2 X.env)] := by rfl) (hs2 : starEach [e2] X.env = [(false, eval e2 X.env)] := by rfl) : AI X G tg (.Call (.Name "range" p) [e, e2] [] pos) (wRange2 ws) := by
  refine ⟨fun pins s σ H R I ⟨Γ, Z, O, P, Re, q, k⟩ => ?_⟩
  refine (pi_range2 hg hm h hs hs2).run pins s σ H R I ⟨Γ, Z, O, _, Re, q, fun ds Γ1 vs Z1 O1 H1 p1 R1 S1 b1 => ?_⟩
  split at p1
  · rename_i a c
    obtain ⟨v, u, rfl, b, b'⟩ := b1.two
    obtain ⟨h1, h2, h3, h4, h5, p1⟩ := p1
    obtain rfl := b.intI
    obtain rfl := b'.intI
    exact ⟨a, c, rfl, ⟨h2, h3, h4, h5⟩, k _ _ _ _ _ _ p1 R1 S1 (walkD_range (by rw [← line_is]; omega))⟩
  · exact p1.elim
end

/-! ### __init__ of an error -/
def spI (C : Addr) (K : Fg) (f : Str) (g : Option Str) : Sp := fun vs H Q _ => match g with
  | none => ∃ a v, vs = [.ref a, v] ∧ H a = some (exo a C none) ∧ ∀ d, H d = none → d ≠ a → Q .non (upd (upd H d (exd d [(f, v)])) a (exo a C (some d)))
  | some y => ∃ a v u, vs = [.ref a, v, u] ∧ H a = some (exo a C none) ∧ ∀ d, H d = none → d ≠ a → Q .non (upd (upd (upd H d (exd d [(f, v)])) a (exo a C (some d))) d (exd d [(y, u), (f, v)]))
theorem init1_rd {K : Fg} {C : Addr} {f : Str} {n0 n1 : Str} (ox : OexC K C) (hf : PySem.W.findIn K (.ref C) f = some none) (vs : List V) (H : Hp) (Q : VK) (E : XK) (h : spI C K f none vs H Q E) :
    tOst K f (tVar 0) (tVar 1) { nx := fun _ H' => Q .non H', rt := Q } (L2.start [n0, n1] vs) H := by
  obtain ⟨a, v, rfl, ha, k⟩ := h
  exact ⟨_, rfl, _, rfl, a, C, rfl, ox, hf, .inl ⟨ha, fun d hd hda => k d hd hda⟩⟩
theorem init2_rd {K : Fg} {C : Addr} {f y : Str} {n0 n1 n2 : Str} (ox : OexC K C) (hf : PySem.W.findIn K (.ref C) f = some none) (hy : PySem.W.findIn K (.ref C) y = some none) (vs : List V) (H : Hp) (Q : VK) (E : XK) (h : spI C K f (some y) vs H Q E) :
    tSeq (tOst K f (tVar 0) (tVar 1)) (tOst K y (tVar 0) (tVar 2)) { nx := fun _ H' => Q .non H', rt := Q } (L2.start [n0, n1, n2] vs) H := by
  obtain ⟨a, v, u, rfl, ha, k⟩ := h
  refine ⟨_, rfl, _, rfl, a, C, rfl, ox, hf, .inl ⟨ha, fun d hd hda => ?_⟩⟩
  exact ⟨_, rfl, _, rfl, a, C, rfl, ox, hy, .inr ⟨d, [(f, v)], upd_same, by rw [upd_ne hda, upd_same], by simp, k d hd hda⟩⟩
theorem spI_len1 {K : Fg} {C : Addr} {f : Str} (vs : List V) (H : Hp) (Q : VK) (E : XK) (h : spI C K f none vs H Q E) : vs.length = 2 := by
  obtain ⟨a, v, rfl, _⟩ := h; rfl
theorem spI_len2 {K : Fg} {C : Addr} {f y : Str} (vs : List V) (H : Hp) (Q : VK) (E : XK) (h : spI C K f (some y) vs H Q E) : vs.length = 3 := by
  obtain ⟨a, v, u, rfl, _⟩ := h; rfl

/-! ### try with several clauses, each with a name or without -/
/-- a clause: the class, the slot of its name (if it has one), the suite's reading -/
structure Cl where
  c : Value
  i : Option Nat
  ts : Addr → Value → Option Addr → TS
def Cl.enter (l : Cl) (σ : L2.St) (a : Addr) : L2.St := match l.i with
  | none => σ
  | some i => σ.set i (some (.ref a))
def Cl.leave (l : Cl) (σ : L2.St) : L2.St := match l.i with
  | none => σ
  | some i => σ.set i none
def wCls (K : Fg) (Wout : WX) (T : Ends) : List Cl → WX
  | [] => Wout
  | l :: r => fun cls d σ H => ∃ b, PySem.W.exmOne K cls l.c = some b ∧
      (b = true → ∀ a, H a = none → l.ts a cls d { nx := fun σ' H' => T.nx (l.leave σ') H', rt := T.rt, bk := fun σ' H' => T.bk (l.leave σ') H', ct := fun σ' H' => T.ct (l.leave σ') H' } (l.enter σ a) H) ∧ (b = false → wCls K Wout T r cls d σ H)
inductive ClsOk (X : Cx) : List ExceptHandler → List Cl → Prop where
  | nil : ClsOk X [] []
  | bare {x : Str} {c : Value} {ts : Addr → Value → Option Addr → TS} {first : Stmt} {more : List Stmt} {np hp : Pos} {hs : List ExceptHandler} {l : List Cl} (hc : Names X x c)
      (hsu : ∀ (a : Addr) (oe : Obj) (cls : Value) (d : Option Addr) (pn : List (Addr × Obj)), Zc cls d oe → (∃ vs, oe.data = .fields vs) → PSs (X.suite a ((a, oe) :: pn)) (first :: more) (ts a cls d)) (r : ClsOk X hs l) : ClsOk X (.ExceptHandler (some (.Name x np)) none (first :: more) hp :: hs) (⟨c, none, ts⟩ :: l)
  | as {x n : Str} {i : Nat} {c : Value} {ts : Addr → Value → Option Addr → TS} {first : Stmt} {more : List Stmt} {np hp : Pos} {hs : List ExceptHandler} {l : List Cl} (hc : Names X x c) (hi : X.N[i]? = some n) (hn : X.env.kindOf n = some .local)
      (hsu : ∀ (a : Addr) (oe : Obj) (cls : Value) (d : Option Addr) (pn : List (Addr × Obj)), Zc cls d oe → (∃ vs, oe.data = .fields vs) → PSs (X.suite a ((a, oe) :: pn)) (first :: more) (ts a cls d)) (r : ClsOk X hs l) : ClsOk X (.ExceptHandler (some (.Name x np)) (some n) (first :: more) hp :: hs) (⟨c, some i, ts⟩ :: l)
section
variable {X : Cx} {body : List Stmt} {h₀ : ExceptHandler} {hds : List ExceptHandler} {ls : List Cl} {pos : Pos} {tb : WX → TS} {Wout : WX}
theorem ps_try_cls (stk : X.stack = X.env :: X.outer) (frm : X.env.frame = some X.env.locals) (nd : X.N.Nodup) (tk : Takes X Wout)
    (hb : ∀ (W : WX) (pn : List (Addr × Obj)) (xe : Value → Shared → Prop), Takes (X.tr pn xe) W → PassesOwn (model X.prog X.w) X.A X.env xe → PSs (X.tr pn xe) body (tb W)) (hh : ClsOk X (h₀ :: hds) ls) : PS X (.Try body (h₀ :: hds) [] [] pos) (fun T σ H => tb (wCls X.K Wout T ls) T σ H) := by
  refine ⟨fun pins s σ H T I h => wpAny_Try_except ?_⟩
  have ok := I.ok
  have frames : X.A.frames = some (X.env :: X.outer) := by rw [ok.frames, stk]
  refine wpAny_mono ((hb (wCls X.K Wout T ls) (X.pn ++ pins) (fun e s₁ => wpAny (model X.prog X.w) X.A (noteFrame e X.env) (fun _ s₂ => wpAny (model X.prog X.w) X.A (setFlight e none) (fun _ s₃ => wpAny (model X.prog X.w) X.A (handleBy e X.env (h₀ :: hds)) (SP X pins T) X.xe s₃) X.xe s₂) X.xe s₁) (fun u s' caught => ?_) PassesOwn.looking).run [] s σ H T (I.toTry _) h) (fun f s1 done => ?_) (fun e s1 q => q)
  · obtain ⟨a, B, sI, pins', σ', H', cls, d, rfl, J', nb, up, sky, fresh, os, ag, wish⟩ := caught
    have J : Inv X pins σ' H' sI := J'.ofTry ok
    have sky' : Sky B (X.env :: X.outer) a (Zc cls d) X.env.locals s'.heap := stk ▸ sky
    show wpAny (model X.prog X.w) X.A (noteFrame (.ref a) X.env) _ _ _
    refine Sky.land Zc.steady frames frm sky' fun h3 fly up3 => ?_
    have J3 : Inv X pins σ' H' { s' with heap := h3 } := J.landed nb fly.1 (up.trans up3) os ag
    obtain ⟨oe3, vs3, he3, hz3, hd3⟩ := fly.there
    have apart : a ∉ frs (X.env :: X.outer) := fun hm => by
      obtain ⟨_, o', e', no⟩ := fly.2.2.1.mem hm
      rw [he3] at e'; cases e'
      exact no _ hd3
    have nL : a ≠ X.env.locals := fun z => apart (List.mem_filterMap.mpr ⟨X.env, List.mem_cons_self, by rw [frm, z]⟩)
    have nF : a ∉ X.fs := fun hm => by
      obtain ⟨e, he, q⟩ := List.mem_filterMap.mp hm
      exact apart (List.mem_filterMap.mpr ⟨e, List.mem_cons_of_mem _ he, q⟩)
    have S3 := J3.suite he3 hd3 fresh nL nF
    -- the clause's class is asked
    have asked : ∀ {x : Str} {c : Value} {np : Pos}, Names X x c → ∀ {Q : Value → Shared → Prop} {E : Value → Shared → Prop}, Q c { s' with heap := h3 } → wpAny (model X.prog X.w) (X.A.mark (some (.ref a))) (eval (.Name x np) X.env) Q E { s' with heap := h3 } := by
      rintro x c np ⟨hg, hd, hm | ⟨hm, hv, hn⟩⟩ Q E q
      · exact ld_glob (X := X.suite a ((a, oe3) :: (X.pn ++ pins))) S3 hg hm q hd
      · exact ld_blt (X := X.suite a ((a, oe3) :: (X.pn ++ pins))) S3 hg hm hv q hn hd
    have same : ∀ {b : Bool} {c : Value}, PySem.W.exmOne X.K cls c = some b → _ := fun {b c} q => PySem.W.exm_one (M := model X.prog X.w) (h := h3) (e := a) J3.kIn (fun A Q E s k q => wpAny_typeOf_ref (k _ _ he3) (by rw [hz3.1]; exact q)) q
    have go : ∀ {hs' : List ExceptHandler} {l' : List Cl}, ClsOk X hs' l' → wCls X.K Wout T l' cls d σ' H' → wpAny (model X.prog X.w) X.A (handleBy (.ref a) X.env hs') (SP X pins T) X.xe { s' with heap := h3 } := by
      intro hs' l' hk
      induction hk with
      | nil =>
        intro w
        refine wpAny_handleBy_nil ?_
        obtain ⟨_, _, _, oe, vs, tb0, _, _, he, _, hd, h1, _⟩ := id fly
        have on : wpAny (model X.prog X.w) X.A (setFlight (.ref a) X.env.frame) (fun _ s4 => wpAny (model X.prog X.w) X.A (throw (.ref a) : Sem Flow) (SP X pins T) X.xe s4) X.xe { s' with heap := h3 } := by
          rw [frm]
          exact HandSPX.setFlight_upZ fly fun h4 held up4 => wpAny_throw (tk _ _ ⟨a, B, sI, pins, σ', H', cls, d, rfl, J, nb, (up.trans up3).trans up4, .inr (.inr (stk ▸ held)), fresh, os, ag, w⟩)
        unfold PySem.passOn
        refine wpAny_bind (wpAny_field he hd h1 ?_)
        rw [if_neg (show ¬ ((Value.ref tb0 == Value.none) = true) by simp)]
        first | exact wpAny_bind (wpAny_pure (wpAny_bind on)) | exact wpAny_bind on
      | bare hc hsu r ih =>
        rintro ⟨b, yes, w1, w2⟩
        refine wpAny_handleBy_cons (codeAny_handlers_test (asked hc ((same yes).here ?_))) (by rintro ⟨⟩)
        cases b with
        | false => exact ih (w2 rfl)
        | true =>
          refine codeAny_handlers_suite (HandSPX.lands_againZ fly fun h4 fly4 up4 => ?_)
          have J4 : Inv X pins σ' H' { s' with heap := h4 } := J.landed nb fly4.1 ((up.trans up3).trans up4) os ag
          obtain ⟨oe4, vs4, he4, hz4, hd4⟩ := fly4.there
          refine wpAny_mono ((hsu a oe4 cls d (X.pn ++ pins) hz4 ⟨_, hd4⟩).run [] _ _ H' _ (J4.suite he4 hd4 fresh nL nF) (w1 rfl a fresh)) (fun f s6 q => ?_) (fun _ _ z => z.elim)
          cases f with
          | ret u => obtain ⟨v6, σ6, H6, S6, r6, q6⟩ := q; exact ⟨_, _, _, S6.unsuite ok, r6, q6⟩
          | next => obtain ⟨σ6, H6, S6, q6⟩ := q; exact ⟨_, _, S6.unsuite ok, q6⟩
          | brk => obtain ⟨σ6, H6, S6, q6⟩ := q; exact ⟨_, _, S6.unsuite ok, q6⟩
          | cont => obtain ⟨σ6, H6, S6, q6⟩ := q; exact ⟨_, _, S6.unsuite ok, q6⟩
      | @as x n i c ts first more np hp hs l hc hi hn hsu r ih =>
        rintro ⟨b, yes, w1, w2⟩
        refine wpAny_handleBy_cons (codeAny_handlers_test (asked hc ((same yes).here ?_))) (by rintro ⟨⟩)
        cases b with
        | false => exact ih (w2 rfl)
        | true =>
          refine codeAny_handlers_suite_as (HandSPX.lands_againZ fly fun h4 fly4 up4 => ?_)
          have J4 : Inv X pins σ' H' { s' with heap := h4 } := J.landed nb fly4.1 ((up.trans up3).trans up4) os ag
          obtain ⟨oe4, vs4, he4, hz4, hd4⟩ := fly4.there
          refine store_ok (X := X.suite a ((a, oe4) :: (X.pn ++ pins))) (v := .ref a) (J4.suite he4 hd4 fresh nL nF) nd hi (.inl hn) rfl (fun s5 S5 => ?_) (.inr hn)
          refine wpAny_mono ((hsu a oe4 cls d (X.pn ++ pins) hz4 ⟨_, hd4⟩).run [] s5 _ H' _ S5 (w1 rfl a fresh)) (fun f s6 q => ?_) (fun _ _ z => z.elim)
          have gone : ∀ {σ6 : L2.St} {H6 : Hp} {Q : Shared → Prop}, Inv (X.suite a ((a, oe4) :: (X.pn ++ pins))) [] σ6 H6 s6 → (∀ s7, Inv X pins (σ6.set i none) H6 s7 → Q s7) → wpAny (model X.prog X.w) X.A (do bindName X.env n .none; unbindBehindTheSuite X.env n hp) (fun _ s7 => Q s7) X.xe s6 := fun S6 k => gone_ok (S6.unsuite ok) nd hi hn k
          cases f with
          | ret u => obtain ⟨v6, σ6, H6, S6, r6, q6⟩ := q; exact gone S6 fun s7 J7 => ⟨_, _, _, J7, r6, q6⟩
          | next => obtain ⟨σ6, H6, S6, q6⟩ := q; exact gone S6 fun s7 J7 => ⟨_, _, J7, q6⟩
          | brk => obtain ⟨σ6, H6, S6, q6⟩ := q; exact gone S6 fun s7 J7 => ⟨_, _, J7, q6⟩
          | cont => obtain ⟨σ6, H6, S6, q6⟩ := q; exact gone S6 fun s7 J7 => ⟨_, _, J7, q6⟩
    exact go hh wish
  · cases f with
    | ret u => obtain ⟨v, σ', H', J', r, q⟩ := done; exact ⟨v, σ', H', J'.ofTry ok, r, q⟩
    | next => obtain ⟨σ', H', J', q⟩ := done; exact wpAny_execs_nil ⟨σ', H', J'.ofTry ok, q⟩
    | brk => obtain ⟨σ', H', J', q⟩ := done; exact ⟨σ', H', J'.ofTry ok, q⟩
    | cont => obtain ⟨σ', H', J', q⟩ := done; exact ⟨σ', H', J'.ofTry ok, q⟩
end
/-! ### .. told by data -/
structure VCl where
  x : Str
  i : Option Nat
  ws : Addr → Option Addr → WS
def enterG (Γ : Ga) (i : Option Nat) (s : Sl) : Ga := match i with
  | none => Γ
  | some i => Γ.set i s
def leaveE (E : En) (i : Option Nat) : En := ⟨fun Γ => E.nx (enterG Γ i .no), E.rt, fun Γ => E.bk (enterG Γ i .no), fun Γ => E.ct (enterG Γ i .no)⟩
abbrev CMt := Str → Str → Option Bool
/-- which clause takes the error, and what its suite gives -/
def wHs (CM : CMt) (Ex : Exc → Ga → Prop) (E : En) : List VCl → Exc → Ga → Prop
  | [], e, Γ => Ex e Γ
  | h :: r, e, Γ => ∃ b, CM e.c h.x = some b ∧ (b = true → (h.i = none ∨ e.c = h.x) ∧ ∀ a dd, h.ws a (some dd) (leaveE E h.i) (enterG Γ h.i (.exc a dd e.fs))) ∧ (b = false → wHs CM Ex E r e Γ)
def wTry (CM : CMt) (Ex : Exc → Ga → Prop) (hs : List VCl) (wb : (Exc → Ga → Prop) → WS) : WS := fun E Γ => wb (wHs CM Ex E hs) E Γ
inductive VClsOk (X : Cx) (G : Gh) (CM : CMt) : List ExceptHandler → List VCl → List Cl → Prop where
  | nil : VClsOk X G CM [] [] []
  | bare {x : Str} {c : Value} {ws : Addr → Option Addr → WS} {first : Stmt} {more : List Stmt} {np hp : Pos} {hs : List ExceptHandler} {l : List VCl} {m : List Cl} (hc : Names X x c) (hm : ∀ y C b, CM y x = some b → X.mg y = some (.ref C) → PySem.W.exmOne X.K (.ref C) c = some b)
      (hsu : ∀ (a : Addr) (oe : Obj) (cls : Value) (d : Option Addr) (pn : List (Addr × Obj)), Zc cls d oe → (∃ vs, oe.data = .fields vs) → ASs (X.suite a ((a, oe) :: pn)) G (first :: more) (ws a d)) (r : VClsOk X G CM hs l m) :
      VClsOk X G CM (.ExceptHandler (some (.Name x np)) none (first :: more) hp :: hs) (⟨x, none, ws⟩ :: l) (⟨c, none, fun a cls d => liftS X.K G (ws a d)⟩ :: m)
  | as {x n : Str} {i : Nat} {C : Addr} {ws : Addr → Option Addr → WS} {first : Stmt} {more : List Stmt} {np hp : Pos} {hs : List ExceptHandler} {l : List VCl} {m : List Cl} (hx : X.mg x = some (.ref C)) (hc : Names X x (.ref C)) (hm : ∀ y D b, CM y x = some b → X.mg y = some (.ref D) → PySem.W.exmOne X.K (.ref D) (.ref C) = some b) (hi : X.N[i]? = some n) (hn : X.env.kindOf n = some .local)
      (hsu : ∀ (a : Addr) (oe : Obj) (d : Option Addr) (pn : List (Addr × Obj)), Zc (.ref C) d oe → (∃ vs, oe.data = .fields vs) → ASs (X.suite a ((a, oe) :: pn)) G (first :: more) (ws a d)) (r : VClsOk X G CM hs l m) :
      VClsOk X G CM (.ExceptHandler (some (.Name x np)) (some n) (first :: more) hp :: hs) (⟨x, some i, ws⟩ :: l) (⟨.ref C, some i, fun a cls d T σ H => cls = .ref C ∧ liftS X.K G (ws a d) T σ H⟩ :: m)
section
variable {X : Cx} {G : Gh} {CM : CMt} {Ex : Exc → Ga → Prop} {body : List Stmt} {h₀ : ExceptHandler} {hds : List ExceptHandler} {ls : List VCl} {ms : List Cl} {pos : Pos}
theorem VClsOk.cls (h : VClsOk X G CM hds ls ms) : ClsOk X hds ms := by
  induction h with
  | nil => exact .nil
  | bare hc _ hsu _ ih => exact .bare hc hsu ih
  | as _ hc _ hi hn hsu _ ih =>
    refine .as hc hi hn (fun a oe cls d pn hz hf => ⟨fun pins s σ H T I ⟨ec, q⟩ => ?_⟩) ih
    subst ec
    exact (hsu a oe d pn hz hf).run pins s σ H T I q
theorem hs_take {E : En} {T : Ends} {e : Exc} {cls : Value} {d : Option Addr} {σ : L2.St} {H : Hp} {Γ : Ga} {Z : Hp} {O : Ow} {hs : List ExceptHandler} {ls : List VCl} {ms : List Cl} (hh : VClsOk X (G.wb G.Z0) CM hs ls ms) (k : EnR X.K (G.wb G.Z0) E T) (R : Rel X.K (G.wb G.Z0) Γ Z O σ H) (x : ExR X.K X.mg Z H e cls d)
    (q : wHs CM Ex E ls e Γ) : wCls X.K (WEx X.K X.mg G Ex) T ms cls d σ H := by
  induction hh with
  | nil => exact ⟨e, Γ, Z, O, R, x, q⟩
  | @bare x' c ws first more np hp hs l m hc hm hsu r ih =>
    obtain ⟨b, h1, h2, h3⟩ := q
    obtain ⟨C, dd, fv, e1, e2, e3, e4, e5⟩ := id x
    refine ⟨b, by rw [e2]; exact hm _ _ _ h1 e1, fun hb a ha => ?_, fun hb => ih (h3 hb)⟩
    subst e3
    exact ⟨Γ, Z, O, _, R, (h2 hb).2 a dd, ⟨k.nx, k.rt, k.bk, k.ct⟩⟩
  | @as x' n i C0 ws first more np hp hs l m hx hc hm hi hn hsu r ih =>
    obtain ⟨b, h1, h2, h3⟩ := q
    obtain ⟨C, dd, fv, e1, e2, e3, e4, e5⟩ := id x
    refine ⟨b, by rw [e2]; exact hm _ _ _ h1 e1, fun hb a ha => ?_, fun hb => ih (h3 hb)⟩
    subst e3
    obtain ⟨h4, h5⟩ := h2 hb
    have ec : cls = .ref C0 := by
      rcases h4 with z | z
      · cases z
      · have z' : e.c = x' := z
        rw [z', hx] at e1
        rw [e2]; exact (Option.some.inj e1).symm
    refine ⟨ec, _, Z, _, _, R.setNo i (x := .exc a dd e.fs) (v := some (.ref a)) fun _ => ⟨fv, rfl, e4, e5⟩, h5 a dd, ⟨?_, k.rt, ?_, ?_⟩⟩
    · exact fun Γ Z O σ H q R => k.nx _ _ _ _ _ q (R.setNo i (x := .no) (v := none) fun _ => trivial)
    · exact fun Γ Z O σ H q R => k.bk _ _ _ _ _ q (R.setNo i (x := .no) (v := none) fun _ => trivial)
    · exact fun Γ Z O σ H q R => k.ct _ _ _ _ _ q (R.setNo i (x := .no) (v := none) fun _ => trivial)
theorem as_try {wb : (Exc → Ga → Prop) → WS} (nd : X.N.Nodup) (tk : Takes X (WEx X.K X.mg G Ex))
    (hb : ∀ (Ex' : Exc → Ga → Prop) (pn : List (Addr × Obj)) (xe : Value → Shared → Prop), Takes (X.tr pn xe) (WEx X.K X.mg G Ex') → PassesOwn (model X.prog X.w) X.A X.env xe → ASs (X.tr pn xe) (G.wb G.Z0) body (wb Ex'))
    (hh : VClsOk X (G.wb G.Z0) CM (h₀ :: hds) ls ms) (stk : X.stack = X.env :: X.outer := by rfl) (frm : X.env.frame = some X.env.locals := by rfl) : AS X (G.wb G.Z0) (.Try body (h₀ :: hds) [] [] pos) (wTry CM Ex ls wb) := by
  -- the body's reading, for any wish that is one of data
  have hb' : ∀ (W : WX) (pn : List (Addr × Obj)) (xe : Value → Shared → Prop), Takes (X.tr pn xe) W → PassesOwn (model X.prog X.w) X.A X.env xe → PSs (X.tr pn xe) body (fun T σ H => ∃ Ex', (∀ c d σ H, WEx X.K X.mg G Ex' c d σ H → W c d σ H) ∧ liftS X.K (G.wb G.Z0) (wb Ex') T σ H) := fun W pn xe tk' po =>
    ⟨fun pins s σ H T I ⟨Ex', hW, q⟩ => (hb Ex' pn xe (tk'.imp hW) po).run pins s σ H T I q⟩
  exact PSi (ps_try_cls stk frm nd tk hb' hh.cls) fun T σ H ⟨Γ, Z, O, E, R, w, k⟩ => ⟨wHs CM Ex E ls, fun cls d σ H ⟨e, Γ, Z, O, R, x, q⟩ => hs_take hh k R x q, Γ, Z, O, E, R, w, k⟩
/-- e.f in a suite -/
def wXf (a : Addr) (d : Option Addr) (i : Nat) (f : Str) : WE Rv := fun Γ P => match Γ.at i with
  | .exc a' dd fs => a' = a ∧ d = some dd ∧ ∃ v, fs.lookup f = some v ∧ P (.dat v) Γ
  | _ => False
theorem FsR.look {K : Fg} {Z : Hp} {f : Str} {v : D} : ∀ {fv : List (Str × V)} {fs : List (Str × D)}, FsR K Z fv fs → fs.lookup f = some v → ∃ u, fv.lookup f = some u ∧ DR K Z u v
  | _, _, .nil, h => by cases h
  | _, _, @FsR.cons _ _ n u vs d ds h t, q => by
    by_cases e : f == n
    · rw [List.lookup_cons, e] at q
      rw [List.lookup_cons, e]
      cases q
      exact ⟨u, rfl, h⟩
    · have e' : (f == n) = false := by simpa using e
      rw [List.lookup_cons, e'] at q
      rw [List.lookup_cons, e']
      exact t.look q
theorem ae_xf (i : Nat) {a C : Addr} {oe : Obj} {d : Option Addr} {pn : List (Addr × Obj)} {x f : Str} {np : Pos} (T : XfC X.K C) (hno : PySem.W.findIn X.K (.ref C) f = some none) (hz : Zc (.ref C) d oe) (hf : ∃ vs, oe.data = .fields vs)
    (hN : X.N[i]? = some x := by rfl) (hv : Vis X.env.scope x := by first | exact Or.inl rfl | exact Or.inr (Or.inl rfl) | exact Or.inr (Or.inr rfl)) (hd : (x == ("__debug__" : Str)) = false := by decide) (hcd : (x == ("__classdict__" : Str)) = false := by decide)
    (hb : attributeBase (.Name x np) f X.env (eval (.Name x np) X.env) = eval (.Name x np) X.env := by rfl) : AE (X.suite a ((a, oe) :: pn)) G (.Attribute (.Name x np) f pos) (wXf a d i f) := by
  have h0 : PE (X.suite a ((a, oe) :: pn)) (.Name x np) (tVar i) := pe_var (X := X.suite a ((a, oe) :: pn)) hN hv hd hcd
  refine PEi (pe_xf T hno hz hf h0 hb) fun σ H Q ⟨Γ, Z, O, P, R, w, k⟩ => ?_
  unfold wXf at w
  cases e : Γ.at i with
  | exc a' dd fs =>
    rw [e] at w
    obtain ⟨rfl, rfl, v, hl, w⟩ := w
    obtain ⟨fv, e1, e2, e3⟩ := R.slAt e
    obtain ⟨u, e4, e5⟩ := e3.look hl
    exact ⟨_, getD_some e1, rfl, rfl, dd, fv, u, rfl, R.sub _ _ e2, e4, k _ _ _ _ _ _ w R Step.refl e5⟩
  | _ => rw [e] at w; exact w.elim
end
end VL
namespace VL
open PySem PySem.Spec PyProof.Rows L2

/-! ### operators -/
abbrev vI (i : Int) : Rz := .v (.dat (.int i))
abbrev vB (b : Bool) : Rz := .v (.dat (.bool b))
section
variable {K : Fg}
theorem Pure2.of {r : R2} {sem : Sem2} (h : ∀ (PN : Addr → Prop) (Z H : Hp) (x y : V) (d e : D) (P : Rz → Prop) (Q : VK), Ctx PN Z H → BR K PN Z H x d → BR K PN Z H y e → sem d e P → (∀ z v Z' H', P z → Grow Z H Z' H' → RzN K H Z' H' z v → Q v H') → r x y H Q) : Pure2 K r sem := h
/-- a result that stays, nothing laid -/
theorem keepS {PN : Addr → Prop} {Z H : Hp} {P : Rz → Prop} {Q : VK} (C : Ctx PN Z H) (k : ∀ z v Z' H', P z → Grow Z H Z' H' → RzN K H Z' H' z v → Q v H') {d : D} {v : V} (p : P (.v (.dat d))) (r : DR K Z v d) : Q v H := k _ _ _ _ p (Grow.refl C.sub) r
/-- a new list -/
theorem newL {PN : Addr → Prop} {Z H : Hp} {P : Rz → Prop} {Q : VK} (C : Ctx PN Z H) (k : ∀ z v Z' H', P z → Grow Z H Z' H' → RzN K H Z' H' z v → Q v H') {ds : List D} {vs : List V} (p : P (.ls ds)) (r : DRs K Z vs ds) : ∀ q, H q = none → Q (.ref q) (upd H q (.lst vs)) :=
  fun q hq => k _ _ _ _ p (Grow.new' C.sub hq) ⟨q, vs, rfl, hq, C.sub.free hq, upd_same, r⟩
/-- a new tuple -/
theorem newT {PN : Addr → Prop} {Z H : Hp} {P : Rz → Prop} {Q : VK} (C : Ctx PN Z H) (k : ∀ z v Z' H', P z → Grow Z H Z' H' → RzN K H Z' H' z v → Q v H') {ds : List D} {vs : List V} (p : P (.v (.dat (.tuple ds)))) (r : DRs K Z vs ds) : ∀ q, H q = none → Q (.ref q) (upd H q (.tup vs)) :=
  fun q hq => k _ _ _ _ p (Grow.new C.sub hq) (.tup (SqT.of upd_same) (r.mono (Sub.upd (C.sub.free hq))))
def sInt (C : Int → Int → Prop) (f : Int → Int → D) : Sem2 := fun d e P => match d, e with
  | .int i, .int j => C i j ∧ P (.v (.dat (f i j)))
  | _, _ => False
theorem pure_int {C : Int → Int → Prop} {f : Int → Int → D} {g : Int → Int → V} (h : ∀ i j Z, DR K Z (g i j) (f i j)) : Pure2 K (rI C g) (sInt C f) := by
  intro PN Z H x y d e P Q Cx bx bz s k
  unfold sInt at s
  split at s
  · obtain rfl := bx.intI
    obtain rfl := bz.intI
    exact ⟨_, _, rfl, rfl, s.1, keepS Cx k s.2 (h _ _ _)⟩
  · exact s.elim
theorem pure_int0 {f : Int → Int → D} {g : Int → Int → V} (h : ∀ i j Z, DR K Z (g i j) (f i j)) : Pure2 K (rI0 g) (sInt (fun _ _ => True) f) := by
  intro PN Z H x y d e P Q Cx bx bz s k
  unfold sInt at s
  split at s
  · obtain rfl := bx.intI
    obtain rfl := bz.intI
    exact ⟨_, _, rfl, rfl, keepS Cx k s.2 (h _ _ _)⟩
  · exact s.elim
abbrev sSub : Sem2 := sInt (fun _ _ => True) fun i j => .int (i - j)
theorem p_sub : Pure2 K (rI0 fun i j => .int (i - j)) sSub := pure_int0 fun _ _ _ => .int _
abbrev sFdiv : Sem2 := sInt CDivN fun i j => .int (i.fdiv j)
theorem p_fdiv : Pure2 K (rI CDivN fun i j => .int (i.fdiv j)) sFdiv := pure_int fun _ _ _ => .int _
abbrev sMod : Sem2 := sInt (fun _ j => j ≠ 0) fun i j => .int (i.fmod j)
theorem p_mod : Pure2 K (rI (fun _ j => j ≠ 0) fun i j => .int (i.fmod j)) sMod := pure_int fun _ _ _ => .int _
abbrev sPow : Sem2 := sInt CPow fun i j => .int (i ^ j.toNat)
theorem p_pow : Pure2 K (rI CPow fun i j => .int (i ^ j.toNat)) sPow := pure_int fun _ _ _ => .int _
/-- a + b -/
def sAdd : Sem2 := fun d e P => match d, e with
  | .int i, .int j => P (vI (i + j))
  | .list a, .list b => a.length + b.length ≤ 16777216 ∧ P (.ls (a ++ b))
  | .tuple a, .tuple b => a.length + b.length ≤ 16777216 ∧ P (.v (.dat (.tuple (a ++ b))))
  | .str a, .str b => a.length + b.length ≤ 16777216 ∧ P (.v (.dat (.str (a ++ b))))
  | _, _ => False
abbrev rStrAdd : R2 := fun x y H Q => ∃ i j, x = .str i ∧ y = .str j ∧ i.length + j.length ≤ sizeLine ∧ Q (.str (i ++ j)) H
def rAddV (K : Fg) : R2 := fun x y H Q => rI0 (fun i j => .int (i + j)) x y H Q ∨ rCat x y H Q ∨ rCatA K x y H Q ∨ rStrAdd x y H Q
theorem o_add {X : Cx} : OpR X (binaryOp .Add) (rAddV X.K) := op_add.or (op_cat.or (op_catA.or op_add_str))
theorem p_add : Pure2 K (rAddV K) sAdd := by
  intro PN Z H x y d e P Q Cx bx bz s k
  unfold sAdd at s
  split at s
  · obtain rfl := bx.intI
    obtain rfl := bz.intI
    exact .inl ⟨_, _, rfl, rfl, keepS Cx k s (.int _)⟩
  · obtain ⟨a, vs, rfl, h1, t1⟩ := bx.listI Cx.sub
    obtain ⟨b, us, rfl, h2, t2⟩ := bz.listI Cx.sub
    exact .inr (.inl ⟨a, b, vs, us, rfl, rfl, h1, h2, by rw [t1.length, t2.length, ← line_is]; exact s.1, newL Cx k s.2 (t1.append t2)⟩)
  · obtain ⟨a, vs, rfl, h1, h1', t1⟩ := bx.tupI Cx.sub
    obtain ⟨b, us, rfl, h2, h2', t2⟩ := bz.tupI Cx.sub
    refine .inr (.inr (.inl ⟨a, b, vs, us, rfl, rfl, h1, h2, by rw [t1.length, t2.length, ← line_is]; exact s.1, fun q => ?_, fun _ q => ?_, fun _ _ => newT Cx k s.2 (t1.append t2)⟩))
    · subst q; cases t1; exact keepS Cx k s.2 (.tup h2' t2)
    · subst q; cases t2
      have s2 := s.2
      rw [List.append_nil] at s2
      exact keepS Cx k s2 (.tup h1' t1)
  · obtain rfl := bx.strI
    obtain rfl := bz.strI
    exact .inr (.inr (.inr ⟨_, _, rfl, rfl, by rw [← line_is]; exact s.1, keepS Cx k s.2 (.str _)⟩))
  · exact s.elim
/-- a * b -/
def sMul : Sem2 := fun d e P => match d, e with
  | .int i, .int j => CMul i j ∧ P (vI (i * j))
  | .list a, .int j => -(2 ^ 63) ≤ j ∧ j < 2 ^ 63 ∧ a.length * j.toNat ≤ 16777216 ∧ P (.ls (List.replicate j.toNat a).flatten)
  | _, _ => False
def rMulV : R2 := fun x y H Q => rI CMul (fun i j => .int (i * j)) x y H Q ∨ rRep x y H Q
theorem o_mul {X : Cx} : OpR X (binaryOp .Mult) rMulV := op_mul.or op_rep
theorem p_mul : Pure2 K rMulV sMul := by
  intro PN Z H x y d e P Q Cx bx bz s k
  unfold sMul at s
  split at s
  · obtain rfl := bx.intI
    obtain rfl := bz.intI
    exact .inl ⟨_, _, rfl, rfl, s.1, keepS Cx k s.2 (.int _)⟩
  · obtain ⟨a, vs, rfl, h1, t1⟩ := bx.listI Cx.sub
    obtain rfl := bz.intI
    exact .inr ⟨a, _, vs, rfl, rfl, h1, s.1, s.2.1, by rw [t1.length, ← line_is]; exact s.2.2.1, newL Cx k s.2.2.2 (t1.rep _)⟩
  · exact s.elim

/-! ### comparisons -/
abbrev sCmp (p : Int → Int → Bool) : Sem2 := sInt (fun _ _ => True) fun i j => .bool (p i j)
abbrev sLt : Sem2 := sCmp fun i j => decide (i < j)
abbrev sLe : Sem2 := sCmp fun i j => decide (i ≤ j)
abbrev sGt : Sem2 := sCmp fun i j => decide (j < i)
abbrev sGe : Sem2 := sCmp fun i j => decide (j ≤ i)
theorem p_lt : Pure2 K (rI0 fun i j => .bl (decide (i < j))) sLt := pure_int0 fun _ _ _ => .bl _
theorem p_le : Pure2 K (rI0 fun i j => .bl (decide (i ≤ j))) sLe := pure_int0 fun _ _ _ => .bl _
theorem p_gt : Pure2 K (rI0 fun i j => .bl (decide (j < i))) sGt := pure_int0 fun _ _ _ => .bl _
theorem p_ge : Pure2 K (rI0 fun i j => .bl (decide (j ≤ i))) sGe := pure_int0 fun _ _ _ => .bl _
def okD (d : D) : Prop := nodict d = true ∧ SeqAt.shaped d = true
def eqOk : D → D → Prop
  | .str _, .str _ => True
  | .int _, .int _ => True
  | d, e => okD d ∧ okD e
def sEq : Sem2 := fun d e P => eqOk d e ∧ P (vB (PyData.eqv d e))
def sNe : Sem2 := fun d e P => eqOk d e ∧ P (vB (!PyData.eqv d e))
abbrev rEqS (K : Fg) : R2 := fun x y H Q => rEq x y H Q ∨ rEqD K x y H Q
abbrev rNeS (K : Fg) : R2 := fun x y H Q => rNe x y H Q ∨ rNeD K x y H Q
theorem o_eq {X : Cx} (hu : X.A.units + 64 < cLine) : OpR X (compareOp .Eq) (rEqS X.K) := op_eq.or (op_eqD hu)
theorem o_ne {X : Cx} (hu : X.A.units + 64 < cLine) : OpR X (compareOp .NotEq) (rNeS X.K) := op_ne.or (op_neD hu)
theorem eqv_s (x y : Str) : PyData.eqv (.str x) (.str y) = decide (V.str x = V.str y) := by
  by_cases h : x = y <;> simp [PyData.eqv, h]
theorem eqv_i (x y : Int) : PyData.eqv (.int x) (.int y) = decide (V.int x = V.int y) := by
  by_cases h : x = y <;> simp [PyData.eqv, h]
theorem p_eq : Pure2 K (rEqS K) sEq := by
  intro PN Z H x y d e P Q Cx bx bz ⟨h, p⟩ k
  unfold eqOk at h
  split at h
  · obtain rfl := bx.strI
    obtain rfl := bz.strI
    rw [eqv_s] at p
    exact .inl ⟨rfl, keepS Cx k p (.bl _)⟩
  · obtain rfl := bx.intI
    obtain rfl := bz.intI
    rw [eqv_i] at p
    exact .inl ⟨rfl, keepS Cx k p (.bl _)⟩
  · obtain ⟨h1, h2⟩ := h
    exact .inr ⟨_, _, bx.dp Cx.sub h1.1, bz.dp Cx.sub h2.1, h1.2, h2.2, keepS Cx k p (.bl _)⟩
theorem p_ne : Pure2 K (rNeS K) sNe := by
  intro PN Z H x y d e P Q Cx bx bz ⟨h, p⟩ k
  unfold eqOk at h
  split at h
  · obtain rfl := bx.strI
    obtain rfl := bz.strI
    rw [eqv_s] at p
    exact .inl ⟨rfl, keepS Cx k p (.bl _)⟩
  · obtain rfl := bx.intI
    obtain rfl := bz.intI
    rw [eqv_i] at p
    exact .inl ⟨rfl, keepS Cx k p (.bl _)⟩
  · obtain ⟨h1, h2⟩ := h
    exact .inr ⟨_, _, bx.dp Cx.sub h1.1, bz.dp Cx.sub h2.1, h1.2, h2.2, keepS Cx k p (.bl _)⟩
def isN : D → Bool
  | .none => true
  | _ => false
def sIsN : Sem2 := fun d e P => match e with
  | .none => P (vB (isN d))
  | _ => False
def sNotN : Sem2 := fun d e P => match e with
  | .none => P (vB (!isN d))
  | _ => False
abbrev rIsN : R2 := fun x y H Q => y = .non ∧ Q (.bl (decide (x = .non))) H
abbrev rNotN : R2 := fun x y H Q => y = .non ∧ Q (.bl (!decide (x = .non))) H
theorem BR.isN {PN : Addr → Prop} {Z H : Hp} {v : V} {d : D} (b : BR K PN Z H v d) : decide (v = .non) = VL.isN d := by
  cases b with
  | z b => cases b <;> first | rfl | exact decide_eq_false (fun q => nomatch q)
  | _ => exact decide_eq_false (fun q => nomatch q)
theorem p_isN : Pure2 K rIsN sIsN := by
  intro PN Z H x y d e P Q Cx bx bz s k
  unfold sIsN at s
  split at s
  · obtain rfl := bz.noneI
    exact ⟨rfl, by rw [bx.isN]; exact keepS Cx k s (.bl _)⟩
  · exact s.elim
theorem p_notN : Pure2 K rNotN sNotN := by
  intro PN Z H x y d e P Q Cx bx bz s k
  unfold sNotN at s
  split at s
  · obtain rfl := bz.noneI
    exact ⟨rfl, by rw [bx.isN]; exact keepS Cx k s (.bl _)⟩
  · exact s.elim
/-- x is True, x is not True: of bools -/
def sIsB : Sem2 := fun d e P => match d, e with
  | .bool a, .bool b => P (vB (decide (a = b)))
  | _, _ => False
def sNotB : Sem2 := fun d e P => match d, e with
  | .bool a, .bool b => P (vB (!decide (a = b)))
  | _, _ => False
/-- x in xs: a list -/
def sIn : Sem2 := fun d e P => match e with
  | .list ds => okD d ∧ okD (.list ds) ∧ P (vB (ds.any fun z => PyData.eqv z d))
  | _ => False
def sNotIn : Sem2 := fun d e P => match e with
  | .list ds => okD d ∧ okD (.list ds) ∧ P (vB (!ds.any fun z => PyData.eqv z d))
  | _ => False
theorem p_in : Pure2 K (rInD K) sIn := by
  intro PN Z H x y d e P Q Cx bx bz s k
  unfold sIn at s
  split at s
  · exact ⟨_, _, bx.dp Cx.sub s.1.1, bz.dp Cx.sub s.2.1.1, s.1.2, s.2.1.2, keepS Cx k s.2.2 (.bl _)⟩
  · exact s.elim
theorem p_notIn : Pure2 K (rNotInD K) sNotIn := by
  intro PN Z H x y d e P Q Cx bx bz s k
  unfold sNotIn at s
  split at s
  · exact ⟨_, _, bx.dp Cx.sub s.1.1, bz.dp Cx.sub s.2.1.1, s.1.2, s.2.1.2, keepS Cx k s.2.2 (.bl _)⟩
  · exact s.elim

/-! ### built-ins -/
def lenD : D → Option Nat
  | .list a => some a.length
  | .tuple a => some a.length
  | _ => none
def sLen : SemN := fun ds P => match ds with
  | [.list a] => P (vI a.length)
  | [.tuple a] => P (vI a.length)
  | _ => False
abbrev rLen (K : Fg) : List V → Hp → VK → Prop := fun xs H Q => ∃ x n, xs = [x] ∧ LenV K x H n ∧ Q (.int n) H
theorem p_len : PureN K (rLen K) sLen := by
  intro PN Z H xs ds P Q Cx b s k
  unfold sLen at s
  split at s
  · obtain ⟨v, rfl, bb⟩ := b.one
    obtain ⟨a, vs, rfl, h, t⟩ := bb.listI Cx.sub
    exact ⟨_, _, rfl, .inl ⟨vs, SqL.of h, t.length.symm⟩, keepS Cx k s (.int _)⟩
  · obtain ⟨v, rfl, bb⟩ := b.one
    obtain ⟨a, vs, rfl, h, _, t⟩ := bb.tupI Cx.sub
    exact ⟨_, _, rfl, .inr ⟨vs, h, t.length.symm⟩, keepS Cx k s (.int _)⟩
  · exact s.elim
def sList : SemN := fun ds P => match ds with
  | [.list a] => P (.ls a)
  | [.tuple a] => P (.ls a)
  | _ => False
abbrev rList (K : Fg) : List V → Hp → VK → Prop := fun xs H Q => ∃ p ys, xs = [.ref p] ∧ (SqL K H p ys ∨ SqT K H p ys) ∧ ∀ l, H l = none → Q (.ref l) (upd H l (.lst ys))
theorem p_list : PureN K (rList K) sList := by
  intro PN Z H xs ds P Q Cx b s k
  unfold sList at s
  split at s
  · obtain ⟨v, rfl, bb⟩ := b.one
    obtain ⟨a, vs, rfl, h, t⟩ := bb.listI Cx.sub
    exact ⟨_, _, rfl, .inl (SqL.of h), newL Cx k s t⟩
  · obtain ⟨v, rfl, bb⟩ := b.one
    obtain ⟨a, vs, rfl, h, _, t⟩ := bb.tupI Cx.sub
    exact ⟨_, _, rfl, .inr h, newL Cx k s t⟩
  · exact s.elim
def sTuple : SemN := fun ds P => match ds with
  | [.list a] => P (.v (.dat (.tuple a)))
  | [.tuple a] => P (.v (.dat (.tuple a)))
  | _ => False
abbrev rTuple (K : Fg) : List V → Hp → VK → Prop := fun xs H Q => ∃ p ys, xs = [.ref p] ∧ ((SqL K H p ys ∧ ∀ l, H l = none → Q (.ref l) (upd H l (.tup ys))) ∨ (SqT K H p ys ∧ Q (.ref p) H))
theorem p_tuple : PureN K (rTuple K) sTuple := by
  intro PN Z H xs ds P Q Cx b s k
  unfold sTuple at s
  split at s
  · obtain ⟨v, rfl, bb⟩ := b.one
    obtain ⟨a, vs, rfl, h, t⟩ := bb.listI Cx.sub
    exact ⟨_, _, rfl, .inl ⟨SqL.of h, newT Cx k s t⟩⟩
  · obtain ⟨v, rfl, bb⟩ := b.one
    obtain ⟨a, vs, rfl, h, h', t⟩ := bb.tupI Cx.sub
    exact ⟨_, _, rfl, .inr ⟨h, keepS Cx k s (.tup h' t)⟩⟩
  · exact s.elim
def sInt1 : SemN := fun ds P => match ds with
  | [.int i] => P (vI i)
  | [.bool b] => P (vI (if b then 1 else 0))
  | _ => False
abbrev rInt1 : List V → Hp → VK → Prop := fun xs H Q => (∃ i, xs = [.int i] ∧ Q (.int i) H) ∨ ∃ k, xs = [.bl k] ∧ Q (.int (if k then 1 else 0)) H
theorem p_int1 : PureN K rInt1 sInt1 := by
  intro PN Z H xs ds P Q Cx b s k
  unfold sInt1 at s
  split at s
  · obtain ⟨v, rfl, bb⟩ := b.one
    obtain rfl := bb.intI
    exact .inl ⟨_, rfl, keepS Cx k s (.int _)⟩
  · obtain ⟨v, rfl, bb⟩ := b.one
    obtain rfl := bb.boolI
    exact .inr ⟨_, rfl, keepS Cx k s (.int _)⟩
  · exact s.elim
/-- repr -/
def rRepr (K : Fg) : List V → Hp → VK → Prop := fun xs H Q => ∃ x d, xs = [x] ∧ Dp K H x d ∧ d.showable = true ∧ d.hasDict = false ∧ d.depth ≤ 64 ∧ d.shown.length ≤ sizeLine ∧ Q (.str d.shown) H
theorem c_repr {X : Cx} (hg : X.A.guards = some []) (hu : X.A.units + 66 < cLine) : CallR X (.builtin "repr") (rRepr X.K) := by
  intro pins s σ H xs us Q I r h
  obtain ⟨x, d, rfl, hd, h1, h2, h3, h4, q⟩ := h
  obtain ⟨u, rfl, rv⟩ := vals1 r
  obtain ⟨as, rd⟩ := Dp.reads I d x u hd rv
  cases hd with
  | non => cases rv; exact PySem.P.repr_of_none ⟨.str _, H, I.tok _, ⟨_, rfl⟩, by simpa [PyData.shown] using q⟩
  | bl b => cases rv; exact PySem.P.repr_of_bool ⟨.str _, H, I.tok _, ⟨_, rfl⟩, by simpa [PyData.shown] using q⟩
  | int i =>
    obtain ⟨t, rfl⟩ := rv
    exact PySem.P.repr_of_int (by simpa [PyData.showable] using h1) ⟨.str _, H, I.tok _, ⟨_, rfl⟩, by simpa [PyData.shown] using q⟩
  | str y =>
    obtain ⟨t, rfl⟩ := rv
    exact PySem.P.repr_of_str ⟨.str _, H, I.tok _, ⟨_, rfl⟩, by simpa [PyData.shown] using q⟩ (by simpa [PyData.shown] using h4)
  | lst a b =>
    cases rv
    exact repr_of_reads' rd h1 (PyData.noDict_hsm h2) hg (by omega) (fun _ _ e => e) (fun h' u tk kk => ⟨.str _, H, I.kept kk, ⟨_, rfl⟩, q⟩) h4
  | tup a b =>
    cases rv
    exact repr_of_reads' rd h1 (PyData.noDict_hsm h2) hg (by omega) (fun _ _ e => e) (fun h' u tk kk => ⟨.str _, H, I.kept kk, ⟨_, rfl⟩, q⟩) h4
def sRepr : SemN := fun ds P => match ds with
  | [d] => nodict d = true ∧ d.showable = true ∧ d.hasDict = false ∧ d.depth ≤ 64 ∧ d.shown.length ≤ 16777216 ∧ P (.v (.dat (.str d.shown)))
  | _ => False
theorem p_repr : PureN K (rRepr K) sRepr := by
  intro PN Z H xs ds P Q Cx b s k
  unfold sRepr at s
  split at s
  · obtain ⟨v, rfl, bb⟩ := b.one
    exact ⟨_, _, rfl, bb.dp Cx.sub s.1, s.2.1, s.2.2.1, s.2.2.2.1, by rw [← line_is]; exact s.2.2.2.2.1, keepS Cx k s.2.2.2.2.2 (.str _)⟩
  · exact s.elim
/-! isinstance -/
def tyN : D → String
  | .none => "NoneType"
  | .bool _ => "bool"
  | .int _ => "int"
  | .str _ => "str"
  | .list _ => "list"
  | .tuple _ => "tuple"
  | .dict _ => "dict"
inductive Ty6 where
  | int | bool | str | tuple | list | dict
def Ty6.name : Ty6 → String
  | .int => "int"
  | .bool => "bool"
  | .str => "str"
  | .tuple => "tuple"
  | .list => "list"
  | .dict => "dict"
def isiD : Ty6 → D → Bool
  | .int, .int _ => true
  | .int, .bool _ => true
  | .bool, .bool _ => true
  | .str, .str _ => true
  | .tuple, .tuple _ => true
  | .list, .list _ => true
  | .dict, .dict _ => true
  | _, _ => false
theorem tyx_of {K : Fg} {H : Hp} {a : Addr} {xs : List V} (h : SqT K H a xs) : TyX K H (.ref a) (.type "tuple") := by
  rcases h with (h | ⟨o, h⟩) | ⟨o, its, n, h1, h2, _⟩
  · exact .base (.tup h)
  · exact .fTuple h
  · exact .kTuple h1 h2
theorem BR.tyx {PN : Addr → Prop} {Z H : Hp} (s : Sub Z H) {v : V} {d : D} (b : BR K PN Z H v d) (n : ∀ kvs, d ≠ .dict kvs) : TyX K H v (.type (tyN d)) := by
  cases b with
  | z b =>
    cases b with
    | non => exact .base .non
    | bl b => exact .base (.bl b)
    | int b => exact .base (.int b)
    | str b => exact .base (.str b)
    | lst h _ => exact .base (.lst (s _ _ h))
    | tup h _ => exact tyx_of (s.sqT h)
    | dk _ _ => exact absurd rfl (n _)
    | dt _ _ => exact absurd rfl (n _)
  | l _ h _ => exact .base (.lst h)
  | dk _ _ _ => exact absurd rfl (n _)
  | dt _ _ _ => exact absurd rfl (n _)
theorem kit_isi (T : Ty6) (d : D) : PySem.W.kitOne K (.type (tyN d)) (.type T.name) = some (isiD T d) := by
  refine kit_ty ?_
  cases T <;> cases d <;> (simp only [tyN, Ty6.name, isiD]; decide +kernel)
end
section
variable {X : Cx} {G : Gh} {e a b : Expr} {es : List Expr} {pos p p2 : Pos}
def wIsi (T : Ty6) (w : WE D) : WE Rv := fun Γ P => w Γ fun d Γ1 => (match d with | .dict _ => False | _ => True) ∧ P (.dat (.bool (isiD T d))) Γ1
theorem boot_ty (T : Ty6) : bootBuiltins (Str.ofString T.name) = some (.type T.name) := by
  cases T
  · exact boot_int
  · exact boot_bool
  · exact boot_str
  · exact boot_tuple
  · exact boot_list
  · exact boot_dict
theorem ae_isi {w : WE D} (T : Ty6) (h : AB X G a w) (hm : X.mg "isinstance" = none) (hmT : X.mg (Str.ofString T.name) = none) (hg : Gl X "isinstance" := by rfl) (hgT : Gl X (Str.ofString T.name) := by rfl)
    (hn : Str.ofString T.name ≠ "__name__" := by decide) (hd : ((Str.ofString T.name) == ("__debug__" : Str)) = false := by decide) (he : starEach [a, .Name (Str.ofString T.name) p2] X.env = (false, eval a X.env) :: starEach [.Name (Str.ofString T.name) p2] X.env := by rfl) (he2 : starEach [.Name (Str.ofString T.name) p2] X.env = (false, eval (.Name (Str.ofString T.name) p2) X.env) :: starEach [] X.env := by rfl) (hpl : (backTo pos (starEach [.Name (Str.ofString T.name) p2] X.env)).any (·.1) = false := by rfl) :
    AE X G (.Call (.Name "isinstance" p) [a, .Name (Str.ofString T.name) p2] [] pos) (wIsi T w) := by
  have hc : PE X (.Name (Str.ofString T.name) p2) (tC (.ty T.name)) := pe_bltn hgT hmT (boot_ty T) rfl hn hd
  refine PEi (pe_callB call_isi hg hm boot_isinstance (pa_cons h (pa_cons hc pa_nil he2) he) (by decide) (by decide) he hpl) fun σ H Q ⟨Γ, Z, O, P, R, q, k⟩ => ?_
  refine ⟨Γ, Z, O, _, R, q, fun d Γ1 v Z1 O1 H1 p1 R1 S1 b1 => ?_⟩
  refine ⟨v, .ty T.name, .type (tyN d), .type T.name, _, rfl, .ty T.name, b1.tyx R1.sub ?_, kit_isi T d, k _ _ _ _ _ _ p1.2 R1 S1 (.bl _)⟩
  rintro kvs rfl
  exact p1.1
end
end VL
namespace VL
open PySem PySem.Spec PyProof.Rows L2

/-! ### what is known of the top -/
section
variable (P : Program) (w : World) (K : Fg) (mg : Str → Option Value) (base : Heap)
/-- a def of the top: x, with the parameters ps, keeps W -/
def CallOk (k : Nat) (x : Str) (ps : List Str) (W : WF) : Prop := ∃ (f : Addr) (fd : FuncData), FnV P w K mg base k f fd ps W ∧ PySem.W.keepIn K (.ref f) = true ∧ Binds K fd ps [] ∧ mg x = some (.ref f)
/-- a class of errors of the top -/
def ErrOk (x f : Str) (g : Option Str) : Prop := ∃ (C fI : Addr) (fd : FuncData) (ps : List Str), ErrT K mg x f g C fI fd ps ∧ XfC K C
end
section
variable {X : Cx} {G : Gh} {Ex : Exc → Ga → Prop} {e : Expr} {es : List Expr} {pos p : Pos}
theorem CallOk.imp {P : Program} {w : World} {K : Fg} {mg : Str → Option Value} {base : Heap} {k : Nat} {x : Str} {ps : List Str} {W W' : WF} (c : CallOk P w K mg base k x ps W) (h : ∀ as c P R, W' as c P R → W as c P R) : CallOk P w K mg base k x ps W' := by
  obtain ⟨f, fd, F, r⟩ := c
  exact ⟨f, fd, F.imp h, r⟩
theorem ae_callC {k k' : Nat} {x : Str} {ps : List Str} {W : WF} {ws : WE (List Rv)} (c : CallOk X.prog X.w X.K X.mg X.base k x ps W) (room : RoomG k' X.A) (tk : Takes X (WEx X.K X.mg G Ex)) (ha : AA X G (e :: es) ws) (hk : k ≤ k' := by decide)
    (hg : Gl X x := by rfl) (hdb : (x == ("__debug__" : Str)) = false := by decide) (he : starEach (e :: es) X.env = (false, eval e X.env) :: starEach es X.env := by rfl) (hpl : (backTo pos (starEach es X.env)).any (·.1) = false := by rfl) :
    AE X G (.Call (.Name x p) (e :: es) [] pos) (wCall W Ex ws) := by
  obtain ⟨f, fd, F, kp, bd, hm⟩ := c
  exact ae_call F (room.mono hk) hm kp bd tk ha hg hdb he hpl
theorem ae_callC0 {k k' : Nat} {x : Str} {ps : List Str} {W : WF} (c : CallOk X.prog X.w X.K X.mg X.base k x ps W) (room : RoomG k' X.A) (tk : Takes X (WEx X.K X.mg G Ex)) (hk : k ≤ k' := by decide) (hg : Gl X x := by rfl) (hdb : (x == ("__debug__" : Str)) = false := by decide) : AE X G (.Call (.Name x p) [] [] pos) (wCall W Ex wNil) := by
  obtain ⟨f, fd, F, kp, bd, hm⟩ := c
  exact ae_call0 F (room.mono hk) hm kp bd tk hg hdb
theorem pass_no {X : Cx} : Passes (L2.CX X.prog X.w) X (fun _ _ _ => False) := fun _ _ _ _ _ _ _ ⟨_, _, _, _, _, _, _, _, _, _, _, _, z⟩ => z.elim
abbrev Ex0 : Exc → Ga → Prop := fun _ _ => False
theorem tk0 {X : Cx} {G : Gh} : Takes X (WEx X.K X.mg G Ex0) := takes_none5.imp fun _ _ _ _ ⟨_, _, _, _, _, _, q⟩ => q
theorem as_raiseC {k' : Nat} {x f : Str} {g : Option Str} {ws : WE (List Rv)} {pos' : Pos} (c : ErrOk X.K X.mg x f g) (room : RoomG k' X.A) (tk : Takes X (WEx X.K X.mg G Ex)) (ha : AA X G (e :: es) ws) (hk : 2 ≤ k' := by decide) (hl : (e :: es).length ≤ 1000 := by decide) (hc : X.calm = true := by rfl)
    (hg : Gl X x := by rfl) (hdb : (x == ("__debug__" : Str)) = false := by decide) (he : starEach (e :: es) X.env = (false, eval e X.env) :: starEach es X.env := by rfl) (hpl : (backTo pos (starEach es X.env)).any (·.1) = false := by rfl) :
    AS X G (.Raise (some (.Call (.Name x p) (e :: es) [] pos)) none pos') (wRaise x f g Ex ws) := by
  obtain ⟨C, fI, fd, ps, T, _⟩ := c
  exact as_raise T (room.mono hk) tk pass_no ha hl hc hg hdb he hpl
/-! negation -/
def sNeg : D → (Rz → Prop) → Prop := fun d P => match d with
  | .int i => P (vI (-i))
  | _ => False
def w1 (sem : D → (Rz → Prop) → Prop) (wa : WE D) : WE Rz := fun Γ P => wa Γ fun d Γ1 => sem d fun z => P z Γ1
theorem az_neg {a : Expr} {wa : WE D} (ha : AB X G a wa) : AZ X G (.UnaryOp .USub a pos) (w1 sNeg wa) := PEi (pe_un un_neg ha) fun σ H Q ⟨Γ, Z, O, P, R, w, k⟩ => ⟨Γ, Z, O, _, R, w, fun d Γ1 x Z1 O1 H1 p1 R1 S1 b1 => by
  unfold sNeg at p1
  split at p1
  · obtain rfl := b1.intI
    exact ⟨_, rfl, k _ _ _ _ _ _ p1 R1 S1 (.int _)⟩
  · exact p1.elim⟩
/-! subscripts of lists, tuples, texts -/
def sIx : Sem2 := fun d e P => match d, e with
  | .list ds, .int i => ∃ v, atI ds i = some v ∧ P (.v (.dat v))
  | .tuple ds, .int i => ∃ v, atI ds i = some v ∧ P (.v (.dat v))
  | _, _ => False
def IxPure (K : Fg) (r : R2) (sem : Sem2) : Prop := Pure2 K r sem
theorem DRs.atI {K : Fg} {Z : Hp} {vs : List V} {ds : List D} {i : Int} {d : D} (h : DRs K Z vs ds) (e : atI ds i = some d) : ∃ v, L2.atI vs i = some v ∧ DR K Z v d := by
  unfold L2.atI at e ⊢
  rw [h.length]
  cases q : ixN ds.length i with
  | none => rw [q] at e; cases e
  | some j =>
    rw [q] at e
    exact h.get e
theorem p_ix {K : Fg} : Pure2 K (rIx K) sIx := by
  intro PN Z H x y d e P Q Cx bx bz s k
  unfold sIx at s
  split at s
  · obtain ⟨u, hu, s⟩ := s
    obtain ⟨a, vs, rfl, h, t⟩ := bx.listI Cx.sub
    obtain rfl := bz.intI
    obtain ⟨v, h1, h2⟩ := t.atI hu
    exact .inl ⟨a, vs, _, v, rfl, rfl, SqL.of h, h1, keepS Cx k s h2⟩
  · obtain ⟨u, hu, s⟩ := s
    obtain ⟨a, vs, rfl, h, _, t⟩ := bx.tupI Cx.sub
    obtain rfl := bz.intI
    obtain ⟨v, h1, h2⟩ := t.atI hu
    exact .inr (.inl ⟨a, vs, _, v, rfl, rfl, h, h1, keepS Cx k s h2⟩)
  · exact s.elim
theorem az_ix {a b : Expr} {wa wb : WE D} (ha : AB X G a wa) (hb : AB X G b wb) (hs : PlainIx b := by exact fun _ _ => rfl) : AZ X G (.Subscript a b pos) (w2 sIx wa wb) := PEi (pe_ix ix_seq ha hb hs) fun _ _ _ h => tOp_of p_ix h
end

/-! ### the pen -/
section
variable {P : Program} {w : World} {K : Fg} {mg : Str → Option Value} {base : Heap}
theorem FnV.ofOk {k : Nat} {f : Addr} {fd : FuncData} {ps : List Str} {sp : Sp} {W : WF} (F : FnOk P w K mg base CX0 k f fd ps sp) (hl : ∀ as c P R, W as c P R → as.length = ps.length) (h : ∀ vs H Q E, spOf K mg W vs H Q E → sp vs H Q E) : FnV P w K mg base k f fd ps W :=
  ⟨hl, fun A outer s H args us vs Q E room e0 hb hv hsp => codeAny_mono (F.run A outer s H args us vs Q E room.room e0 hb hv (h _ _ _ _ hsp)) fun r s' q => by
    cases r with
    | error e => exact q.elim
    | ok fl => cases fl <;> exact q⟩
def W_draw : WF := fun as c P _ => ∃ many : Int, as = [.pen, .dat (.int many)] ∧ 0 < many ∧ many < 1073741824 ∧ c < 2 ^ 50 ∧ ∀ r : Int, 0 ≤ r → r < many → P (.dat (.int r)) (c + 1)
abbrev penA (a : Addr) (i d k f : Int) : List (Key × V) := [(.inr "cells", .ref a), (.inr "at", .int i), (.inr "digits", .int d), (.inr "count", .int k), (.inr "fold", .int f)]
/-- many from the pen at p -/
def spDraw : Sp := fun vs H Q _ => ∃ (p a : Addr) (ns : List Int) (many i d k f : Int), vs = [.ref p, .int many] ∧ 0 < many ∧ many < 1073741824 ∧ H p = some (.dK (penA a i d k f)) ∧ H a = some (.lst (ns.map V.int)) ∧ a ≠ p ∧
  0 ≤ i ∧ 0 ≤ d ∧ 0 ≤ k ∧ k < 2 ^ 50 ∧ 0 ≤ f ∧ f < 2 ^ 32 ∧ ∀ i' d' f' r : Int, 0 ≤ i' → 0 ≤ d' → 0 ≤ f' → f' < 2 ^ 32 → 0 ≤ r → r < many → Q (.int r) (upd H p (.dK (penA a i' d' (k + 1) f')))
theorem draw_sp (vs : List V) (H : Hp) (Q : VK) (E : XK) (h : spOf K mg W_draw vs H Q E) : spDraw vs H Q E := by
  obtain ⟨PN, Z, c, as, P1, R1, sub, pens, hr, ⟨many, rfl, h1, h2, h3, h4⟩, kQ, _⟩ := h
  cases hr with
  | cons b1 hr =>
    cases hr with
    | cons b2 hr =>
      cases hr
      obtain ⟨p, rfl, hp⟩ := b1
      have b2' : DR K Z _ (.int many) := b2
      cases b2'
      obtain ⟨⟨kvs, hk, a, ns, i, d, k, f, rfl, ha, q1, q2, q3, q4, q5, q6⟩, hz⟩ := pens p hp
      have hap : a ≠ p := by rintro rfl; rw [hz] at ha; cases ha
      refine ⟨p, a, ns, many, i, d, k, f, rfl, h1, h2, hk, sub _ _ ha, hap, q1, q2, q3, by omega, q5, q6, fun i' d' f' r g1 g2 g3 g4 g5 g6 => kQ _ _ _ Z _ (h4 r g5 g6) ?_ (.int r)⟩
      refine ⟨fun b o e n => by rw [upd_ne (fun z => n (by rw [z]; exact hp))]; exact e, fun b e => ?_, Sub.refl, fun b o e => ?_, fun b e => .inl e, fun b hb => ?_⟩
      · by_cases z : b = p
        · rw [z, upd_same] at e; cases e
        · rw [upd_ne z] at e; exact e
      · rw [upd_ne (fun z => by rw [z, hz] at e; cases e)]; exact sub _ _ e
      · by_cases z : b = p
        · subst z
          exact ⟨⟨_, upd_same, a, ns, i', d', k + 1, f', rfl, ha, g1, g2, by omega, by omega, g3, g4⟩, hz⟩
        · obtain ⟨u1, u2⟩ := pens b hb
          exact ⟨u1.mono Sub.refl (fun o e => by rw [upd_ne z]; exact e) (by omega), u2⟩
theorem draw_len (as : List Rv) (c : Nat) (P : Rv → Nat → Prop) (R : Exc → Nat → Prop) (h : W_draw as c P R) : as.length = 2 := by
  obtain ⟨_, rfl, _⟩ := h; rfl
end
end VL
namespace VL
open PySem PySem.Spec PyProof.Rows L2

/-! ### the law: its first statement makes the pen, the rest is told by data -/
/-- _law_pen(script): a new pen over a new list of the script's ints -/
def spPen (K : Fg) : Sp := fun vs H Q _ => ∃ (a : Addr) (ns : List Int), vs = [.ref a] ∧ SqL K H a (ns.map V.int) ∧ ns.length ≤ 63 ∧
  ∀ (p c : Addr) (f : Int) (H' : Hp), 0 ≤ f → f < 2 ^ 32 → H p = none → H c = none → c ≠ p → H' = upd (upd H c (.lst (ns.map V.int))) p (.dK (penA c 0 0 0 f)) → Q (.ref p) H'
def lawG (n : Nat) : Ga := ⟨.no :: .rv .pen :: List.replicate (n - 2) .no, 0⟩
def wTrue (ws : WS) (n : Nat) : Prop := ws ⟨fun _ => False, fun r _ => r = .dat (.bool true), fun _ => False, fun _ => False⟩ (lawG n)
section
variable {P : Program} {w : World} {K : Fg} {mg : Str → Option Value} {base : Heap}
theorem lawG_no {n i : Nat} : (lawG n).at (i + 2) = .no := by
  unfold lawG Ga.at
  rw [List.getD_eq_getElem?_getD, List.getElem?_cons_succ, List.getElem?_cons_succ, List.getElem?_replicate]
  split <;> rfl
theorem pen_rel {n : Nat} {p c a : Addr} {f : Int} {ns : List Int} {H H' : Hp} (hp : H p = none) (hc : H c = none) (ne : c ≠ p) (e : H' = upd (upd H c (.lst (ns.map V.int))) p (.dK (penA c 0 0 0 f))) (f0 : 0 ≤ f) (f1 : f < 2 ^ 32) :
    ∃ Z, Rel K ⟨fun q => q = p, Z, H', Z⟩ (lawG n) Z (fun _ => none) (some (.ref a) :: some (.ref p) :: List.replicate (n - 2) none) H' := by
  have hcp : H' c = some (.lst (ns.map V.int)) := by rw [e, upd_ne ne, upd_same]
  refine ⟨fun b => if b = c then some (.lst (ns.map V.int)) else none, ⟨by simp [lawG], fun b o q => ?_, ?_, fun b i q => (by cases q), fun i => ?_, fun b o q _ => q, Sub.refl, Sub.refl, fun b q => .inl q⟩⟩
  · by_cases z : b = c
    · subst z; rw [if_pos rfl] at q; rw [← q]; exact hcp
    · rw [if_neg z] at q; cases q
  · rintro q rfl
    refine ⟨⟨_, by rw [e]; exact upd_same, c, ns, 0, 0, 0, f, rfl, if_pos rfl, by decide, by decide, by decide, by simp [lawG], f0, f1⟩, if_neg (Ne.symm ne), rfl, ?_⟩
    show H' q ≠ none
    rw [e, upd_same]; simp
  · match i with
    | 0 => trivial
    | 1 => exact ⟨_, rfl, p, rfl, rfl⟩
    | i + 2 => rw [lawG_no]; trivial
/-- what the law's call leaves -/
def LawDone (P : Program) (w : World) (H : Hp) (s : Shared) (r : Result) (s' : Shared) : Prop := r = .ok (.ret (.bool true)) ∧ ∃ H', s'.os = s.os ∧ AllBare s'.gens ∧ Un (frs []) [] H H' s.heap s'.heap ∧ HOk P w H' s'.heap
/-- the law's body, at the outermost frame -/
theorem law_body {st first : Stmt} {rest : List Stmt} {fa : Addr} {fd : FuncData} {N : List Str} {k : Nat} {ws : WS} {a : Addr} {ns : List Int} {s : Shared} {H : Hp}
    (F : Fun K "law" "law" st fa fd) (S : FnScope N ["script"] (defScope st)) (hN : 2 ≤ N.length) (hs : defBody st = first :: rest)
    (room : RoomG (k + 1) callerA) (hscr : (defScope st).names.lookup (Str.ofString "script") = some .local)
    (hfirst : ∀ (cdv : Value) (A : Around) (outer : List Env) (s : Shared) (H : Hp), RoomG k (A.deeper (envOfC "law" (defScope st) s.heap.objs.size fa cdv)) →
      PS (cxOf (L2.CX P w) P w K mg base N "law" (defScope st) fa cdv A outer s H fun _ _ _ => False) first (tAsg (tCall (spPen K) [] E0 (tCons (tVar 0) tNil)) (gName 1)))
    (hbody : ∀ (cdv : Value) (A : Around) (outer : List Env) (s : Shared) (H : Hp) (G : Gh), RoomG k (A.deeper (envOfC "law" (defScope st) s.heap.objs.size fa cdv)) → ASs (cxOf (L2.CX P w) P w K mg base N "law" (defScope st) fa cdv A outer s H fun _ _ _ => False) G rest ws)
    (hw : wTrue ws N.length) (e0 : Env0 P w K mg base callerA [] s H) (hS : SqL K H a (ns.map V.int)) (hn : ns.length ≤ 63) (hb : BindsTo s fd ⟨[.ref a], []⟩ [(Str.ofString "script", .ref a)]) :
    codeAny (model P w) callerA (.call (.ref fa) ⟨[.ref a], []⟩) (LawDone P w H s) s := by
  obtain ⟨oc, od, kV, doc, pm, an, cdv, ct, osl, rfl, lk, hcd⟩ := F.ex
  have KX : K.In s.heap := e0.mod.kin.keeps fun b o e => (e0.bs b o e).1
  have lim : s.heap.NoLimit := e0.mod.nolimit.keeps fun b o e => (e0.bs b o e).1
  refine codeAny_call_function room.room.depth (KX _ _ lk) rfl S.co S.gen rfl (PySem.W.codeRec_of KX hcd) (hb _ _ _ _ (wpAny_newFunctionEnv_cells S.kind (fun y hy => ?_) ?_))
  · obtain rfl : y = (Str.ofString "script", Value.ref a) := List.mem_singleton.mp hy
    exact .inl hscr
  rintro env rfl s1 inCall
  refine ⟨lim.keeps inCall.toInCall.keep, codeAny_func ?_⟩
  have room' : RoomG k (callerA.deeper (envOfC "law" (defScope st) s.heap.objs.size fa cdv)) := ⟨room.room.deeper _, room.gd⟩
  have I := inv_start (CX := L2.CX P w) (E := fun _ _ _ => False) (vs := [.ref a]) S room.room.hd e0 rfl (.cons rfl .nil) inCall
  have hst : L2.start N [.ref a] = some (.ref a) :: none :: List.replicate (N.length - 2) none := by
    obtain ⟨m, hm⟩ : ∃ m, N.length = m + 2 := ⟨N.length - 2, by omega⟩
    simp [L2.start, hm, List.replicate_succ]
  rw [hst] at I
  have whole := pss_cons (hfirst cdv callerA [] s H room') (u := fun D σ H' => ∃ G, liftS K G ws D σ H') ⟨fun pins s σ H D I ⟨G, q⟩ => (hbody cdv callerA [] _ _ G room').run pins s σ H D I q⟩
  have done := whole.run [] s1 _ H { nx := fun _ _ => False, rt := fun v _ => v = .bl true } I ⟨_, rfl, a, ns, rfl, hS, hn, fun p c f H' f0 f1 hp hc ne e => ?_⟩
  · rw [← hs] at done
    refine wpAny_mono done (fun fl s' q => ?_) fun er s' q => ?_
    · cases fl with
      | next => obtain ⟨_, _, _, q⟩ := q; exact q.elim
      | brk => obtain ⟨_, _, _, q⟩ := q; exact q.elim
      | cont => obtain ⟨_, _, _, q⟩ := q; exact q.elim
      | ret u =>
        obtain ⟨v, σ', H', J, rv, q⟩ := q
        subst q
        obtain rfl : u = Value.bool true := rv
        exact ⟨rfl, H', J.os, J.bare, J.base, J.hok⟩
    · exact wpAny_mono q (fun _ _ ⟨_, _, _, _, _, _, _, _, _, _, _, _, z⟩ => z.elim) fun _ _ ⟨_, _, _, _, _, _, _, _, _, _, _, _, z⟩ => z.elim
  · obtain ⟨Z, R⟩ := pen_rel (K := K) (n := N.length) (a := a) hp hc ne e f0 f1
    exact ⟨_, _, Z, _, _, R, hw, ⟨fun Γ Z' O σ H' q _ => q.elim, fun r Γ Z' O σ H' v q _ x => by subst q; cases x; rfl, fun _ _ _ _ _ q => q.elim, fun _ _ _ _ _ q => q.elim⟩⟩
/-- the law's call, from any heap in which the script is a list of ints -/
theorem law_enter {mb : Str → Option Value} {fa a : Addr} {s : Shared} {vs : List Value} {ns : List Int} (KX : K.In s.heap) (hm : s.heap.Ns mainGlobals mg) (hb : s.heap.Ns builtinsNs mb) (hbb : ∀ x : Str, x ≠ "__name__" → mb x = bootBuiltins x) (lim : s.heap.NoLimit) (hg : s.gens = #[])
    (ha : s.heap.get? a = some { cls := .type "list", data := .seq vs.toArray }) (hi : IntsAre vs ns) (hl : ns.length ≤ 63)
    (F : ∀ (base : Heap) (H : Hp), K.In base → SqL K H a (ns.map V.int) → Env0 P w K mg base callerA [] s H → codeAny (model P w) callerA (.call (.ref fa) ⟨[.ref a], []⟩) (LawDone P w H s) s) :
    codeAny (model P w) callerA (.call (.ref fa) ⟨[.ref a], []⟩) (fun r s' => r = .ok (.ret (.bool true)) ∧ OldK s.heap s'.heap ∧ s'.os = s.os ∧ AllBare s'.gens) s := by
  have hz : ns.length ≤ sizeLine := Nat.le_trans hl (by decide)
  have hvs := vals_ints hi
  -- only the script may be tracked, and only where it is none of the module's own
  let ob : Obj := { cls := .type "list", data := .seq vs.toArray }
  let H : Hp := fun b => if b = a ∧ K.lookup a = none then some (.frz ob (.lst (ns.map V.int))) else none
  have hH : ∀ b u, H b = some u → b = a ∧ K.lookup a = none ∧ u = .frz ob (.lst (ns.map V.int)) := fun b u e => by
    by_cases q : b = a ∧ K.lookup a = none
    · rw [show H b = _ from if_pos q] at e; exact ⟨q.1, q.2, (Option.some.inj e).symm⟩
    · rw [show H b = _ from if_neg q] at e; cases e
  have hS : SqL K H a (ns.map V.int) := by
    cases e : K.lookup a with
    | none => exact .inl (.inr ⟨ob, if_pos ⟨rfl, e⟩⟩)
    | some o =>
      have e2 := KX a o e
      rw [ha] at e2; cases e2
      exact .inr ⟨_, vs.toArray, _, e, rfl, rfl, rfl, by rw [List.size_toArray, hi.length]; exact hz, by simpa using hvs⟩
  have hok : HOk P w H s.heap := fun b u e => by
    obtain ⟨rfl, _, rfl⟩ := hH b u e
    exact ⟨ha, by rw [List.length_map]; exact hz, vs, _, hvs, ha⟩
  have free : ∀ {b : Addr} {o : Obj}, s.heap.get? b = some o → (b = a → K.lookup a ≠ none) → H b = none := fun {b o} e n => by
    cases q : H b with
    | none => rfl
    | some u => obtain ⟨h1, h2, _⟩ := hH b u q; exact absurd h2 (n h1)
  have toB : ∀ {b : Addr} {o : Obj}, s.heap.get? b = some o → H b = none → (hidT s.heap H).get? b = some o := fun e n => hidT_get e n
  have ns' : ∀ {b : Addr} {m : Str → Option Value}, s.heap.Ns b m → (hidT s.heap H).Ns b m := fun {b m} ⟨o, es, ep, e, d, r⟩ => ⟨o, es, ep, toB e (by
    cases q : H b with
    | none => rfl
    | some u =>
      obtain ⟨rfl, _, _⟩ := hH b u q
      rw [ha] at e; cases e; cases d), d, r⟩
  have inB : K.In (hidT s.heap H) := fun b o e => toB (KX b o e) (free (KX b o e) fun q => by subst q; rw [e]; simp)
  have mod : Mod K mg (hidT s.heap H) := ⟨inB, ns' hm, ⟨mb, ns' hb, hbb⟩, by obtain ⟨m, h1, h2⟩ := lim; exact ⟨m, ns' h1, h2⟩⟩
  have e0 : Env0 P w K mg (hidT s.heap H) callerA [] s H := ⟨rfl, mod, fun b o e => of_hidT e, Nat.le_of_eq (hidT_size _ _), trivial, fun b hb => (by cases hb), hok, .of_eq hg⟩
  refine codeAny_mono (F _ H inB hS e0) fun r s' q => ?_
  obtain ⟨rfl, H', os, bare, un, hok'⟩ := q
  refine ⟨rfl, OldK.of_keep fun b o e => ?_, os, bare⟩
  cases q : H b with
  | none => exact un.keep b o e q (fun z => by cases z) (by simp)
  | some u =>
    obtain ⟨rfl, h2, rfl⟩ := hH b u q
    have e2 := (hok' b _ (un.frzs b ob _ q)).1
    rw [ha] at e; cases e
    exact e2
/-- THE END: the goal that k_head leaves for the law's call -/
theorem vl_walk {l : PySem.W.OpenLaw} {q : Program} {loose : List Str} {XP : (Str → Option Value) → Heap → Prop} {YP : World → Heap → Prop} {d : DefRec} (hn : l.most = some 63) (hd : d.params.defaults = [])
    (F : ∀ (w : World) (mg : Str → Option Value) (fa : Addr) (h : Heap), YP w h → h.Ns mainGlobals mg → mg d.name = some (.ref fa) → ∃ K : Fg, K.In h ∧
      ∀ (base : Heap) (H : Hp) (a : Addr) (ns : List Int) (s : Shared), ns.length ≤ 63 → K.In base → SqL K H a (ns.map V.int) → Env0 l.prog w K mg base callerA [] s H → codeAny (model l.prog w) callerA (.call (.ref fa) ⟨[.ref a], []⟩) (LawDone l.prog w H s) s) :
    PySem.W.WalkO q loose XP YP l.row.toRowW d [] (fun f vs => PySem.call f vs) :=
  Att.attach_call hn hd fun w s₀ s₁ mg mb fa o pm cd doc a vs ns G Y ho hdt hcd hmg hobj hints hlen hg => by
    obtain ⟨K, KX, k⟩ := F w mg fa _ Y G.T.g hmg
    exact law_enter KX G.T.g G.T.b G.T.builtins G.T.nolimit hg hobj hints hlen fun base H h1 h2 h3 => k base H a ns s₁ hlen h1 h2 h3
/-- the same over k_head's written part -/
theorem vl_walkK {l : PySem.W.OpenLaw} {q : Program} {loose : List Str} {XP : (Str → Option Value) → Heap → Prop} {YP : World → Heap → Prop} {d : DefRec} {K : Params → Fg} (hn : l.most = some 63) (hd : d.params.defaults = []) (hY : ∀ (w : World) (h : Heap), YP w h → (K w.params).In h)
    (F : ∀ (w : World) (mg : Str → Option Value) (fa : Addr) (h : Heap), (K w.params).In h → h.Ns mainGlobals mg → mg d.name = some (.ref fa) →
      ∀ (base : Heap) (H : Hp) (a : Addr) (ns : List Int) (s : Shared), ns.length ≤ 63 → (K w.params).In base → SqL (K w.params) H a (ns.map V.int) → Env0 l.prog w (K w.params) mg base callerA [] s H → codeAny (model l.prog w) callerA (.call (.ref fa) ⟨[.ref a], []⟩) (LawDone l.prog w H s) s) :
    PySem.W.WalkO q loose XP YP l.row.toRowW d [] (fun f vs => PySem.call f vs) := vl_walk hn hd fun w mg fa h Y G e => ⟨K w.params, hY w h Y, F w mg fa h (hY w h Y) G e⟩
end
end VL
namespace VL
open PySem PySem.Spec PyProof.Rows L2

/-! ### the two defs of the pen -/
abbrev rAddI : R2 := rI0 fun i j => .int (i + j)
abbrev rSubI : R2 := rI0 fun i j => .int (i - j)
abbrev rMulI : R2 := rI CMul fun i j => .int (i * j)
abbrev rModI : R2 := rI (fun _ j => 0 < j) fun i j => .int (i % j)
abbrev rDivI : R2 := rI CDivN fun i j => .int (i.fdiv j)
abbrev rPowI : R2 := rI CPow fun i j => .int (i ^ j.toNat)
abbrev rGeI : R2 := rI0 fun i j => .bl (decide (j ≤ i))
abbrev rGtI : R2 := rI0 fun i j => .bl (decide (j < i))
abbrev rLtI : R2 := rI0 fun i j => .bl (decide (i < j))
abbrev rLstP (K : Fg) : List V → Hp → VK → Prop := fun xs H Q => ∃ p ys, xs = [.ref p] ∧ (SqL K H p ys ∨ SqT K H p ys) ∧ ∀ l, H l = none → Q (.ref l) (upd H l (.lst ys))
abbrev kS (s : String) : TE := tC (.str s)
abbrev kI (i : Int) : TE := tC (.int i)
def tPen (K : Fg) (c0 c1 c2 : Int) : TS :=
  tSeq (tAsg (kI c0) (gName 1)) (tSeq (tFor (iList K (tVar 0)) (gName 2) (tAsg (tOp rModI (tCB rInt1 (tCons (tOp rAddI (tOp rMulI (tVar 1) (kI c1)) (tVar 2)) tNil)) (kI c2)) (gName 1)))
  (tRet (tDisp [(kS "cells", tCB (rLstP K) (tCons (tVar 0) tNil)), (kS "at", kI 0), (kS "digits", kI 0), (kS "count", kI 0), (kS "fold", tVar 1)])))
theorem pen_goal {K : Fg} {c0 c1 c2 : Int} (h0 : 0 ≤ c0) (h0' : c0 < 2 ^ 32) (h1 : 0 ≤ c1) (h1' : c1 < 2 ^ 32) (h2 : 0 < c2) (h2' : c2 < 2 ^ 32) {vs : List V} {H : Hp} {Q : VK} {E : XK} (h : spPen K vs H Q E) {N : List Str} (hN : N.length = 3) :
    tPen K c0 c1 c2 { nx := fun _ H' => Q .non H', rt := Q } (L2.start N vs) H := by
  obtain ⟨a, ns, rfl, hS, hn, k⟩ := h
  have hst : L2.start N [.ref a] = [some (.ref a), none, none] := by simp [L2.start, hN, List.replicate_succ]
  rw [hst]
  dsimp only [tPen, tSeq, tAsg, tC, gName, List.set]
  refine ⟨_, rfl, a, rfl, ⟨_, hS⟩, fun i m σ H' => ∃ (f : Int) (x : Option V), 0 ≤ f ∧ f < 2 ^ 32 ∧ m = ns.length - i ∧ H' = H ∧ σ = [some (.ref a), some (.int f), x], ⟨_, c0, none, h0, h0', rfl, rfl, rfl⟩, ?_⟩
  rintro i m σ H' ⟨f, x, f0, f1, rfl, rfl, rfl⟩
  by_cases hi : i < ns.length
  · refine .inr ⟨⟨_, V.int ns[i], hS, by simp [hi]⟩, _, fun _ _ z => z, fun x' H2 ⟨e, hx⟩ => ?_⟩
    subst e
    have e := hx _ hS
    rw [List.getElem?_map, List.getElem?_eq_getElem hi] at e
    obtain rfl : V.int ns[i] = x' := Option.some.inj e
    show tAsg _ _ _ [some (.ref a), some (.int f), some (.int ns[i])] H2
    refine ⟨_, rfl, f, c1, rfl, rfl, .inl ⟨by omega, by omega⟩, _, rfl, _, _, rfl, rfl, .inl ⟨_, rfl, _, c2, rfl, rfl, h2, ?_⟩⟩
    refine ⟨_, Nat.sub_lt_sub_left hi (Nat.lt_succ_self i), _, _, Int.emod_nonneg _ (by omega), ?_, rfl, rfl, rfl⟩
    have := Int.emod_lt_of_pos (f * c1 + ns[i]) h2
    omega
  · refine .inl ⟨⟨_, hS, by simpa using hi⟩, fun p hp => ?_⟩
    have hS' : SqL K (upd H' p (.dK [])) a (ns.map V.int) := by
      have up : ∀ {o : HO}, H' a = some o → upd H' p (.dK []) a = some o := fun {o} e => by rw [upd_ne (fun z => by rw [z, hp] at e; cases e)]; exact e
      rcases hS with (r | ⟨o, r⟩) | r
      · exact .inl (.inl (up r))
      · exact .inl (.inr ⟨o, up r⟩)
      · exact .inr r
    refine ⟨_, rfl, a, _, rfl, .inl hS', fun c hc => ?_⟩
    have cp : c ≠ p := by rintro rfl; rw [upd_same] at hc; cases hc
    refine ⟨_, rfl, ?_, penA c 0 0 0 f, rfl, by simp [penA], ?_⟩
    · rw [upd_ne (Ne.symm cp), upd_same]
    · rw [show mergeK [] (penA c 0 0 0 f) = penA c 0 0 0 f from rfl]
      refine k p c f _ f0 f1 hp (by rw [upd_ne cp] at hc; exact hc) cp ?_
      funext b
      by_cases q : b = p
      · rw [q, upd_same, upd_same]
      · rw [upd_ne q, upd_ne q]
        by_cases q' : b = c
        · rw [q', upd_same, upd_same]
        · rw [upd_ne q', upd_ne q', upd_ne q]
abbrev tD (i : Nat) (k : String) : TE := tDGet (tVar i) (kS k)
abbrev tPut (k : String) (v : TE) : TS := sDPut (tVar 0) (kS k) v
abbrev tIntOf (t : TE) : TE := tCB rInt1 (tCons t tNil)
abbrev rLenP (K : Fg) : List V → Hp → VK → Prop := fun xs H Q => ∃ p ys, xs = [.ref p] ∧ (SqL K H p ys ∨ SqT K H p ys) ∧ Q (.int ys.length) H
/-- slots: pen, many, cell, digit, blend -/
def tDraw (K : Fg) (c1 c2 c3 c4 c5 c6 c7 : Int) : TS :=
  tSeq (tPut "count" (tOp rAddI (tD 0 "count") (kI 1)))
  (tSeq (tIfS (tAnd (tB (tOp rEq (tD 0 "digits") (kI 0))) (tB (tOp rLtI (tD 0 "at") (tCB (rLenP K) (tCons (tD 0 "cells") tNil)))))
    (tSeq (tAsg (tOp (rIx K) (tD 0 "cells") (tD 0 "at")) (gName 2))
    (tSeq (tPut "at" (tOp rAddI (tD 0 "at") (kI 1)))
      (tIfS (tB (tOp rGeI (tVar 2) (tOp rPowI (kI 10) (kI 18)))) (tPut "digits" (tOp rSubI (tVar 2) (tOp rPowI (kI 10) (kI 18))))
        (tPut "fold" (tOp rModI (tIntOf (tOp rAddI (tOp rMulI (tD 0 "fold") (kI c1)) (tVar 2))) (kI c2))))))
    tNext)
  (tSeq (tIfS (tB (tOp rGtI (tD 0 "digits") (kI 0)))
    (tSeq (tAsg (tOp rModI (tIntOf (tD 0 "digits")) (tVar 1)) (gName 3)) (tSeq (tPut "digits" (tOp rDivI (tD 0 "digits") (tVar 1))) (tRet (tVar 3))))
    tNext)
  (tSeq (tAsg (tOp rAddI (tOp rAddI (tD 0 "fold") (tOp rMulI (tD 0 "count") (kI c3))) (kI c4)) (gName 4))
    (tRet (tOp rModI (tOp rDivI (tIntOf (tOp rModI (tOp rPowI (tVar 4) (kI c5)) (kI c6))) (kI c7)) (tVar 1))))))
theorem upd_twice {H : Hp} {p : Addr} {o o' : HO} : upd (upd H p o) p o' = upd H p o' := by
  funext b
  by_cases q : b = p
  · rw [q, upd_same, upd_same]
  · rw [upd_ne q, upd_ne q, upd_ne q]
theorem lt5 {a : Addr} {i d k f : Int} : (penA a i d k f).length < sizeLine := by show 5 < sizeLine; decide
theorem draw_goal {K : Fg} {c1 c2 c3 c4 c5 c6 c7 : Int} (h1 : 0 ≤ c1 ∧ c1 < 2 ^ 32) (h2 : 0 < c2 ∧ c2 < 2 ^ 32) (h3 : 0 ≤ c3 ∧ c3 < 10000) (h4 : 0 ≤ c4 ∧ c4 < 2 ^ 32) (h5 : 0 ≤ c5 ∧ c5 < 100) (h6 : 0 < c6) (h7 : 0 < c7 ∧ c7 < 1073741824)
    {vs : List V} {H : Hp} {Q : VK} {E : XK} (h : spDraw vs H Q E) {N : List Str} (hN : N.length = 5) : tDraw K c1 c2 c3 c4 c5 c6 c7 { nx := fun _ H' => Q .non H', rt := Q } (L2.start N vs) H := by
  obtain ⟨p, a, ns, many, i, d, k, f, rfl, m0, m1, hp, ha, ap, i0, d0, k0, k1, f0, f1, kQ⟩ := h
  have hst : L2.start N [.ref p, .int many] = [some (.ref p), some (.int many), none, none, none] := by simp [L2.start, hN, List.replicate_succ]
  rw [hst]
  -- what stands behind the second statement
  have rest : ∀ (i d f : Int) (x : Option V), 0 ≤ i → 0 ≤ d → 0 ≤ f → f < 2 ^ 32 → (tSeq (tIfS (tB (tOp rGtI (tD 0 "digits") (kI 0)))
    (tSeq (tAsg (tOp rModI (tIntOf (tD 0 "digits")) (tVar 1)) (gName 3)) (tSeq (tPut "digits" (tOp rDivI (tD 0 "digits") (tVar 1))) (tRet (tVar 3))))
    tNext)
  (tSeq (tAsg (tOp rAddI (tOp rAddI (tD 0 "fold") (tOp rMulI (tD 0 "count") (kI c3))) (kI c4)) (gName 4))
    (tRet (tOp rModI (tOp rDivI (tIntOf (tOp rModI (tOp rPowI (tVar 4) (kI c5)) (kI c6))) (kI c7)) (tVar 1))))) { nx := fun _ H' => Q .non H', rt := Q } [some (.ref p), some (.int many), x, none, none] (upd H p (.dK (penA a i d (k + 1) f))) := by
    intro i d f x i0 d0 f0 f1
    refine ⟨_, rfl, p, _, rfl, DGet.k (k := .inr "digits") upd_same, d, 0, rfl, rfl, _, rfl, ?_⟩
    dsimp only
    by_cases hd : 0 < d
    · rw [decide_eq_true hd, if_pos rfl]
      refine ⟨_, rfl, p, _, rfl, DGet.k (k := .inr "digits") upd_same, .inl ⟨_, rfl, _, rfl, _, _, rfl, rfl, m0, ?_⟩⟩
      refine ⟨_, rfl, p, _, rfl, DGet.k (k := .inr "digits") upd_same, _, rfl, _, _, rfl, rfl, ⟨by omega, by omega⟩, _, rfl, p, _, rfl, DPut.k (k := .inr "digits") upd_same lt5, _, rfl, ?_⟩
      rw [upd_twice]
      exact kQ _ _ _ _ i0 (by rw [Int.fdiv_eq_ediv_of_nonneg _ (by omega)]; exact Int.ediv_nonneg (by omega) (by omega)) f0 f1 (Int.emod_nonneg _ (by omega)) (Int.emod_lt_of_pos _ m0)
    · rw [decide_eq_false hd, if_neg (by decide)]
      refine ⟨_, rfl, p, _, rfl, DGet.k (k := .inr "fold") upd_same, _, rfl, p, _, rfl, DGet.k (k := .inr "count") upd_same, _, _, rfl, rfl, .inr ⟨by omega, by omega⟩, _, _, rfl, rfl, _, _, rfl, rfl, ?_⟩
      have b0 : 0 ≤ (k + 1) * c3 := Int.mul_nonneg (by omega) h3.1
      have b1 : (k + 1) * c3 ≤ (k + 1) * 10000 := Int.mul_le_mul_of_nonneg_left (by omega) (by omega)
      refine ⟨_, rfl, _, _, rfl, rfl, ⟨h5.1, by omega, by omega⟩, _, _, rfl, rfl, h6, .inl ⟨_, rfl, _, _, rfl, rfl, ⟨by omega, by omega⟩, _, rfl, _, _, rfl, rfl, m0, ?_⟩⟩
      exact kQ _ _ _ _ i0 d0 f0 f1 (Int.emod_nonneg _ (by omega)) (Int.emod_lt_of_pos _ m0)
  have fz : tIntOf = tIntOf := rfl
  refine ⟨_, rfl, p, _, rfl, DGet.k (k := .inr "count") hp, k, 1, rfl, rfl, _, rfl, p, _, rfl, DPut.k (k := .inr "count") hp lt5, ?_⟩
  show (tSeq _ _) _ _ (upd H p (.dK (penA a i d (k + 1) f)))
  have ha' : ∀ o, upd H p o a = some (.lst (ns.map V.int)) := fun o => by rw [upd_ne ap]; exact ha
  refine ⟨_, rfl, p, _, rfl, DGet.k (k := .inr "digits") upd_same, rfl, _, rfl, ?_⟩
  dsimp only
  by_cases hd : V.int d = V.int 0
  · rw [decide_eq_true hd, if_pos rfl]
    have hd : d = 0 := by cases hd; rfl
    refine ⟨_, rfl, p, _, rfl, DGet.k (k := .inr "at") upd_same, _, rfl, p, _, rfl, DGet.k (k := .inr "cells") upd_same, a, _, rfl, .inl (SqL.of (ha' _)), i, _, rfl, rfl, _, rfl, ?_⟩
    dsimp only
    by_cases hi : i < (ns.map V.int).length
    · rw [decide_eq_true hi, if_pos rfl]
      have hi' : i.toNat < ns.length := by rw [List.length_map] at hi; omega
      have hg : L2.atI (ns.map V.int) i = some (.int ns[i.toNat]) := by
        unfold L2.atI
        rw [show ixN (ns.map V.int).length i = some i.toNat from by unfold ixN; rw [List.length_map] at hi ⊢; simp [i0, hi]]
        simp [hi']
      refine ⟨_, rfl, p, _, rfl, DGet.k (k := .inr "cells") upd_same, _, rfl, p, _, rfl, DGet.k (k := .inr "at") upd_same, .inl ⟨a, _, i, _, rfl, rfl, SqL.of (ha' _), hg, ?_⟩⟩
      refine ⟨_, rfl, p, _, rfl, DGet.k (k := .inr "at") upd_same, i, 1, rfl, rfl, _, rfl, p, _, rfl, DPut.k (k := .inr "at") upd_same lt5, ?_⟩
      rw [upd_twice]
      refine ⟨_, rfl, 10, 18, rfl, rfl, ⟨by decide, by decide, by decide⟩, _, _, rfl, rfl, _, rfl, ?_⟩
      dsimp only
      by_cases hc : (10 : Int) ^ (18 : Int).toNat ≤ ns[i.toNat]
      · rw [decide_eq_true hc, if_pos rfl]
        refine ⟨_, rfl, 10, 18, rfl, rfl, ⟨by decide, by decide, by decide⟩, _, _, rfl, rfl, _, rfl, p, _, rfl, DPut.k (k := .inr "digits") upd_same lt5, ?_⟩
        rw [upd_twice]
        exact rest _ _ _ _ (by omega) (by omega) f0 f1
      · rw [decide_eq_false hc, if_neg (by decide)]
        refine ⟨_, rfl, p, _, rfl, DGet.k (k := .inr "fold") upd_same, f, c1, rfl, rfl, .inl ⟨by omega, by omega⟩, _, rfl, _, _, rfl, rfl, .inl ⟨_, rfl, _, c2, rfl, rfl, h2.1, _, rfl, p, _, rfl, DPut.k (k := .inr "fold") upd_same lt5, ?_⟩⟩
        rw [upd_twice]
        have := Int.emod_lt_of_pos (f * c1 + ns[i.toNat]) h2.1
        exact rest _ _ _ _ (by omega) d0 (Int.emod_nonneg _ (by omega)) (by omega)
    · rw [decide_eq_false hi, if_neg (by decide)]
      exact rest _ _ _ _ i0 d0 f0 f1
  · rw [decide_eq_false hd, if_neg (by decide)]
    exact rest _ _ _ _ i0 d0 f0 f1
end VL
namespace VL
open PySem PySem.Spec PyProof.Rows L2

/-! ### the top of a law's program -/
theorem RoomG.u64 {k : Nat} {A : Around} (r : RoomG k A) : A.units + 64 < cLine := r.room.units
theorem RoomG.u65 {k : Nat} {A : Around} (r : RoomG k A) : A.units + 65 < cLine := by have := r.room.un; omega
theorem RoomG.u66 {k : Nat} {A : Around} (r : RoomG k A) : A.units + 66 < cLine := by have := r.room.un; omega
def cmOf (l : List ((Str × Str) × Bool)) : CMt := fun y x => l.lookup (y, x)
theorem lookup_mem {α β : Type} [BEq α] [LawfulBEq α] {k : α} {b : β} : ∀ {l : List (α × β)}, l.lookup k = some b → (k, b) ∈ l
  | [], h => by cases h
  | (x, y) :: r, h => by
    rw [List.lookup_cons] at h
    split at h
    · rename_i e
      have e' : k = x := by simpa using e
      cases h; rw [e']; exact .head _
    · exact .tail _ (lookup_mem h)
section
variable (K : Fg) (mg : Str → Option Value)
def DefAt (x : Str) (st : Stmt) : Prop := ∃ (f : Addr) (fd : FuncData), Fun K x x st f fd ∧ mg x = some (.ref f)
structure ErrIn (x f : Str) (g : Option Str) (st : Stmt) (q : Str) (C fI : Addr) (fd : FuncData) : Prop where
  gC : mg x = some (.ref C)
  ox : OexC K C
  xf : XfC K C
  iC : PySem.W.findIn K (.ref C) "__init__" = some (some (.ref fI))
  tI : PySem.W.typeIn K (.ref fI) = some (.type "function")
  nf : PySem.W.findIn K (.ref C) f = some none
  ng : ∀ y, g = some y → PySem.W.findIn K (.ref C) y = some none
  fn : Fun K "__init__" q st fI fd
def ErrAt (x f : Str) (g : Option Str) (st : Stmt) (q : Str) : Prop := ∃ (C fI : Addr) (fd : FuncData), ErrIn K mg x f g st q C fI fd
/-- a class of errors as a clause and its suite see it -/
def SeeAt (x : Str) (fs : List Str) : Prop := ∃ C : Addr, mg x = some (.ref C) ∧ XfC K C ∧ ∀ f ∈ fs, PySem.W.findIn K (.ref C) f = some none
def CmAt (l : List ((Str × Str) × Bool)) : Prop := ∀ y x b, cmOf l y x = some b → ∃ D C : Addr, mg y = some (.ref D) ∧ mg x = some (.ref C) ∧ PySem.W.exmOne K (.ref D) (.ref C) = some b
end
section
variable {P : Program} {w : World} {K : Fg} {mg : Str → Option Value} {base : Heap} {h : Heap}
theorem defAt_of {x : Str} {st : Stmt} (X : K.In h) (G : h.Ns mainGlobals mg) {f : Addr} {oc : Value} {od an : Option Addr} {osl : Array (Option Value)} {kV doc pm cdv ct : Value} (a : PySem.W.nsIn K mainGlobals x = some (some (.ref f)))
    (l : K.lookup f = some ⟨oc, od, .func (PySem.W.fnOf x x (defArgs st) (defBody st) (defScope st) .none kV doc pm an cdv ct), osl⟩) (c : PySem.W.codeIn K cdv x = true) (k : PySem.W.keepIn K (.ref f) = true) : DefAt K mg x st :=
  ⟨f, _, fun_mk l c k, PySem.W.mg_of X G a⟩
theorem cm_nil : CmAt K mg [] := fun y x b e => by cases e
theorem cm_cons {y x : Str} {b : Bool} {l : List ((Str × Str) × Bool)} {D C : Addr} (h1 : mg y = some (.ref D)) (h2 : mg x = some (.ref C)) (h3 : PySem.W.exmOne K (.ref D) (.ref C) = some b) (r : CmAt K mg l) : CmAt K mg (((y, x), b) :: l) := fun y' x' b' e => by
  unfold cmOf at e
  rw [List.lookup_cons] at e
  split at e
  · rename_i q
    have q' : (y', x') = (y, x) := by simpa using q
    cases q'; cases e
    exact ⟨D, C, h1, h2, h3⟩
  · exact r _ _ _ e
theorem CmAt.run {l : List ((Str × Str) × Bool)} (h : CmAt K mg l) {x : Str} {C : Addr} (hx : mg x = some (.ref C)) : ∀ y D b, cmOf l y x = some b → mg y = some (.ref D) → PySem.W.exmOne K (.ref D) (.ref C) = some b := fun y D b e hy => by
  obtain ⟨D', C', h1, h2, h3⟩ := h y x b e
  rw [hy] at h1; rw [hx] at h2
  cases h1; cases h2
  exact h3
theorem call_of {x : Str} {st : Stmt} {N ps : List Str} {k : Nat} {ws : (Exc → Ga → Prop) → WS} (D : DefAt K mg x st) (S : FnScope N ps (defScope st))
    (hb : ∀ (kV doc pm : Value) (an : Option Addr) (cdv ct : Value) (us : List Value), us.length = ps.length → bindArgs (PySem.W.fnOf x x (defArgs st) (defBody st) (defScope st) .none kV doc pm an cdv ct) ⟨us, []⟩ = pure (ps.zip us))
    (hbody : ∀ (f : Addr) (cdv : Value) (A : Around) (outer : List Env) (s : Shared) (H : Hp) (E : XK) (G : Gh) (Ex : Exc → Ga → Prop), RoomG k (A.deeper (envOfC x (defScope st) s.heap.objs.size f cdv)) →
      Takes (cxOf (L2.CX P w) P w K mg base N x (defScope st) f cdv A outer s H E) (WEx K mg G Ex) → ASs (cxOf (L2.CX P w) P w K mg base N x (defScope st) f cdv A outer s H E) (G.wb G.Z0) (defBody st) (ws Ex)) : CallOk P w K mg base (k + 1) x ps (wDef N.length ps.length ws) := by
  obtain ⟨f, fd, F, hm⟩ := D
  exact ⟨f, fd, fv_of F S (hbody f), F.kp, F.binds hb, hm⟩
theorem err_of {x f : Str} {g : Option Str} {st : Stmt} {q : Str} {ps : List Str} (D : ErrAt K mg x f g st q)
    (hb : ∀ (kV doc pm : Value) (an : Option Addr) (cdv ct : Value) (us : List Value), us.length = ps.length → bindArgs (PySem.W.fnOf "__init__" q (defArgs st) (defBody st) (defScope st) .none kV doc pm an cdv ct) ⟨us, []⟩ = pure (ps.zip us))
    (ok : ∀ (C fI : Addr) (fd : FuncData), Fun K "__init__" q st fI fd → OexC K C → PySem.W.findIn K (.ref C) f = some none → (∀ y, g = some y → PySem.W.findIn K (.ref C) y = some none) → ∀ (P : Program) (w : World) (base : Heap), FnOk P w K mg base (L2.CX P w) 1 fI fd ps (spI C K f g)) : ErrOk K mg x f g := by
  obtain ⟨C, fI, fd, e⟩ := D
  exact ⟨C, fI, fd, ps, ⟨e.gC, e.ox, e.iC, e.tI, e.nf, e.ng, e.fn.binds hb, fun P w base => by
    have z := ok C fI fd e.fn e.ox e.nf e.ng P w base
    cases g <;> exact z⟩, e.xf⟩
theorem init1_of {f : Str} {st : Stmt} {q n0 n1 : Str} {C fI : Addr} {fd : FuncData} (F : Fun K "__init__" q st fI fd) (S : FnScope [n0, n1] [n0, n1] (defScope st)) (ox : OexC K C) (nf : PySem.W.findIn K (.ref C) f = some none)
    (hbody : ∀ (P : Program) (w : World) (base : Heap) (cdv : Value) (A : Around) (outer : List Env) (s : Shared) (H : Hp) (E : XK), PSs (cxOf (L2.CX P w) P w K mg base [n0, n1] q (defScope st) fI cdv A outer s H E) (defBody st) (tOst K f (tVar 0) (tVar 1))) (P : Program) (w : World) (base : Heap) :
    FnOk P w K mg base (L2.CX P w) 1 fI fd [n0, n1] (spI C K f none) := F.okX S spI_len1 fun cdv A outer s H vs Q E hr h => ⟨_, hbody P w base cdv A outer s H E, init1_rd ox nf vs H Q E h⟩
theorem init2_of {f y : Str} {st : Stmt} {q n0 n1 n2 : Str} {C fI : Addr} {fd : FuncData} (F : Fun K "__init__" q st fI fd) (S : FnScope [n0, n1, n2] [n0, n1, n2] (defScope st)) (ox : OexC K C) (nf : PySem.W.findIn K (.ref C) f = some none) (ny : PySem.W.findIn K (.ref C) y = some none)
    (hbody : ∀ (P : Program) (w : World) (base : Heap) (cdv : Value) (A : Around) (outer : List Env) (s : Shared) (H : Hp) (E : XK), PSs (cxOf (L2.CX P w) P w K mg base [n0, n1, n2] q (defScope st) fI cdv A outer s H E) (defBody st) (tSeq (tOst K f (tVar 0) (tVar 1)) (tOst K y (tVar 0) (tVar 2)))) (P : Program) (w : World) (base : Heap) :
    FnOk P w K mg base (L2.CX P w) 1 fI fd [n0, n1, n2] (spI C K f (some y)) := F.okX S spI_len2 fun cdv A outer s H vs Q E hr h => ⟨_, hbody P w base cdv A outer s H E, init2_rd ox nf ny vs H Q E h⟩
/-- what the facts of the written part say of a class of errors -/
theorem errAt_of {x f : Str} {g : Option Str} {st : Stmt} {q : Str} (X : K.In h) (G : h.Ns mainGlobals mg) {C fI : Addr} {nm qn : Str} {N : Addr} {bs bm : List Value} {sn : List Str} {sub : List Value} {ab : Bool} {col : Option Bool} {dd : Option Addr} {m0 m1 m2 m3 m5 : Option Value}
    {oc : Value} {od an : Option Addr} {osl : Array (Option Value)} {kV doc pm cdv ct : Value} (a : PySem.W.nsIn K mainGlobals x = some (some (.ref C)))
    (xL : K.lookup C = some (excClassObj nm qn C N bs bm true sn sub ab col dd m0 m1 m2 m3 m5 "ValueError.__new__")) (xr : PySem.HandSPX.refsVE bm = true)
    (sa : PySem.W.findIn K (.ref C) "__setattr__" = some (some (.builtin "object.__setattr__"))) (eC : PySem.W.subIn K (.ref C) (.type "BaseException") = some true) (tC : PySem.W.typeIn K (.ref C) = some (.type "type")) (kC : PySem.W.keepIn K (.ref C) = true)
    (xf : XfC K C) (iC : PySem.W.findIn K (.ref C) "__init__" = some (some (.ref fI))) (tI : PySem.W.typeIn K (.ref fI) = some (.type "function")) (nf : PySem.W.findIn K (.ref C) f = some none) (ng : ∀ y, g = some y → PySem.W.findIn K (.ref C) y = some none)
    (l : K.lookup fI = some ⟨oc, od, .func (PySem.W.fnOf "__init__" q (defArgs st) (defBody st) (defScope st) .none kV doc pm an cdv ct), osl⟩) (c : PySem.W.codeIn K cdv q = true) (k : PySem.W.keepIn K (.ref fI) = true) : ErrAt K mg x f g st q :=
  ⟨C, fI, _, PySem.W.mg_of X G a, ⟨⟨nm, qn, N, bs, bm, sn, sub, ab, col, dd, m0, m1, m2, m3, m5, xL, xr⟩, sa, eC, tC, kC⟩, xf, iC, tI, nf, ng, fun_mk l c k⟩
theorem exm_of {S T : Addr} {b : Bool} (sb : PySem.W.subIn K (.ref T) (.type "BaseException") = some true) (ic : PySem.W.isClsIn K T = true) (ty : PySem.W.typeIn K (.ref T) = some (.type "type")) (st : PySem.W.subIn K (.ref S) (.ref T) = some b) : PySem.W.exmOne K (.ref S) (.ref T) = some b := by
  have ic' : (PySem.W.clsIn K T).isSome = true := ic
  have q1 : (PySem.W.subIn K (.ref T) (.type "BaseException") == some true) = true := by rw [sb]; rfl
  have q2 : ((PySem.W.clsIn K T).isSome && PySem.W.typeIn K (.ref T) == some (.type "type")) = true := by rw [ic', ty]; rfl
  have e : PySem.W.exmOne K (.ref S) (.ref T) = if (PySem.W.subIn K (.ref T) (.type "BaseException") == some true) = true then (if ((PySem.W.clsIn K T).isSome && PySem.W.typeIn K (.ref T) == some (.type "type")) = true then PySem.W.subIn K (.ref S) (.ref T) else none) else none := rfl
  rw [e, if_pos q1, if_pos q2, st]
end
end VL
namespace VL
open PySem PySem.Spec PyProof.Rows L2
/-! ### more rules -/
section
variable {X : Cx} {G : Gh} {a b c : Expr} {pos p p2 q : Pos}
theorem rg_drs {K : Fg} {Z : Hp} {i j : Int} : DRs K Z (rgV i j) (rangeD i (j - i).toNat) := by
  unfold rgV rangeD
  generalize List.range (j - i).toNat = l
  induction l with
  | nil => exact .nil
  | cons x r ih => exact .cons (.int _) ih
def wListRg1 (wa : WE D) : WE Rz := fun Γ P => wa Γ fun d Γ1 => match d with
  | .int n => RgOk 0 n ∧ P (.ls (rangeD 0 n.toNat)) Γ1
  | _ => False
def wListRg2 (wa wb : WE D) : WE Rz := fun Γ P => wa Γ fun d Γ1 => wb Γ1 fun e Γ2 => match d, e with
  | .int m, .int n => RgOk m n ∧ P (.ls (rangeD m (n - m).toNat)) Γ2
  | _, _ => False
theorem az_listRg1 {wa : WE D} (ml : X.mg "list" = none) (mr : X.mg "range" = none) (ha : AB X G a wa) (hc : X.calm = true := by rfl) (gl : Gl X "list" := by rfl) (gr : Gl X "range" := by rfl) (na : starEach [a] X.env = (false, eval a X.env) :: starEach [] X.env := by rfl)
    (na2 : starEach [.Call (.Name "range" p2) [a] [] q] X.env = (false, eval (.Call (.Name "range" p2) [a] [] q) X.env) :: starEach [] X.env := by rfl) : AZ X G (.Call (.Name "list" p) [.Call (.Name "range" p2) [a] [] q] [] pos) (wListRg1 wa) :=
  PEi (pe_listRg hc gl ml (prg_1 gr mr ha na) na2) fun σ H Q ⟨Γ, Z, O, P, R, w, k⟩ => ⟨Γ, Z, O, _, R, w, fun d Γ1 x Z1 O1 H1 p1 R1 S1 b1 => by
    split at p1
    · rename_i n
      obtain rfl := b1.intI
      obtain ⟨ok, p1⟩ := p1
      refine ⟨_, rfl, ok, fun a ha => ?_⟩
      have g := Grow.new' (o := .lst (rgV 0 n)) R1.sub ha
      refine k _ _ _ _ _ _ p1 (R1.grow g) (S1.trans g.step) ?_
      have := rg_drs (K := X.K) (Z := Z1) (i := 0) (j := n)
      simp only [Int.sub_zero] at this
      exact (show RzN X.K H1 Z1 _ (.ls _) _ from ⟨a, _, rfl, ha, R1.sub.free ha, upd_same, this⟩).up R1 S1.hN
    · exact p1.elim⟩
end
end VL
namespace VL
open PySem PySem.Spec PyProof.Rows L2
/-! ### plain Lean: what may be shown, loops -/
mutual
def rOk : D → Bool
  | .none => true
  | .bool _ => true
  | .int i => decide (i.natAbs < 18446744073709551616)
  | .str x => x.cps.toList.all fun c => decide (c < 16 ^ 8)
  | .list xs => rOks xs
  | .tuple xs => rOks xs
  | .dict _ => false
def rOks : List D → Bool
  | [] => true
  | x :: xs => rOk x && rOks xs
end
mutual
def rSz : D → Nat
  | .none => 5
  | .bool _ => 5
  | .int _ => 70
  | .str x => 10 * x.length + 2
  | .list xs => rSzs xs + 3
  | .tuple xs => rSzs xs + 3
  | .dict _ => 0
def rSzs : List D → Nat
  | [] => 0
  | x :: xs => rSz x + 2 + rSzs xs
end
theorem shown_int {i : Int} (h : i.natAbs < 18446744073709551616) : (PyData.shown (.int i)).length ≤ 70 ∧ i.natAbs.log2 < 1920 := by
  have hl : i.natAbs.log2 < 64 := by
    by_cases h0 : i.natAbs = 0
    · rw [h0]; decide
    · exact (Nat.log2_lt h0).mpr (by simpa using h)
  have e := int_text_length_le (a := i) (k := 64) (by decide) hl
  have e2 : (PyData.shown (.int i)).length = (toString i).length := PySem.ofString_length _
  omega
mutual
theorem rep_all : ∀ d : D, rOk d = true → nodict d = true ∧ d.showable = true ∧ d.hasDict = false ∧ d.shown.length ≤ rSz d
  | .none, _ => ⟨rfl, rfl, rfl, by decide⟩
  | .bool b, _ => ⟨rfl, rfl, rfl, by cases b <;> decide⟩
  | .int i, h => by
    have h' : i.natAbs < 18446744073709551616 := by simpa [rOk] using h
    obtain ⟨h1, h2⟩ := shown_int h'
    exact ⟨rfl, by simp [PyData.showable, h2], rfl, h1⟩
  | .str x, h => by
    have hx : ∀ c ∈ x.cps.toList, c < 16 ^ 8 := by simpa only [rOk, List.all_eq_true, decide_eq_true_eq] using h
    have e := StrLaws.reprText_len x hx
    refine ⟨rfl, rfl, rfl, ?_⟩
    show (reprText x).length ≤ 10 * x.length + 2
    have e2 : x.length = x.cps.size := rfl
    omega
  | .list xs, h => by
    obtain ⟨h1, h2, h3, h4⟩ := reps_all xs (by simpa [rOk] using h)
    have h5 := listText_len_le (PyData.shownAll xs)
    have h6 := PyData.shownAll_length xs
    refine ⟨by simpa [nodict] using h1, by simpa [PyData.showable] using h2, by simpa [PyData.hasDict] using h3, ?_⟩
    simp only [PyData.shown, rSz]
    omega
  | .tuple xs, h => by
    obtain ⟨h1, h2, h3, h4⟩ := reps_all xs (by simpa [rOk] using h)
    have h5 := tupleText_len_le (PyData.shownAll xs)
    have h6 := PyData.shownAll_length xs
    refine ⟨by simpa [nodict] using h1, by simpa [PyData.showable] using h2, by simpa [PyData.hasDict] using h3, ?_⟩
    simp only [PyData.shown, rSz]
    omega
  | .dict _, h => by simp [rOk] at h
theorem reps_all : ∀ ds : List D, rOks ds = true → nodicts ds = true ∧ PyData.showableAll ds = true ∧ PyData.hasDictAll ds = false ∧ ((PyData.shownAll ds).map (·.length)).sum + 2 * ds.length ≤ rSzs ds
  | [], _ => ⟨rfl, rfl, rfl, by simp [PyData.shownAll, rSzs]⟩
  | x :: xs, h => by
    have h' : rOk x = true ∧ rOks xs = true := by simpa [rOks] using h
    obtain ⟨h1, h2, h3, h4⟩ := rep_all x h'.1
    obtain ⟨g1, g2, g3, g4⟩ := reps_all xs h'.2
    refine ⟨by simp [nodicts, h1, g1], by simp [PyData.showableAll, h2, g2], by simp [PyData.hasDictAll, h3, g3], ?_⟩
    simp only [PyData.shownAll, List.map_cons, List.sum_cons, List.length_cons, rSzs]
    omega
end
theorem sRepr_ok {d : D} {P : Rz → Prop} (h : rOk d = true) (hd : d.depth ≤ 64) (hs : rSz d ≤ 16777216) (p : P (.v (.dat (.str d.shown)))) : sRepr [d] P := by
  obtain ⟨h1, h2, h3, h4⟩ := rep_all d h
  exact ⟨h1, h2, h3, hd, Nat.le_trans h4 hs, p⟩
theorem eqv_str (x : Str) : PyData.eqv (.str x) (.str x) = true := by simp [PyData.eqv]
/-- repr(a) != repr(b), for equal a, b: false -/
theorem sNe_str {x y : Str} {P : Rz → Prop} (e : x = y) (p : P (.v (.dat (.bool false)))) : sNe (.str x) (.str y) P := by
  subst e
  refine ⟨trivial, ?_⟩
  rw [eqv_str]; exact p
theorem eqv_int (i j : Int) : PyData.eqv (.int i) (.int j) = decide (i = j) := by
  by_cases h : i = j <;> simp [PyData.eqv, h]
theorem sEq_int {i j : Int} {P : Rz → Prop} (p : P (.v (.dat (.bool (decide (i = j)))))) : sEq (.int i) (.int j) P := by
  refine ⟨trivial, ?_⟩
  rw [eqv_int]; exact p
theorem sNe_int {i j : Int} {P : Rz → Prop} (p : P (.v (.dat (.bool (!decide (i = j)))))) : sNe (.int i) (.int j) P := by
  refine ⟨trivial, ?_⟩
  rw [eqv_int]; exact p
theorem sMul_int {i j : Int} {P : Rz → Prop} (h : CMul i j) (p : P (.v (.dat (.int (i * j))))) : sMul (.int i) (.int j) P := ⟨h, p⟩
/-- a loop, by an invariant that each turn keeps -/
theorem forW_inv {g : WG} {wb : WS} {E : En} (I : Ga → Prop) : ∀ {items : List D} {Γ : Ga}, (∀ d ∈ items, ∀ Γ, I Γ → ∀ N : Ga → Prop, (∀ Γ', I Γ' → N Γ') → g d Γ fun Γ' => wb { E with nx := N, ct := N, bk := E.nx } Γ') → I Γ → (∀ Γ, I Γ → E.nx Γ) → forW g wb E items Γ
  | [], Γ, _, hI, he => he Γ hI
  | d :: r, Γ, h, hI, he => h d (.head _) Γ hI _ fun Γ' hI' => forW_inv I (fun d hd => h d (.tail _ hd)) hI' he
/-- .. by the number of turns done -/
theorem forW_ix {g : WG} {wb : WS} {E : En} (I : Nat → Ga → Prop) : ∀ {items : List D} (i : Nat) {Γ : Ga}, (∀ j d, items[j]? = some d → ∀ Γ, I (i + j) Γ → ∀ N : Ga → Prop, (∀ Γ', I (i + j + 1) Γ' → N Γ') → g d Γ fun Γ' => wb { E with nx := N, ct := N, bk := E.nx } Γ') → I i Γ → (∀ Γ, I (i + items.length) Γ → E.nx Γ) → forW g wb E items Γ
  | [], i, Γ, _, hI, he => he Γ hI
  | d :: r, i, Γ, h, hI, he => h 0 d rfl Γ hI _ fun Γ' hI' => forW_ix I (i + 1) (fun j d hd Γ hI N k => h (j + 1) d hd Γ (by rw [show i + (j + 1) = i + 1 + j by omega]; exact hI) N fun Γ' q => k Γ' (by rw [show i + 1 + j + 1 = i + (j + 1) + 1 by omega]; exact q)) hI' fun Γ q => he Γ (by rw [List.length_cons, show i + (r.length + 1) = i + 1 + r.length by omega]; exact q)
/-- a comprehension: what each element is -/
theorem compW_inv {vs : List Nat} {g : WG} {t : WE Bool} {w : WE Rv} (I : Nat → Ga → Prop) (B : D → Prop) : ∀ {items : List D} (i : Nat) {acc : List D} {Γ : Ga} {P : List D → Ga → Prop},
    (∀ j d, items[j]? = some d → ∀ Γ, I (i + j) Γ → ∀ (P1 : D → Ga → Prop) (P0 : Ga → Prop), (∀ e Γ', B e → I (i + j + 1) (wipeG Γ' vs) → P1 e Γ') → (∀ Γ', I (i + j + 1) (wipeG Γ' vs) → P0 Γ') → g d Γ fun Γ1 => t Γ1 fun k Γ2 => if k = true then w Γ2 fun rv Γ3 => (match rv with | .dat e => P1 e Γ3 | .pen => False) else P0 Γ2) →
    I i Γ → (∀ e ∈ acc, B e) → (∀ acc Γ, (∀ e ∈ acc, B e) → I (i + items.length) Γ → P acc Γ) → compW vs g t w items acc Γ P
  | [], i, acc, Γ, P, h, hI, ha, k => k acc Γ ha hI
  | d :: r, i, acc, Γ, P, h, hI, ha, k => by
    have rec_ : ∀ acc Γ, (∀ e ∈ acc, B e) → I (i + 1) Γ → compW vs g t w r acc Γ P := fun acc Γ ha hI => compW_inv I B (i + 1) (fun j d hd Γ hI P1 P0 k1 k0 => h (j + 1) d hd Γ (by rw [show i + (j + 1) = i + 1 + j by omega]; exact hI) P1 P0
      (fun e Γ' b q => k1 e Γ' b (by rw [show i + 1 + j + 1 = i + (j + 1) + 1 by omega]; exact q)) fun Γ' q => k0 Γ' (by rw [show i + 1 + j + 1 = i + (j + 1) + 1 by omega]; exact q)) hI ha fun acc Γ ha q => k acc Γ ha (by rw [List.length_cons, show i + (r.length + 1) = i + 1 + r.length by omega]; exact q)
    refine h 0 d rfl Γ hI (fun e Γ3 => compW vs g t w r (acc ++ [e]) (wipeG Γ3 vs) P) (fun Γ2 => compW vs g t w r acc (wipeG Γ2 vs) P) (fun e Γ' b q => rec_ _ _ (fun x hx => ?_) q) fun Γ' q => rec_ _ _ ha q
    rcases List.mem_append.mp hx with z | z
    · exact ha x z
    · rw [List.mem_singleton.mp z]; exact b
theorem wXf_ok {a dd : Addr} {i : Nat} {f : Str} {fs : List (Str × D)} {v : D} {Γ : Ga} {P : Rv → Ga → Prop} (h : Γ.at i = .exc a dd fs) (hl : fs.lookup f = some v) (p : P (.dat v) Γ) : wXf a (some dd) i f Γ P := by
  unfold wXf
  rw [h]
  exact ⟨rfl, rfl, v, hl, p⟩
theorem lk_1 {f : Str} {y : D} {r : List (Str × D)} : List.lookup f ((f, y) :: r) = some y := by
  rw [List.lookup_cons]; simp
theorem lk_2 {f g : Str} {x y : D} {r : List (Str × D)} (h : (g == f) = false) : List.lookup g ((f, y) :: (g, x) :: r) = some x := by
  rw [List.lookup_cons, h]; exact lk_1
/-- an error of two fields in a suite that gives a list of both: [t, first, second] -/
theorem suite_two {a dd : Addr} {i : Nat} {f g t : Str} {x y : D} {E : En} {Γ : Ga} (h : Γ.at i = .exc a dd [(g, y), (f, x)]) (ne : (f == g) = false) (p : E.rt (.dat (.list [.str t, x, y])) Γ) :
    wRet (wFrz (wLst (wCons (wC (.dat (.str t))) (wCons (wXf a (some dd) i f) (wCons (wXf a (some dd) i g) wNil))))) E Γ := by
  simp only [wRet, wFrz, wLst, wCons, wC, wNil]
  exact wXf_ok h (lk_2 ne) (wXf_ok h lk_1 p)
theorem hs_yes {CM : CMt} {Ex : Exc → Ga → Prop} {E : En} {h : VCl} {r : List VCl} {e : Exc} {Γ : Ga} (c : CM e.c h.x = some true) (q : h.i = none ∨ e.c = h.x) (k : ∀ a dd, h.ws a (some dd) (leaveE E h.i) (enterG Γ h.i (.exc a dd e.fs))) : wHs CM Ex E (h :: r) e Γ :=
  ⟨true, c, fun _ => ⟨q, k⟩, fun z => by cases z⟩
theorem hs_no {CM : CMt} {Ex : Exc → Ga → Prop} {E : En} {h : VCl} {r : List VCl} {e : Exc} {Γ : Ga} (c : CM e.c h.x = some false) (k : wHs CM Ex E r e Γ) : wHs CM Ex E (h :: r) e Γ :=
  ⟨false, c, fun z => (by cases z), fun _ => k⟩
/-- except c as e: return [t, e.f, e.g], met by an error of the very class -/
theorem hs_two {CM : CMt} {Ex : Exc → Ga → Prop} {E : En} {r : List VCl} {i : Nat} {c f g t : Str} {x y : D} {Γ : Ga} (cm : CM c c = some true) (ne : (f == g) = false) (hi : i < Γ.s.length) (p : ∀ s, E.rt (.dat (.list [.str t, x, y])) ⟨s, Γ.c⟩) :
    wHs CM Ex E (⟨c, some i, fun a d => wRet (wFrz (wLst (wCons (wC (.dat (.str t))) (wCons (wXf a d i f) (wCons (wXf a d i g) wNil)))))⟩ :: r) ⟨c, [(g, y), (f, x)]⟩ Γ :=
  hs_yes cm (.inr rfl) fun a dd => suite_two (E := leaveE E (some i)) (Γ := Γ.set i (.exc a dd [(g, y), (f, x)])) (Ga.at_same hi) ne (p _)
end VL
namespace VL
open PySem PySem.Spec PyProof.Rows L2
/-! ### slices, max and min of two, sorted -/
section
variable {X : Cx} {G : Gh} {a b c e : Expr} {es : List Expr} {pos p p2 q : Pos}
/-- a part of a slice -/
def AO (X : Cx) (G : Gh) (e : Option Expr) (w : WE (Option Int)) : Prop := PO X e (lift X.K G (fun _ _ _ _ (a b : Option Int) => a = b) w)
def wNoPart : WE (Option Int) := fun Γ P => P none Γ
def wPart (w : WE D) : WE (Option Int) := fun Γ P => w Γ fun d Γ1 => match d with
  | .int i => P (some i) Γ1
  | _ => False
theorem POi {e : Option Expr} {t t' : TO} (h : PO X e t) (i : ∀ σ H Q, t' σ H Q → t σ H Q) : PO X e t' := ⟨fun pins s σ H Q I q => h.run pins s σ H Q I (i σ H Q q)⟩
theorem ao_none : AO X G none wNoPart := POi po_none fun σ H Q ⟨Γ, Z, O, P, R, w, k⟩ => k _ _ _ _ _ _ w R Step.refl rfl
theorem ao_some {w : WE D} (h : AB X G e w) : AO X G (some e) (wPart w) := POi (po_some h) fun σ H Q ⟨Γ, Z, O, P, R, w, k⟩ => ⟨Γ, Z, O, _, R, w, fun d Γ1 x Z1 O1 H1 p1 R1 S1 b1 => by
  split at p1
  · obtain rfl := b1.intI
    exact ⟨_, rfl, k _ _ _ _ _ _ p1 R1 S1 rfl⟩
  · exact p1.elim⟩
def cutD (xs : List D) (lo hi : Option Int) : List D := (xs.drop (HT.sIx xs.length 0 lo)).take (HT.sIx xs.length xs.length hi - HT.sIx xs.length 0 lo)
theorem DRs.cut {K : Fg} {Z : Hp} {vs : List V} {ds : List D} {lo hi : Option Int} (h : DRs K Z vs ds) : DRs K Z (cutV vs lo hi) (cutD ds lo hi) := by
  unfold cutV cutD
  rw [h.length]
  exact (h.drop _).take _
def wSl (wa : WE D) (wl wh : WE (Option Int)) : WE Rz := fun Γ P => wa Γ fun d Γ1 => wl Γ1 fun lo Γ2 => wh Γ2 fun hi Γ3 => match d with
  | .list ds => P (.ls (cutD ds lo hi)) Γ3
  | .tuple ds => ¬ (HT.sIx ds.length 0 lo = 0 ∧ HT.sIx ds.length ds.length hi = ds.length) ∧ P (.v (.dat (.tuple (cutD ds lo hi)))) Γ3
  | _ => False
theorem az_slice {lo hi : Option Expr} {wa : WE D} {wl wh : WE (Option Int)} (ha : AB X G a wa) (hl : AO X G lo wl) (hh : AO X G hi wh) : AZ X G (.Subscript a (.Slice lo hi none p2) pos) (wSl wa wl wh) :=
  PEi (pe_slice (sl_list.or sl_tup) ha hl hh) fun σ H Q ⟨Γ, Z, O, P, R, w, k⟩ => ⟨Γ, Z, O, _, R, w, fun d Γ1 x Z1 O1 H1 p1 R1 S1 b1 => ⟨Γ1, Z1, O1, _, R1, p1, fun lo Γ2 lo' Z2 O2 H2 p2 R2 S2 b2 => ⟨Γ2, Z2, O2, _, R2, p2, fun hi Γ3 hi' Z3 O3 H3 p3 R3 S3 b3 => by
    subst b2 b3
    have b1' := b1.grow (S2.trans S3).zZ (S2.trans S3).hH
    split at p3
    · obtain ⟨a, vs, rfl, h, t⟩ := b1'.listI R3.sub
      refine .inl ⟨a, vs, rfl, SqL.of h, fun q hq => ?_⟩
      have g := Grow.new' (o := .lst (cutV vs lo hi)) R3.sub hq
      exact k _ _ _ _ _ _ p3 (R3.grow g) (((S1.trans S2).trans S3).trans g.step) ((show RzN X.K H3 Z3 _ (.ls _) _ from ⟨q, _, rfl, hq, R3.sub.free hq, upd_same, t.cut⟩).up R3 ((S1.trans S2).trans S3).hN)
    · obtain ⟨a, vs, rfl, h, _, t⟩ := b1'.tupI R3.sub
      obtain ⟨c1, p3⟩ := p3
      refine .inr ⟨a, vs, rfl, h, by rw [t.length]; exact c1, fun q hq => ?_⟩
      have g := Grow.new (o := .tup (cutV vs lo hi)) R3.sub hq
      exact k _ _ _ _ _ _ p3 (R3.grow g) (((S1.trans S2).trans S3).trans g.step) (.tup (SqT.of upd_same) (t.cut.mono g.zz))
    · exact p3.elim⟩⟩⟩
end
section
variable {K : Fg}
def sMax2 : SemN := fun ds P => match ds with
  | [.int i, .int j] => P (.v (.dat (.int (if j > i then j else i))))
  | _ => False
def sMin2 : SemN := fun ds P => match ds with
  | [.int i, .int j] => P (.v (.dat (.int (if j < i then j else i))))
  | _ => False
abbrev rMax2 : List V → Hp → VK → Prop := fun xs H Q => ∃ i j, xs = [.int i, .int j] ∧ Q (.int (if j > i then j else i)) H
abbrev rMin2 : List V → Hp → VK → Prop := fun xs H Q => ∃ i j, xs = [.int i, .int j] ∧ Q (.int (if j < i then j else i)) H
theorem p_max2 : PureN K rMax2 sMax2 := by
  intro PN Z H xs ds P Q Cx b s k
  unfold sMax2 at s
  split at s
  · obtain ⟨v, u, rfl, b1, b2⟩ := b.two
    obtain rfl := b1.intI
    obtain rfl := b2.intI
    exact ⟨_, _, rfl, keepS Cx k s (.int _)⟩
  · exact s.elim
theorem p_min2 : PureN K rMin2 sMin2 := by
  intro PN Z H xs ds P Q Cx b s k
  unfold sMin2 at s
  split at s
  · obtain ⟨v, u, rfl, b1, b2⟩ := b.two
    obtain rfl := b1.intI
    obtain rfl := b2.intI
    exact ⟨_, _, rfl, keepS Cx k s (.int _)⟩
  · exact s.elim
/-- sorted(xs), xs a list of ints -/
def sSortI : SemN := fun ds P => match ds with
  | [.list xs] => ∃ ns : List Int, xs = ns.map PyData.int ∧ ∀ ns' : List Int, ns'.Perm ns → ns'.Pairwise (· ≤ ·) → P (.ls (ns'.map PyData.int))
  | _ => False
theorem p_sortI : PureN K (rSortedI K) sSortI := by
  intro PN Z H xs ds P Q Cx b s k
  unfold sSortI at s
  split at s
  · obtain ⟨ns, rfl, s⟩ := s
    obtain ⟨v, rfl, bb⟩ := b.one
    obtain ⟨a, vs, rfl, h, t⟩ := bb.listI Cx.sub
    obtain rfl := t.intsI
    exact ⟨a, ns, rfl, SqL.of h, fun ns' p h1 h2 hp => newL Cx k (s ns' h1 h2) (DRs.ints ns') p hp⟩
  · exact s.elim
end
section
variable {P : Program} {w : World} {K : Fg} {mg : Str → Option Value} {base : Heap}
/-- no promise at all (a def that calls itself, with no fuel left) -/
theorem call_false {x : Str} {st : Stmt} {ps : List Str} {k : Nat} (D : DefAt K mg x st)
    (hb : ∀ (kV doc pm : Value) (an : Option Addr) (cdv ct : Value) (us : List Value), us.length = ps.length → bindArgs (PySem.W.fnOf x x (defArgs st) (defBody st) (defScope st) .none kV doc pm an cdv ct) ⟨us, []⟩ = pure (ps.zip us)) : CallOk P w K mg base k x ps (fun _ _ _ _ => False) := by
  obtain ⟨f, fd, F, hm⟩ := D
  exact ⟨f, fd, ⟨fun _ _ _ _ h => h.elim, fun _ _ _ _ _ _ _ _ _ _ _ _ _ ⟨_, _, _, _, _, _, _, _, _, h, _⟩ => h.elim⟩, F.kp, F.binds hb, hm⟩
end
end VL
namespace VL
open PySem PySem.Spec PyProof.Rows L2
/-! ### loops and comprehensions as functions -/
/-- a comprehension by what each item gives: h d = none: left out -/
theorem compW_fm {vs : List Nat} {g : WG} {t : WE Bool} {w : WE Rv} (h : D → Option D) {Γ0 : Ga} : ∀ {items acc : List D} {P : List D → Ga → Prop},
    (∀ d ∈ items, ∀ (P1 : D → Ga → Prop) (P0 : Ga → Prop), (∀ e, h d = some e → ∀ Γ', wipeG Γ' vs = Γ0 → P1 e Γ') → (h d = none → ∀ Γ', wipeG Γ' vs = Γ0 → P0 Γ') → g d Γ0 fun Γ1 => t Γ1 fun k Γ2 => if k = true then w Γ2 fun rv Γ3 => (match rv with | .dat e => P1 e Γ3 | .pen => False) else P0 Γ2) →
    P (acc ++ items.filterMap h) Γ0 → compW vs g t w items acc Γ0 P
  | [], acc, P, _, p => by simpa [compW] using p
  | d :: r, acc, P, k, p => by
    have rec_ : ∀ acc1, P (acc1 ++ r.filterMap h) Γ0 → compW vs g t w r acc1 Γ0 P := fun acc1 q => compW_fm h (fun d hd => k d (.tail _ hd)) q
    refine k d (.head _) (fun e Γ3 => compW vs g t w r (acc ++ [e]) (wipeG Γ3 vs) P) (fun Γ2 => compW vs g t w r acc (wipeG Γ2 vs) P) (fun e he Γ' q => ?_) fun he Γ' q => ?_
    · rw [q]
      refine rec_ _ ?_
      rw [List.filterMap_cons_some he] at p
      simpa using p
    · rw [q]
      refine rec_ _ ?_
      rw [List.filterMap_cons_none he] at p
      exact p
theorem rangeD_succ (lo : Int) (n : Nat) : rangeD lo (n + 1) = .int lo :: rangeD (lo + 1) n := by
  unfold rangeD
  rw [List.range_succ_eq_map, List.map_cons, List.map_map]
  congr 1
  · simp
  · apply List.map_congr_left
    intro i _
    simp only [Function.comp]
    congr 1
    omega
theorem rangeD_zero (lo : Int) : rangeD lo 0 = [] := rfl
def inL (d : D) (xs : List D) : Bool := xs.any fun z => PyData.eqv z d
/-- a loop as a fold; S j a Γ: behind j turns, with the value a, the state is Γ -/
theorem forW_fold {α : Type} {g : WG} {wb : WS} {E : En} (S : Nat → α → Ga → Prop) (step : α → D → α) : ∀ {items : List D} (i : Nat) (a : α) {Γ : Ga}, S i a Γ →
    (∀ d ∈ items, ∀ j a Γ, j < i + items.length → S j a Γ → ∀ N : Ga → Prop, (∀ Γ', S (j + 1) (step a d) Γ' → N Γ') → g d Γ fun Γ' => wb { E with nx := N, ct := N, bk := E.nx } Γ') → (∀ Γ', S (i + items.length) (items.foldl step a) Γ' → E.nx Γ') → forW g wb E items Γ
  | [], i, a, Γ, hS, _, k => k Γ hS
  | d :: r, i, a, Γ, hS, h, k => h d (.head _) i a Γ (by rw [List.length_cons]; omega) hS _ fun Γ' q => forW_fold S step (i + 1) (step a d) q (fun d hd j a Γ hj => h d (.tail _ hd) j a Γ (by rw [List.length_cons]; omega)) fun Γ' q => k Γ' (by rw [List.length_cons, show i + (r.length + 1) = i + 1 + r.length by omega]; exact q)
def iD : D → Int
  | .int i => i
  | _ => 0
theorem range_get {lo : Int} {n j : Nat} {d : D} (h : (rangeD lo n)[j]? = some d) : j < n ∧ d = .int (lo + (j : Nat)) := by
  have hj : j < n := by
    have := (List.getElem?_eq_some_iff.mp h).1
    rwa [rangeD_length] at this
  rw [rangeD_get hj] at h
  exact ⟨hj, (Option.some.inj h).symm⟩
theorem range_mem {lo : Int} {n : Nat} {d : D} (h : d ∈ rangeD lo n) : ∃ j : Nat, j < n ∧ d = .int (lo + (j : Nat)) := by
  obtain ⟨j, hj⟩ := List.mem_iff_getElem?.mp h
  exact ⟨j, range_get hj⟩
end VL
namespace VL
open PySem PySem.Spec PyProof.Rows L2
/-! ### an owned list is changed: append, pop -/
section
variable {K : Fg} {G : Gh} {Γ : Ga} {Z H : Hp} {O : Ow} {σ : L2.St}
theorem L2R.keepH {H' : Hp} {i : Nat} (k : ∀ b, O b = some i → H' b = H b) : ∀ {vs : List V} {dss : List (List D)}, L2R K Z O H i vs dss → L2R K Z O H' i vs dss
  | _, _, .nil => .nil
  | _, _, .cons h1 h2 h3 h4 h5 => .cons h1 (by rw [k _ h1]; exact h2) h3 h4 (h5.keepH k)
/-- a slot whose own objects are not touched -/
theorem SlR.keepH {H' : Hp} {i : Nat} {x : Sl} {v : Option V} (k : ∀ b, O b = some i → H' b = H b) (h : SlR K G Z O H i x v) : SlR K G Z O H' i x v := by
  cases x with
  | no => trivial
  | rv r => exact h
  | lst ds => obtain ⟨a, vs, e, o, q, r⟩ := h; exact ⟨a, vs, e, o, by rw [k _ o]; exact q, r⟩
  | lst2 dss => obtain ⟨a, vs, e, o, q, n, r⟩ := h; exact ⟨a, vs, e, o, by rw [k _ o]; exact q, n, r.keepH k⟩
  | dk kvs => obtain ⟨a, vs, e, o, q, r⟩ := h; exact ⟨a, vs, e, o, by rw [k _ o]; exact q, r⟩
  | dt kvs => obtain ⟨a, vs, e, o, q, r⟩ := h; exact ⟨a, vs, e, o, by rw [k _ o]; exact q, r⟩
  | exc a dd fs => exact h
/-- the object that slot i owns becomes another one -/
theorem Rel.updOwn (R : Rel K G Γ Z O σ H) {i : Nat} {a : Addr} {o : HO} {x : Sl} (ho : O a = some i) (hx : SlR K G Z O (upd H a o) i x (σ.getD i none)) : Rel K G (Γ.set i x) Z O σ (upd H a o) where
  len := by show (Γ.s.set i x).length = _; rw [List.length_set]; exact R.len
  sub := fun b u e => by
    rw [upd_ne (fun q => by rw [q, (R.own a i ho).1] at e; cases e)]
    exact R.sub _ _ e
  pen := fun p hp => by
    obtain ⟨h1, h2, h3, h4⟩ := R.pen p hp
    refine ⟨h1.mono Sub.refl (fun u e => ?_) (Nat.le_refl _), h2, h3, h4⟩
    rw [upd_ne (fun q => by rw [q, ho] at h3; cases h3)]
    exact e
  own := fun b j h => by
    obtain ⟨h1, h2, h3⟩ := R.own b j h
    refine ⟨h1, h2, ?_⟩
    by_cases q : b = a
    · rw [q, upd_same]; simp
    · rw [upd_ne q]; exact h3
  sl := fun j => by
    by_cases q : j = i
    · subst q
      by_cases hl : j < Γ.s.length
      · rw [Ga.at_same hl]; exact hx
      · have : (Γ.set j x).at j = .no := by
          show (Γ.s.set j x).getD j .no = .no
          rw [List.getD_eq_getElem?_getD, List.getElem?_eq_none (by rw [List.length_set]; omega)]; rfl
        rw [this]; trivial
    · rw [Ga.at_set q]
      exact (R.sl j).keepH fun b hb => upd_ne fun z => by rw [z, ho] at hb; exact q (Option.some.inj hb).symm
  fH := fun b u e n => by
    rw [upd_ne (fun q => by rw [q, (R.own a i ho).2.1] at e; cases e)]
    exact R.fH b u e n
  fZ := R.fZ
  fB := R.fB
  fN := R.fN
end
section
variable {X : Cx} {G : Gh} {e : Expr} {x : Str} {px apos cpos pos : Pos}
/-- x.append(e), x's list its own -/
def wAppend (i : Nat) (w : WE Rv) : WS := fun E Γ => (∃ ds, Γ.at i = .lst ds) ∧ w Γ fun r Γ1 => match r, Γ1.at i with
  | .dat d, .lst ds => ds.length < 16777216 ∧ E.nx (Γ1.set i (.lst (ds ++ [d])))
  | _, _ => False
theorem as_append (i : Nat) {w : WE Rv} (h : AE X G e w) (hN : X.N[i]? = some x := by rfl) (hv : Vis X.env.scope x := by first | exact Or.inl rfl | exact Or.inr (Or.inl rfl) | exact Or.inr (Or.inr rfl)) (hd : (x == ("__debug__" : Str)) = false := by decide) (hcd : (x == ("__classdict__" : Str)) = false := by decide)
    (hbase : attributeBase (.Name x px) "append" X.env (eval (.Name x px) X.env) = eval (.Name x px) X.env := by rfl)
    (hfew : ((backTo cpos (starEach [e] X.env)).all (fun x => !x.1) && (backToKw cpos (keywordEach [] X.env)).all (fun x => x.1.isSome) && decide ([e].length + ([] : List Keyword).length + (if ([] : List Keyword).isEmpty then 0 else 1) < 30)) = true := by rfl)
    (hline : (apos.endLine == cpos.line) = true := by rfl) (hs : starEach [e] X.env = (false, eval e X.env) :: starEach [] X.env := by rfl) (hsw : swapsWith (.Call (.Attribute (.Name x px) "append" apos) [e] [] cpos) none pos.line X.env = pure false := by rfl) :
    AS X G (.Expr (.Call (.Attribute (.Name x px) "append" apos) [e] [] cpos) pos) (wAppend i w) :=
  PSi (ps_expr (pe_bm PySem.F.plainAttrs_list PySem.F.slot_list_append PySem.F.type_list_append mt_append (pe_var hN hv hd hcd) (pa_cons h pa_nil hs) hbase hfew hline hs rfl) hsw) fun T σ H ⟨Γ, Z, O, E, R, ⟨⟨ds0, h0⟩, w⟩, k⟩ => by
    obtain ⟨a, vs0, e1, o1, q1, r1⟩ := R.slAt h0
    refine ⟨_, getD_some e1, .inl ⟨rfl, _, SqL.of q1⟩, Γ, Z, O, _, R, w, fun r Γ1 v Z1 O1 H1 p1 R1 S1 b1 => ?_⟩
    split at p1
    · rename_i d ds h1
      obtain ⟨a', vs, e2, o2, q2, r2⟩ := R1.slAt h1
      have ea : a' = a := by rw [e1] at e2; cases e2; rfl
      subst ea
      obtain ⟨hl, p1⟩ := p1
      refine ⟨a', vs, v, rfl, rfl, q2, by rw [r2.length, ← line_is]; exact hl, ?_⟩
      refine k.nx _ _ _ _ _ p1 (R1.updOwn o2 ?_)
      exact ⟨a', _, e2, o2, upd_same, r2.snoc b1⟩
    · exact p1.elim
end
section
variable {K : Fg}
theorem DRs.boolsI {Z : Hp} : ∀ {bs : List Bool} {vs : List V}, DRs K Z vs (bs.map PyData.bool) → vs = bs.map V.bl
  | [], _, h => by cases h; rfl
  | b :: bs, _, h => by
    cases h with
    | cons h t =>
      cases h
      rw [DRs.boolsI t]; rfl
/-- all(xs), any(xs): xs a list of bools -/
def sAll : SemN := fun ds P => match ds with
  | [.list xs] => ∃ bs : List Bool, xs = bs.map PyData.bool ∧ P (.v (.dat (.bool (bs.all id))))
  | _ => False
def sAny : SemN := fun ds P => match ds with
  | [.list xs] => ∃ bs : List Bool, xs = bs.map PyData.bool ∧ P (.v (.dat (.bool (bs.any id))))
  | _ => False
theorem p_all : PureN K (rAll K) sAll := by
  intro PN Z H xs ds P Q Cx b s k
  unfold sAll at s
  split at s
  · obtain ⟨bs, rfl, s⟩ := s
    obtain ⟨v, rfl, bb⟩ := b.one
    obtain ⟨a, vs, rfl, h, t⟩ := bb.listI Cx.sub
    obtain rfl := t.boolsI
    exact ⟨a, bs, rfl, SqL.of h, keepS Cx k s (.bl _)⟩
  · exact s.elim
theorem p_any : PureN K (rAny K) sAny := by
  intro PN Z H xs ds P Q Cx b s k
  unfold sAny at s
  split at s
  · obtain ⟨bs, rfl, s⟩ := s
    obtain ⟨v, rfl, bb⟩ := b.one
    obtain ⟨a, vs, rfl, h, t⟩ := bb.listI Cx.sub
    obtain rfl := t.boolsI
    exact ⟨a, bs, rfl, SqL.of h, keepS Cx k s (.bl _)⟩
  · exact s.elim
end
section
variable {K : Fg}
theorem p_isB : Pure2 K rIsB sIsB := by
  intro PN Z H x y d e P Q Cx bx bz s k
  unfold sIsB at s
  split at s
  · obtain rfl := bx.boolI
    obtain rfl := bz.boolI
    exact ⟨_, _, rfl, rfl, keepS Cx k s (.bl _)⟩
  · exact s.elim
theorem p_notB : Pure2 K rNotB sNotB := by
  intro PN Z H x y d e P Q Cx bx bz s k
  unfold sNotB at s
  split at s
  · obtain rfl := bx.boolI
    obtain rfl := bz.boolI
    exact ⟨_, _, rfl, rfl, keepS Cx k s (.bl _)⟩
  · exact s.elim
theorem kit_isi2 (T T' : Ty6) (d : D) : PySem.W.kitAny K (.type (tyN d)) [.type T.name, .type T'.name] = some (isiD T d || isiD T' d) := by
  simp only [PySem.W.kitAny, kit_isi]
  cases isiD T d <;> cases isiD T' d <;> rfl
end
section
variable {X : Cx} {G : Gh} {e a b : Expr} {es : List Expr} {pos p p2 p3 p4 : Pos}
/-- isinstance(x, (T, T')) -/
def wIsi2 (T T' : Ty6) (w : WE D) : WE Rv := fun Γ P => w Γ fun d Γ1 => (match d with | .dict _ => False | _ => True) ∧ P (.dat (.bool (isiD T d || isiD T' d))) Γ1
abbrev tyE (T : Ty6) (p : Pos) : Expr := .Name (Str.ofString T.name) p
theorem ae_isi2 {w : WE D} (T T' : Ty6) {k1} (h : AB X G a w) (hm : X.mg "isinstance" = none) (hT : X.mg (Str.ofString T.name) = none) (hT' : X.mg (Str.ofString T'.name) = none) (hg : Gl X "isinstance" := by rfl) (gT : Gl X (Str.ofString T.name) := by rfl) (gT' : Gl X (Str.ofString T'.name) := by rfl)
    (hn : Str.ofString T.name ≠ "__name__" := by decide) (hn' : Str.ofString T'.name ≠ "__name__" := by decide) (hd : ((Str.ofString T.name) == ("__debug__" : Str)) = false := by decide) (hd' : ((Str.ofString T'.name) == ("__debug__" : Str)) = false := by decide)
    (q1 : starEach [tyE T p2, tyE T' p3] X.env = (false, eval (tyE T p2) X.env) :: starEach [tyE T' p3] X.env := by rfl) (q2 : starEach [tyE T' p3] X.env = (false, eval (tyE T' p3) X.env) :: starEach [] X.env := by rfl)
    (he : starEach [a, .Tuple [tyE T p2, tyE T' p3] k1 p4] X.env = (false, eval a X.env) :: starEach [.Tuple [tyE T p2, tyE T' p3] k1 p4] X.env := by rfl) (he2 : starEach [.Tuple [tyE T p2, tyE T' p3] k1 p4] X.env = (false, eval (.Tuple [tyE T p2, tyE T' p3] k1 p4) X.env) :: starEach [] X.env := by rfl)
    (hpl : (backTo pos (starEach [.Tuple [tyE T p2, tyE T' p3] k1 p4] X.env)).any (·.1) = false := by rfl) :
    AE X G (.Call (.Name "isinstance" p) [a, .Tuple [tyE T p2, tyE T' p3] k1 p4] [] pos) (wIsi2 T T' w) := by
  have hc : PE X (tyE T p2) (tC (.ty T.name)) := pe_bltn gT hT (boot_ty T) rfl hn hd
  have hc' : PE X (tyE T' p3) (tC (.ty T'.name)) := pe_bltn gT' hT' (boot_ty T') rfl hn' hd'
  refine PEi (pe_callB call_isiT hg hm boot_isinstance (pa_cons h (pa_cons (pe_tup (pa_cons hc (pa_cons hc' pa_nil q2) q1)) pa_nil he2) he) (by decide) (by decide) he hpl) fun σ H Q ⟨Γ, Z, O, P, R, q, k⟩ => ?_
  refine ⟨Γ, Z, O, _, R, q, fun d Γ1 v Z1 O1 H1 p1 R1 S1 b1 => ⟨small_line (by show 2 ≤ 1000; decide), fun tp htp => ?_⟩⟩
  have g := Grow.new' (o := .tup [V.ty T.name, V.ty T'.name]) R1.sub htp
  have R2 := R1.grow g
  have b2 := b1.grow (g.step (PN := G.PN) (O := O1)).zZ (g.step (PN := G.PN) (O := O1)).hH
  refine ⟨v, tp, _, .type (tyN d), _, _, rfl, upd_same, .cons (.ty T.name) (.cons (.ty T'.name) .nil), b2.tyx R2.sub ?_, kit_isi2 T T' d, k _ _ _ _ _ _ p1.2 R2 (S1.trans g.step) (.bl _)⟩
  rintro kvs rfl
  exact p1.1
end
theorem DRs.erase {K : Fg} {Z : Hp} : ∀ {vs : List V} {ds : List D} (k : Nat), DRs K Z vs ds → DRs K Z (vs.eraseIdx k) (ds.eraseIdx k)
  | _, _, _, .nil => .nil
  | _, _, 0, .cons _ t => t
  | _, _, k + 1, .cons a t => .cons a (t.erase k)
section
variable {X : Cx} {G : Gh} {e : Expr} {x y : Str} {px py ap1 ap2 cp1 cp2 pos : Pos}
/-- x.append(y.pop(e)), both lists the def's own -/
def wAppPop (i j : Nat) (w : WE D) : WS := fun E Γ => (∃ ds, Γ.at i = .lst ds) ∧ (∃ es, Γ.at j = .lst es) ∧ w Γ fun d Γ1 => match d, Γ1.at i, Γ1.at j with
  | .int n, .lst ds, .lst es => -(2 ^ 63) ≤ n ∧ n < 2 ^ 63 ∧ ds.length < 16777216 ∧ ∃ k z, seqIndex? n es.length = some k ∧ es[k]? = some z ∧ E.nx ((Γ1.set j (.lst (es.eraseIdx k))).set i (.lst (ds ++ [z])))
  | _, _, _ => False
theorem as_appPop (i j : Nat) {w : WE D} (h : AB X G e w) (ij : i ≠ j := by decide) (hN : X.N[i]? = some x := by rfl) (hv : Vis X.env.scope x := by first | exact Or.inl rfl | exact Or.inr (Or.inl rfl) | exact Or.inr (Or.inr rfl)) (hd : (x == ("__debug__" : Str)) = false := by decide) (hcd : (x == ("__classdict__" : Str)) = false := by decide)
    (hN' : X.N[j]? = some y := by rfl) (hv' : Vis X.env.scope y := by first | exact Or.inl rfl | exact Or.inr (Or.inl rfl) | exact Or.inr (Or.inr rfl)) (hd' : (y == ("__debug__" : Str)) = false := by decide) (hcd' : (y == ("__classdict__" : Str)) = false := by decide)
    (hb1 : attributeBase (.Name x px) "append" X.env (eval (.Name x px) X.env) = eval (.Name x px) X.env := by rfl) (hb2 : attributeBase (.Name y py) "pop" X.env (eval (.Name y py) X.env) = eval (.Name y py) X.env := by rfl)
    (hf2 : ((backTo cp2 (starEach [e] X.env)).all (fun x => !x.1) && (backToKw cp2 (keywordEach [] X.env)).all (fun x => x.1.isSome) && decide ([e].length + ([] : List Keyword).length + (if ([] : List Keyword).isEmpty then 0 else 1) < 30)) = true := by rfl)
    (hf1 : ((backTo cp1 (starEach [.Call (.Attribute (.Name y py) "pop" ap2) [e] [] cp2] X.env)).all (fun x => !x.1) && (backToKw cp1 (keywordEach [] X.env)).all (fun x => x.1.isSome) && decide ([Expr.Call (.Attribute (.Name y py) "pop" ap2) [e] [] cp2].length + ([] : List Keyword).length + (if ([] : List Keyword).isEmpty then 0 else 1) < 30)) = true := by rfl)
    (hl1 : (ap1.endLine == cp1.line) = true := by rfl) (hl2 : (ap2.endLine == cp2.line) = true := by rfl) (hs2 : starEach [e] X.env = (false, eval e X.env) :: starEach [] X.env := by rfl)
    (hs1 : starEach [.Call (.Attribute (.Name y py) "pop" ap2) [e] [] cp2] X.env = (false, eval (.Call (.Attribute (.Name y py) "pop" ap2) [e] [] cp2) X.env) :: starEach [] X.env := by rfl)
    (hsw : swapsWith (.Call (.Attribute (.Name x px) "append" ap1) [.Call (.Attribute (.Name y py) "pop" ap2) [e] [] cp2] [] cp1) none pos.line X.env = pure false := by rfl) :
    AS X G (.Expr (.Call (.Attribute (.Name x px) "append" ap1) [.Call (.Attribute (.Name y py) "pop" ap2) [e] [] cp2] [] cp1) pos) (wAppPop i j w) :=
  PSi (ps_expr (pe_bm PySem.F.plainAttrs_list PySem.F.slot_list_append PySem.F.type_list_append mt_append (pe_var hN hv hd hcd) (pa_cons (pe_bm PySem.F.plainAttrs_list PySem.F.slot_list_pop PySem.F.type_list_pop mt_popAt (pe_var hN' hv' hd' hcd') (pa_cons h pa_nil hs2) hb2 hf2 hl2 hs2 rfl) pa_nil hs1) hb1 hf1 hl1 hs1 rfl) hsw) fun T σ H ⟨Γ, Z, O, E, R, ⟨⟨ds0, h0⟩, ⟨es0, g0⟩, w⟩, k⟩ => by
    obtain ⟨a, vs0, e1, o1, q1, r1⟩ := R.slAt h0
    obtain ⟨b, us0, e2, o2, q2, r2⟩ := R.slAt g0
    refine ⟨_, getD_some e1, .inl ⟨rfl, _, SqL.of q1⟩, _, getD_some e2, .inl ⟨rfl, _, SqL.of q2⟩, Γ, Z, O, _, R, w, fun d Γ1 v Z1 O1 H1 p1 R1 S1 b1 => ?_⟩
    split at p1
    · rename_i n ds es h1 g1
      obtain rfl := b1.intI
      obtain ⟨a', vs, e3, o3, q3, r3⟩ := R1.slAt h1
      obtain ⟨b', us, e4, o4, q4, r4⟩ := R1.slAt g1
      have ea : a' = a := by rw [e1] at e3; cases e3; rfl
      have eb : b' = b := by rw [e2] at e4; cases e4; rfl
      subst ea eb
      have ne : a' ≠ b' := fun z => ij (by rw [z, o4] at o3; exact (Option.some.inj o3).symm)
      obtain ⟨n0, n1, hl, kx, z, hk, hz, p1⟩ := p1
      obtain ⟨u, hu, du⟩ := r4.get hz
      refine ⟨b', us, n, kx, u, rfl, rfl, q4, n0, n1, by rw [r4.length]; exact hk, hu, ?_⟩
      have R2 := R1.updOwn (x := .lst (es.eraseIdx kx)) (o := .lst (us.eraseIdx kx)) o4 ⟨b', _, e4, o4, upd_same, r4.erase kx⟩
      refine ⟨a', vs, u, rfl, rfl, by rw [upd_ne ne]; exact q3, by rw [r3.length, ← line_is]; exact hl, ?_⟩
      refine k.nx _ _ _ _ _ p1 (R2.updOwn o3 ?_)
      exact ⟨a', _, e3, o3, upd_same, r3.snoc du⟩
    · exact p1.elim
end
end VL
namespace VL
open PySem PySem.Spec PyProof.Rows L2
/-! ### a tuple is gathered into a list, then sorted -/
section
open PySem.Calls
variable {prog : Program} {w : World} {A : Around} {E : Value → Shared → Prop} {s : Shared} {vs : List Value} {l : Addr}
abbrev gotH (h : Heap) (vs : List Value) : Heap := (h.push (seqObj "list" #[] 0)).update h.objs.size (Obj.mapSeq (· ++ vs.toArray))
theorem gather {Q : List Value → Shared → Prop} (ht : IsTup s.heap l vs.toArray) (hz : vs.length ≤ sizeLine) (h : Q vs { s with heap := gotH s.heap vs }) : wpAny (model prog w) A (collect (.ref l)) Q E s := by
  obtain ⟨o, ho, hc, n, hd⟩ := ht
  have hp := Heap.get?_push_of_some (seqObj "list" #[] 0) ho
  have hq : (s.heap.push (seqObj "list" #[] 0)).get? s.heap.objs.size = some (seqObj "list" #[] 0) := Heap.get?_push_size _ rfl
  unfold collect
  refine wpAny_bind (wpAny_runValue (codeAny_builtin entry_proto_collect' (wpAny_bind (wpAny_newList (wpAny_pure ⟨Code.quiet_builtin _ (by decide +kernel), codeAny_builtin entry_list_iadd' (show wpAny _ _ (Builtin.List.listExtendWith (.ref s.heap.objs.size) (.ref l) (.ref s.heap.objs.size)) _ _ { s with heap := s.heap.push (seqObj "list" #[] 0) } from ?_)⟩)))))
  unfold Builtin.List.listExtendWith
  refine wpAny_bind (wpAny_typeOf (T := "tuple") ⟨o, hp, hc⟩ ?_)
  rw [if_pos (by simp [show ((Value.type "tuple" : Value) == Value.type "tuple") = true from rfl])]
  refine wpAny_bind (listItems_at hp hd (wpAny_bind (listItems_at (xs := #[]) (n := 0) hq rfl ?_)))
  rw [if_neg (by simp)]
  refine wpAny_bind (listUpdate_at (xs := #[]) (n := 0) hq rfl (wpAny_pure ?_) (Nat.zero_le _) (by rw [Array.size_append]; simp only [List.size_toArray, List.length_nil]; omega))
  refine wpAny_bind (wpAny_load (get?_update_seq hq _) ?_)
  show wpAny _ _ (pure ((#[] : Array Value) ++ vs.toArray).toList) Q E _
  rw [show ((#[] : Array Value) ++ vs.toArray).toList = vs by simp]
  exact wpAny_pure h
theorem sortedTup {β : Type} {bs : List β} {enc : β → PyData} {R : Value → β → Prop} {Q : Value → Shared → Prop} (hl : IsTup s.heap l vs.toArray) (e : PySem.W.EachIs R vs bs) (er : PySem.W.EachIs (fun v b => ∃ as, Reads s.heap v (enc b) as) vs bs) (al : PySem.W.AllAlike (bs.map enc)) (so : PySem.W.Sortable (bs.map enc)) (hz : bs.length ≤ sizeLine)
    (hu : ∀ b, b ∈ bs → A.units + 2 + (enc b).depth < cLine) (h : ∀ out, out.length = bs.length → PySem.W.EachIs R out (bs.mergeSort (PySem.W.dataLe false enc)) → Q (.ref (s.heap.objs.size + 1)) { s with heap := sortedAll s.heap vs (List.toArray out) }) :
    wpAny (model prog w) A (call (.builtin "sorted") [.ref l]) Q E s := by
  have hv : vs.length ≤ sizeLine := by rw [e.length]; exact hz
  refine call_function_entry_kw kind_sorted plain_sorted entry_sorted (args_sorted1 _) ?_
  unfold Builtin.«sorted»
  refine wpAny_bind (m := checkCount "sorted" 1 1 _) (wpAny_pure (wpAny_bind (gather hl hv (wpAny_bind (wpAny_newList ?_ hv)))))
  show wpAny _ _ _ _ _ { s with heap := PySem.W.copyHeap s.heap vs }
  rw [show (gotH s.heap vs).objs.size = s.heap.objs.size + 1 by rw [Heap.size_update, size_push']]
  have er' : PySem.W.EachIs (fun v b => ∃ as, Reads (PySem.W.sortingHeap (PySem.W.copyHeap s.heap vs) (s.heap.objs.size + 1) vs) v (enc b) as) vs bs := er.mono fun _ _ ⟨as, r⟩ => ⟨as, PyProof.Rows.Reads.keeps (fun _ _ => PySem.W.sorting_copy_old) r⟩
  have sv := PySem.W.sortVals_data false e er' al
  refine wpAny_bind (wpAny_holding (wpAny_call_entry_kw slot_list_sort ⟨_, PySem.W.copyHeap_at s.heap vs, rfl⟩ entry_list_sort (wpAny_mono (PySem.W.list_sort_vals (P := fun f s' => f = .done (.ret .none) ∧ Q (.ref (s.heap.objs.size + 1)) s') (s := { s with heap := PySem.W.copyHeap s.heap vs }) (PySem.W.copyHeap_at s.heap vs)
    (PySem.W.SortsAt.data (s := { s with heap := PySem.W.sortingHeap (PySem.W.copyHeap s.heap vs) (s.heap.objs.size + 1) vs }) (PySem.W.each_map (R := fun v d => ∃ as, Reads (PySem.W.sortingHeap (PySem.W.copyHeap s.heap vs) (s.heap.objs.size + 1) vs) v d as) enc er') al so (PySem.W.bound_map hu)) hv ⟨rfl, h _ (by rw [PySem.W.sortVals_length false rfl]; exact e.length) sv⟩)
    (fun f s' hf => ?_) fun _ _ e => e) (args_list_sort _)))
  obtain ⟨rfl, hq⟩ := hf
  exact ⟨_, rfl, wpAny_pure ⟨_, rfl, hq⟩⟩
end
/-! ### sorted(xs) of deep data: rows of tuples, ints, texts -/
def rSortDt (K : Fg) : List V → Hp → VK → Prop := fun xs H Q => ∃ (a : Addr) (vs : List V) (ds : List D) (T : V → D → Prop), xs = [.ref a] ∧ (SqL K H a vs ∨ SqT K H a vs) ∧ Paired T vs ds ∧ (∀ v d, T v d → Dp K H v d) ∧ PySem.W.AllAlike ds ∧ PySem.W.Sortable ds ∧ (∀ d ∈ ds, d.depth ≤ 60) ∧ ds.length ≤ sizeLine ∧
  ∀ (vs' : List V) (p : Addr), Paired T vs' (ds.mergeSort (PySem.W.dataLe false fun d => d)) → H p = none → Q (.ref p) (upd H p (.lst vs'))
theorem each_of {T : V → D → Prop} {R : Value → D → Prop} (k : ∀ v d u, T v d → RelV v u → R u d) : ∀ {vs : List V} {ds : List D} {us : List Value}, Paired T vs ds → Vals vs us → PySem.W.EachIs R us ds
  | _, _, _, .nil, .nil => .nil
  | _, _, _, .cons a b, .cons c d => .cons (k _ _ _ a c) (each_of k b d)
theorem back_of {T : V → D → Prop} : ∀ {us : List Value} {ds : List D}, PySem.W.EachIs (fun u d => ∃ v, RelV v u ∧ T v d) us ds → ∃ vs : List V, Vals vs us ∧ Paired T vs ds
  | _, _, .nil => ⟨[], .nil, .nil⟩
  | _, _, .cons ⟨v, a, b⟩ r => by
    obtain ⟨vs, c, d⟩ := back_of r
    exact ⟨v :: vs, .cons a c, .cons b d⟩
theorem c_sortD {X : Cx} (hu : X.A.units + 66 < cLine) : CallR X (.builtin "sorted") (rSortDt X.K) := by
  intro pins s σ H xs us Q I r h
  obtain ⟨a, vs, ds, T, rfl, hs, pt, td, al, so, dp, hz, q⟩ := h
  rw [Vals.ref1 r]
  have fin : ∀ its out : List Value, out.length = ds.length → PySem.W.EachIs (fun u d => ∃ v, RelV v u ∧ T v d) out (ds.mergeSort (PySem.W.dataLe false fun d => d)) → EP X pins σ Q (.ref (s.heap.objs.size + 1)) { s with heap := sortedAll s.heap its (List.toArray out) } := by
    intro its out ho eo
    obtain ⟨vs', hv, hp⟩ := back_of eo
    obtain ⟨ep, he'⟩ := PyProof.Rows.sortedAll_at s.heap its out.toArray
    have hlen : vs'.length ≤ sizeLine := by rw [hv.length, ho]; exact hz
    exact ⟨.ref _, upd H (s.heap.objs.size + 1) (.lst vs'), I.laid (t' := s.toks) (fun _ _ => PyProof.Rows.sortedAll_old) (Nat.le_succ _) ⟨hlen, out, ep, hv, he'⟩, rfl, q _ _ hp (I.hok.fresh (Nat.le_succ _))⟩
  have al' : PySem.W.AllAlike (ds.map fun d => d) := by rw [List.map_id']; exact al
  have so' : PySem.W.Sortable (ds.map fun d => d) := by rw [List.map_id']; exact so
  have hu' : ∀ b, b ∈ ds → X.A.units + 2 + b.depth < cLine := fun b hb => by have := dp b hb; omega
  rcases hs with hs | hs
  · obtain ⟨its, rv, hl, _⟩ := I.list hs
    exact PySem.W.sorted_data (bs := ds) (enc := fun d => d) (R := fun u d => ∃ v, RelV v u ∧ T v d) hl.isList (each_of (fun v d u a b => ⟨v, b, a⟩) pt rv) (each_of (fun v d u a b => Dp.reads I d v u (td v d a) b) pt rv) al' so' hz hu' (fin its)
  · obtain ⟨its, rv, hl, _⟩ := I.tuple hs
    exact sortedTup (bs := ds) (enc := fun d => d) (R := fun u d => ∃ v, RelV v u ∧ T v d) hl (each_of (fun v d u a b => ⟨v, b, a⟩) pt rv) (each_of (fun v d u a b => Dp.reads I d v u (td v d a) b) pt rv) al' so' hz hu' (fin its)
/-- sorted(xs) as data -/
def sSortD : SemN := fun ds P => match ds with
  | [.tuple xs] => nodicts xs = true ∧ PySem.W.AllAlike xs ∧ PySem.W.Sortable xs ∧ (∀ d ∈ xs, d.depth ≤ 60) ∧ xs.length ≤ 16777216 ∧ P (.ls (xs.mergeSort (PySem.W.dataLe false fun d => d)))
  | [.list xs] => nodicts xs = true ∧ PySem.W.AllAlike xs ∧ PySem.W.Sortable xs ∧ (∀ d ∈ xs, d.depth ≤ 60) ∧ xs.length ≤ 16777216 ∧ P (.ls (xs.mergeSort (PySem.W.dataLe false fun d => d)))
  | _ => False
section
variable {K : Fg}
theorem DRs.pair {Z : Hp} : ∀ {vs : List V} {ds : List D}, DRs K Z vs ds → nodicts ds = true → Paired (fun v d => DR K Z v d ∧ nodict d = true) vs ds
  | _, _, .nil, _ => .nil
  | _, _, .cons a t, n => by
    have n' := Bool.and_eq_true_iff.mp (show (nodict _ && nodicts _) = true from n)
    exact .cons ⟨a, n'.1⟩ (t.pair n'.2)
theorem DRs.ofPair {Z : Hp} : ∀ {vs : List V} {ds : List D}, Paired (fun v d => DR K Z v d ∧ nodict d = true) vs ds → DRs K Z vs ds
  | _, _, .nil => .nil
  | _, _, .cons a t => .cons a.1 (DRs.ofPair t)
theorem p_sortD : PureN K (rSortDt K) sSortD := by
  intro PN Z H xs ds P Q Cx b s k
  unfold sSortD at s
  split at s
  · obtain ⟨n, al, so, dp, hz, s⟩ := s
    obtain ⟨v, rfl, bb⟩ := b.one
    obtain ⟨a, vs, rfl, h, _, t⟩ := bb.tupI Cx.sub
    exact ⟨a, vs, _, _, rfl, .inr h, t.pair n, fun v d q => q.1.dp Cx.sub q.2, al, so, dp, by rw [← line_is]; exact hz, fun vs' p h1 hp => newL Cx k s (DRs.ofPair h1) p hp⟩
  · obtain ⟨n, al, so, dp, hz, s⟩ := s
    obtain ⟨v, rfl, bb⟩ := b.one
    obtain ⟨a, vs, rfl, h, t⟩ := bb.listI Cx.sub
    exact ⟨a, vs, _, _, rfl, .inl (SqL.of h), t.pair n, fun v d q => q.1.dp Cx.sub q.2, al, so, dp, by rw [← line_is]; exact hz, fun vs' p h1 hp => newL Cx k s (DRs.ofPair h1) p hp⟩
  · exact s.elim
end
end VL
namespace VL
open PySem PySem.Spec PyProof.Rows L2
/-! ### zip of two lists or two tuples -/
def zipD (xs ys : List D) : List D := List.zipWith (fun x y => .tuple [x, y]) xs ys
theorem zipD_get {xs ys : List D} {i : Nat} (hi : i < (zipD xs ys).length) : ∃ x y, xs[i]? = some x ∧ ys[i]? = some y ∧ (zipD xs ys)[i]? = some (.tuple [x, y]) := by
  unfold zipD at hi ⊢
  rw [List.length_zipWith] at hi
  have h1 : i < xs.length := by omega
  have h2 : i < ys.length := by omega
  exact ⟨xs[i], ys[i], by simp [h1], by simp [h2], by simp [List.getElem?_zipWith, h1, h2]⟩
/-- the same for any way of standing -/
theorem walkD_zip {K : Fg} {PN : Addr → Prop} {Z : Hp} {J : It} {S1 S2 : Hp → List V → Prop} {vs us : List V} {xs ys : List D} (go : ∀ i H x y, S1 H vs → S2 H us → vs[i]? = some x → us[i]? = some y → J.go i H)
    (st : ∀ i H, S1 H vs → S2 H us → (vs.length ≤ i ∨ us.length ≤ i) → J.stop i H) (yl : ∀ i H v H', S1 H vs → S2 H us → J.yld i H v H' → ∃ T x y, v = .ref T ∧ H T = none ∧ H' = upd H T (.tup [x, y]) ∧ vs[i]? = some x ∧ us[i]? = some y)
    (h1 : ∀ H, Sub Z H → S1 H vs) (h2 : ∀ H, Sub Z H → S2 H us) (t1 : DRs K Z vs xs) (t2 : DRs K Z us ys) (hz : xs.length ≤ sizeLine) : WalkD K PN Z J (zipD xs ys) := by
  have hl : (zipD xs ys).length = min xs.length ys.length := by unfold zipD; rw [List.length_zipWith]
  refine ⟨fun H => S1 H vs ∧ S2 H us, fun i H v H' => i < (zipD xs ys).length ∧ ∃ T x y, v = .ref T ∧ H T = none ∧ H' = upd H T (.tup [x, y]) ∧ vs[i]? = some x ∧ us[i]? = some y, ⟨fun i H hi hh => ?_, fun H hh => ?_, fun i H v H' hi hh y => ⟨hi, yl i H v H' hh.1 hh.2 y⟩⟩, by rw [hl]; omega, fun H s => ⟨h1 H s, h2 H s⟩, ?_⟩
  · obtain ⟨x, y, e1, e2, _⟩ := zipD_get hi
    obtain ⟨u, e3, _⟩ := t1.get e1
    obtain ⟨v, e4, _⟩ := t2.get e2
    exact go i H u v hh.1 hh.2 e3 e4
  · refine st _ H hh.1 hh.2 ?_
    rw [t1.length, t2.length, hl]; omega
  · rintro i H v H' Zc hs C ⟨hi, T, x, y, rfl, hT, rfl, e1, e2⟩
    obtain ⟨d1, d2, f1, f2, f3⟩ := zipD_get hi
    obtain ⟨x', g1, r1⟩ := t1.get f1
    obtain ⟨y', g2, r2⟩ := t2.get f2
    have ex : x' = x := by rw [e1] at g1; cases g1; rfl
    have ey : y' = y := by rw [e2] at g2; cases g2; rfl
    subst ex ey
    have g := Grow.new (o := .tup [x', y']) C.sub hT
    exact ⟨_, _, f3, g, .tup (SqT.of upd_same) (.cons (r1.mono (hs.trans g.zz)) (.cons (r2.mono (hs.trans g.zz)) .nil))⟩
def wZip (ws : WE (List Rv)) : WE (List D) := fun Γ P => ws Γ fun rs Γ1 => match rs with
  | [.dat (.list xs), .dat (.list ys)] => xs.length ≤ 16777216 ∧ P (zipD xs ys) Γ1
  | [.dat (.tuple xs), .dat (.tuple ys)] => xs.length ≤ 16777216 ∧ P (zipD xs ys) Γ1
  | _ => False
section
variable {X : Cx} {G : Gh} {e e2 : Expr} {elts : List Expr} {kk : Nat} {tpos p pos : Pos}
theorem ai_zip {ws : WE (List Rv)} (hm : X.mg "zip" = none) (h : AA X G [e, e2] ws) (hg : Gl X "zip" := by rfl) (hs : starEach [e, e2] X.env = (false, eval e X.env) :: starEach [e2] X.env := by rfl) (hpl : (backTo pos (starEach [e2] X.env)).any (·.1) = false := by rfl) :
    AI X G (.Tuple elts kk tpos) (.Call (.Name "zip" p) [e, e2] [] pos) (wZip ws) := by
  refine ⟨fun pins s σ H R I ⟨Γ, Z, O, P, Re, q, k⟩ => ?_⟩
  refine (RZ.pi_zipA hg hm h hs hpl).run pins s σ H R I ⟨Γ, Z, O, _, Re, q, fun rs Γ1 vs Z1 O1 H1 p1 R1 S1 ⟨b1, _⟩ => ?_⟩
  split at p1
  · obtain ⟨hz, p1⟩ := p1
    cases b1 with
    | cons a1 b1 =>
      cases b1 with
      | cons a2 b1 =>
        cases b1
        have a1' : DR X.K Z1 _ (.list _) := a1
        have a2' : DR X.K Z1 _ (.list _) := a2
        cases a1' with
        | @lst a vs _ hq ht =>
          cases a2' with
          | @lst b us _ hq' ht' =>
            refine ⟨a, b, vs, us, rfl, .inl ⟨SqL.of (R1.sub _ _ hq), SqL.of (R1.sub _ _ hq'), k _ _ _ _ _ _ p1 R1 S1 (walkD_zip (S1 := fun H vs => SqL X.K H a vs) (S2 := fun H us => SqL X.K H b us) (fun i H x y h1 h2 e1 e2 => ⟨_, _, _, _, h1, h2, e1, e2⟩) (fun i H h1 h2 q => ⟨_, _, h1, h2, q⟩) (fun i H v H' h1 h2 ⟨T, x, y, e1, e2, e3, e4, e5⟩ => ⟨T, x, y, e1, e2, e3, e4 _ h1, e5 _ h2⟩) (fun H s => SqL.of (s _ _ hq)) (fun H s => SqL.of (s _ _ hq')) ht ht' (by rw [← line_is]; exact hz))⟩⟩
  · obtain ⟨hz, p1⟩ := p1
    cases b1 with
    | cons a1 b1 =>
      cases b1 with
      | cons a2 b1 =>
        cases b1
        have a1' : DR X.K Z1 _ (.tuple _) := a1
        have a2' : DR X.K Z1 _ (.tuple _) := a2
        cases a1' with
        | @tup a vs _ hq ht =>
          cases a2' with
          | @tup b us _ hq' ht' =>
            refine ⟨a, b, vs, us, rfl, .inr ⟨R1.sub.sqT hq, R1.sub.sqT hq', k _ _ _ _ _ _ p1 R1 S1 (walkD_zip (S1 := fun H vs => SqT X.K H a vs) (S2 := fun H us => SqT X.K H b us) (fun i H x y h1 h2 e1 e2 => ⟨_, _, _, _, h1, h2, e1, e2⟩) (fun i H h1 h2 q => ⟨_, _, h1, h2, q⟩) (fun i H v H' h1 h2 ⟨T, x, y, e1, e2, e3, e4, e5⟩ => ⟨T, x, y, e1, e2, e3, e4 _ h1, e5 _ h2⟩) (fun H s => s.sqT hq) (fun H s => s.sqT hq') ht ht' (by rw [← line_is]; exact hz))⟩⟩
  · exact p1.elim
end
/-! ### enumerate of a list -/
def enumD (xs : List D) : List D := xs.mapIdx fun i x => .tuple [.int (i : Nat), x]
theorem enumD_get {xs : List D} {i : Nat} (hi : i < (enumD xs).length) : ∃ x, xs[i]? = some x ∧ (enumD xs)[i]? = some (.tuple [.int (i : Nat), x]) := by
  unfold enumD at hi ⊢
  rw [List.length_mapIdx] at hi
  exact ⟨xs[i], by simp [hi], by simp [hi]⟩
theorem walkD_enum {K : Fg} {PN : Addr → Prop} {Z : Hp} {a : Addr} {vs : List V} {xs : List D} (hq : Z a = some (.lst vs)) (t : DRs K Z vs xs) (hz : xs.length ≤ sizeLine) : WalkD K PN Z (Ite K a) (enumD xs) := by
  have hl : (enumD xs).length = xs.length := by unfold enumD; rw [List.length_mapIdx]
  refine ⟨fun H => SqL K H a vs, fun i H v H' => i < (enumD xs).length ∧ ∃ T x, v = .ref T ∧ H T = none ∧ H' = upd H T (.tup [.int (i : Nat), x]) ∧ vs[i]? = some x, ⟨fun i H hi hh => ?_, fun H hh => ?_, fun i H v H' hi hh ⟨T, x, e1, e2, e3, e4⟩ => ⟨hi, T, x, e1, e2, e3, e4 _ hh⟩⟩, by rw [hl]; exact hz, fun H s => SqL.of (s _ _ hq), ?_⟩
  · obtain ⟨x, e1, _⟩ := enumD_get hi
    obtain ⟨u, e3, _⟩ := t.get e1
    exact ⟨vs, u, hh, e3⟩
  · exact ⟨vs, hh, by rw [t.length, hl]; exact Nat.le_refl _⟩
  · rintro i H v H' Zc hs C ⟨hi, T, x, rfl, hT, rfl, e1⟩
    obtain ⟨d1, f1, f3⟩ := enumD_get hi
    obtain ⟨x', g1, r1⟩ := t.get f1
    have ex : x' = x := by rw [e1] at g1; cases g1; rfl
    subst ex
    have g := Grow.new (o := .tup [V.int (i : Nat), x']) C.sub hT
    exact ⟨_, _, f3, g, .tup (SqT.of upd_same) (.cons (.int _) (.cons (r1.mono (hs.trans g.zz)) .nil))⟩
def wEnum (ws : WE (List Rv)) : WE (List D) := fun Γ P => ws Γ fun rs Γ1 => match rs with
  | [.dat (.list xs)] => xs.length ≤ 16777216 ∧ P (enumD xs) Γ1
  | _ => False
section
variable {X : Cx} {G : Gh} {e : Expr} {elts : List Expr} {kk : Nat} {tpos p pos : Pos}
theorem ai_enum {ws : WE (List Rv)} (hm : X.mg "enumerate" = none) (h : AA X G [e] ws) (hg : Gl X "enumerate" := by rfl) (hs : starEach [e] X.env = [(false, eval e X.env)] := by rfl) :
    AI X G (.Tuple elts kk tpos) (.Call (.Name "enumerate" p) [e] [] pos) (wEnum ws) := by
  refine ⟨fun pins s σ H R I ⟨Γ, Z, O, P, Re, q, k⟩ => ?_⟩
  refine (pi_enum hg hm h hs).run pins s σ H R I ⟨Γ, Z, O, _, Re, q, fun rs Γ1 vs Z1 O1 H1 p1 R1 S1 ⟨b1, _⟩ => ?_⟩
  split at p1
  · obtain ⟨hz, p1⟩ := p1
    cases b1 with
    | cons a1 b1 =>
      cases b1
      have a1' : DR X.K Z1 _ (.list _) := a1
      cases a1' with
      | @lst a vs _ hq ht => exact ⟨a, vs, rfl, SqL.of (R1.sub _ _ hq), k _ _ _ _ _ _ p1 R1 S1 (walkD_enum hq ht (by rw [← line_is]; exact hz))⟩
  · exact p1.elim
end
end VL
namespace VL
open PySem PySem.Spec PyProof.Rows L2
/-! ### x += e, x -= e of ints -/
def wAug (i : Nat) (f : Int → Int → Int) (w : WE D) : WS := fun E Γ => match Γ.at i with
  | .rv (.dat (.int a)) => w Γ fun d Γ1 => match d with
    | .int b => E.nx (Γ1.set i (.rv (.dat (.int (f a b)))))
    | _ => False
  | _ => False
section
variable {X : Cx} {G : Gh} {e : Expr} {x : Str} {pos pos' : Pos}
theorem as_aug (i : Nat) {op : Operator} {f : Int → Int → Int} {w : WE D} (ho : PIp X op (ipI f)) (hN : X.N.Nodup) (h : AB X G e w) (hi : X.N[i]? = some x := by rfl) (hx : Loc X.env.scope x := by first | exact Or.inl rfl | exact Or.inr rfl)
    (hf : X.fn x = true ∨ X.env.scope.names.lookup x = some .local := by first | exact .inl rfl | exact .inr rfl | assumption) : AS X G (.AugAssign (.Name x pos') op e pos) (wAug i f w) :=
  PSi (ps_aug hN hi hx h ho hf) fun T σ H ⟨Γ, Z, O, E, R, w, k⟩ => by
    unfold wAug at w
    split at w
    · rename_i a ha
      obtain ⟨u, e1, b0⟩ := R.slAt ha
      have b0' : DR X.K Z u (.int a) := b0
      cases b0'
      refine ⟨_, getD_some e1, Γ, Z, O, _, R, w, fun d Γ1 v Z1 O1 H1 p1 R1 S1 b1 => ?_⟩
      split at p1
      · obtain rfl := b1.intI
        exact ⟨_, _, rfl, rfl, k.nx _ _ _ _ _ p1 (R1.setRv i (show RvR X.K G.PN Z1 (.dat (.int _)) (.int _) from .int _))⟩
      · exact p1.elim
    · exact w.elim
end
end VL
namespace VL
open PySem PySem.Spec PyProof.Rows L2
/-! ### [e for x in a if .. for y in b if ..] -/
def comp2I (vs : List Nat) (g : WG) (t : WE Bool) (w : WE Rv) : List D → List D → Ga → (List D → Ga → Prop) → Prop
  | [], acc, Γ, P => P acc Γ
  | d :: r, acc, Γ, P => g d Γ fun Γ1 => t Γ1 fun k Γ2 => if k = true then w Γ2 fun rv Γ3 => match rv with
      | .dat e => acc.length < 16777216 ∧ comp2I vs g t w r (acc ++ [e]) (wipeG Γ3 vs) P
      | .pen => False
    else comp2I vs g t w r acc (wipeG Γ2 vs) P
def comp2W (vs vs1 : List Nat) (g : WG) (t : WE Bool) (wi1 : WE (List D)) (g1 : WG) (t1 : WE Bool) (w : WE Rv) : List D → List D → Ga → (List D → Ga → Prop) → Prop
  | [], acc, Γ, P => P acc Γ
  | d :: r, acc, Γ, P => g d Γ fun Γ1 => t Γ1 fun k Γ2 => if k = true then wi1 Γ2 fun items Γ3 => comp2I vs1 g1 t1 w items acc (wipeG Γ3 vs1) fun acc' Γ4 => comp2W vs vs1 g t wi1 g1 t1 w r acc' (wipeG Γ4 vs) P
    else comp2W vs vs1 g t wi1 g1 t1 w r acc (wipeG Γ2 vs) P
def wComp2 (vs vs1 : List Nat) (wi : WE (List D)) (g : WG) (t : WE Bool) (wi1 : WE (List D)) (g1 : WG) (t1 : WE Bool) (w : WE Rv) : WE Rz := fun Γ P => (∀ v ∈ vs, plainSl (Γ.at v)) ∧ wi Γ fun items Γ1 => comp2W vs vs1 g t wi1 g1 t1 w items [] (wipeG Γ1 vs) fun acc Γ2 => P (.ls acc) (backG Γ2 Γ vs)
theorem wipe_sub {σ : L2.St} {us : List Nat} : ∀ ws : List Nat, (∀ i ∈ ws, i ∈ us) → wipe (wipe σ ws) us = wipe σ us
  | [], _ => rfl
  | w :: ws, h => by
    show wipe ((wipe σ ws).set w none) us = _
    rw [wipe_set (h w (by simp)), wipe_sub ws fun i hi => h i (List.mem_cons_of_mem _ hi)]
/-- while it runs -/
def CompJ (K : Fg) (G : Gh) (Zb : Hp) (us : List Nat) (σ : L2.St) (Z1 : Hp) (O1 : Ow) (H1 : Hp) (L : Addr) (w : List D → Ga → Prop) (H : Hp) : Prop :=
  ∃ Γ Z O acc ds, Rel K (G.wb Zb) Γ Z O (wipe σ us) H ∧ Step G.PN Z1 O1 H1 Z O H ∧ H L = some (.lst acc) ∧ Z L = none ∧ O L = none ∧ DRs K Z acc ds ∧ w ds Γ
section
variable {J : It} {n : Nat} {Gp : Hp → Prop} {Y : Nat → Hp → V → Hp → Prop}
/-- the turns of one loop of a comprehension, from any heap -/
theorem turns_it (w : Walk J n Gp Y) {g : TG} {tb : L2.St → Hp → (Hp → Prop) → Prop} {σ : L2.St} {us : List Nat} {H1 : Hp} {Qd : Hp → Prop} (Pv : Nat → Hp → Prop) (h0 : Pv 0 H1) (hG : ∀ i H, i ≤ n → Pv i H → Gp H)
    (hs : ∀ i x H H', i < n → Pv i H → Y i H x H' → g x (wipe σ us) H' fun σ2 H2 => wipe σ2 us = wipe σ us ∧ tb σ2 H2 (Pv (i + 1))) (hd : ∀ H, Pv n H → Qd H) :
    ∃ W : Nat → Nat → Hp → Prop, (∃ m, W 0 m H1) ∧ ∀ i m H, W i m H →
      (J.stop i H ∧ Qd H) ∨ (J.go i H ∧ ∃ Nx : Hp → Prop, (∀ H', Nx H' → ∃ m', m' < m ∧ W (i + 1) m' H') ∧ ∀ x H', J.yld i H x H' → g x (wipe σ us) H' fun σ2 H2 => wipe σ2 us = wipe σ us ∧ tb σ2 H2 Nx) := by
  refine ⟨fun i m H => m = n - i ∧ i ≤ n ∧ Pv i H, ⟨n, by simp, Nat.zero_le _, h0⟩, fun i m H ⟨e, hi, p⟩ => ?_⟩
  subst e
  have q := hG i H hi p
  rcases Nat.lt_or_ge i n with hlt | hge
  · exact .inr ⟨w.goes i H hlt q, Pv (i + 1), fun H' p' => ⟨n - (i + 1), by omega, rfl, hlt, p'⟩, fun x H' y => hs i x H H' hlt p (w.yields i H x H' hlt q y)⟩
  · obtain rfl : i = n := Nat.le_antisymm hi hge
    exact .inl ⟨w.stops H q, hd H p⟩
end
section
variable {X : Cx} {G : Gh} {tg iter elt tg1 iter1 : Expr} {ifs ifs1 : List Expr} {pos : Pos} {vs vs1 : List Nat}
/-- one element of the inner loop -/
theorem inner_it {K : Fg} {Zb Z1 H1 : Hp} {O1 : Ow} {σ : L2.St} {L : Addr} {J : It} {items : List D} {g : WG} {t : WE Bool} {w : WE Rv} {P : List D → Ga → Prop} {H4 : Hp} {Qd : Hp → Prop} (hL0 : G.H0 L = none) (hPN : ¬ G.PN L) (hL : H1 L = none) (wd : WalkD K G.PN Zb J items)
    (c0 : CompJ K G Zb vs1 σ Z1 O1 H1 L (fun ds Γ => comp2I vs1 g t w items ds Γ P) H4) (hd : ∀ H, CompJ K G Zb vs1 σ Z1 O1 H1 L P H → Qd H) :
    ∃ W : Nat → Nat → Hp → Prop, (∃ m, W 0 m H4) ∧ ∀ i m H, W i m H →
      (J.stop i H ∧ Qd H) ∨ (J.go i H ∧ ∃ Nx : Hp → Prop, (∀ H', Nx H' → ∃ m', m' < m ∧ W (i + 1) m' H') ∧ ∀ x H', J.yld i H x H' → (∃ i, liftG K (G.wb i) vs1 g x (wipe σ vs1) H' fun σ3 H5 => wipe σ3 vs1 = wipe σ vs1 ∧ (∃ Zb, lift K (G.wb Zb) (fun _ _ _ _ (a b : Bool) => a = b) t σ3 H5 fun b H6 =>
        if b = true then (∃ Zb, lift K (G.wb Zb) (fun _ Z _ _ r v => RvR K G.PN Z r v) w σ3 H6 fun y H7 => ∃ acc, H7 L = some (.lst acc) ∧ acc.length < sizeLine ∧ Nx (upd H7 L (.lst (acc ++ [y])))) else Nx H6))) := by
  obtain ⟨Gp, Y, wk, hz, hG, hY⟩ := wd
  refine turns_it wk (g := fun v σ H Q => ∃ i, liftG K (G.wb i) vs1 g v σ H Q) (tb := fun σ3 H5 Nx => ∃ Zb, lift K (G.wb Zb) (fun _ _ _ _ (a b : Bool) => a = b) t σ3 H5 fun b H6 =>
        if b = true then (∃ Zb, lift K (G.wb Zb) (fun _ Z _ _ r v => RvR K G.PN Z r v) w σ3 H6 fun y H7 => ∃ acc, H7 L = some (.lst acc) ∧ acc.length < sizeLine ∧ Nx (upd H7 L (.lst (acc ++ [y])))) else Nx H6)
    (fun i H => CompJ K G Zb vs1 σ Z1 O1 H1 L (fun ds Γ => comp2I vs1 g t w (items.drop i) ds Γ P) H) (by simpa using c0) (fun i H _ ⟨Γ, Z, O, acc, ds, R, _⟩ => hG H (R.fB.trans R.sub)) ?_ (fun H c => hd H (by rw [List.drop_length] at c; exact c))
  rintro i x H H' hi ⟨Γ2, Z2, O2, acc, ds, R2, S2, hl, hzl, hol, hds, q2⟩ hy
  obtain ⟨d, Z3, hd', gr, hr⟩ := hY i H x H' Z2 R2.fB R2.ctx hy
  have hdrop : items.drop i = d :: items.drop (i + 1) := by
    obtain ⟨h1, h2⟩ := List.getElem?_eq_some_iff.mp hd'
    rw [← h2]; exact List.drop_eq_getElem_cons h1
  rw [hdrop] at q2
  have R3 := R2.grow gr
  have Sg : Step G.PN Z2 O2 H Z3 O2 H' := gr.step
  refine ⟨Zb, Γ2, Z3, O2, d, _, R3, hr, q2, fun Γ4 O4 σ4 p4 R4 z4 o4 => ⟨(z4 _ fun _ h => h).trans wipe_wipe, Zb, Γ4, Z3, O4, _, R4, p4, fun r Γ5 v Z5 O5 H5 p5 R5 S5 b5 => ?_⟩⟩
  subst b5
  have S4 : Step G.PN Z2 O2 H Z3 O4 H' := ⟨Sg.hH, Sg.hN, Sg.zZ, Sg.zN, fun a j h => Sg.oO a j (o4 a j h)⟩
  have S5' : Step G.PN Z2 O2 H Z5 O5 H5 := S4.trans S5
  cases r with
  | false =>
    refine iteF ?_
    obtain ⟨O6, R6, hO6⟩ := R5.wipeR vs1
    rw [z4 _ fun _ h => h] at R6
    obtain ⟨l1, l2, l3⟩ := S5'.keepL hl hzl hol hPN
    refine ⟨_, Z5, O6, acc, ds, by rw [← wipe_wipe]; exact R6, ?_, l1, l2, ?_, hds.mono S5'.zZ, p5⟩
    · have S6 := S2.trans S5'
      exact ⟨S6.hH, S6.hN, S6.zZ, S6.zN, fun a j h => S6.oO a j (hO6 a j h)⟩
    · cases e : O6 L with
      | none => rfl
      | some j => rw [hO6 L j e] at l3; cases l3
  | true =>
    refine iteT ⟨Zb, Γ5, Z5, O5, _, R5, p5, fun rv Γ7 v Z7 O7 H7 p7 R7 S7 b7 => ?_⟩
    have S8 : Step G.PN Z2 O2 H Z7 O7 H7 := S5'.trans S7
    obtain ⟨l1, l2, l3⟩ := S8.keepL hl hzl hol hPN
    have e1 := hds.length
    cases rv with
    | pen => exact p7.elim
    | dat dd =>
      obtain ⟨p6, p7⟩ := p7
      refine ⟨acc, l1, by rw [e1, ← line_is]; exact p6, ?_⟩
      obtain ⟨O9, R9, hO9⟩ := R7.wipeR vs1
      rw [z4 _ fun _ h => h] at R9
      have l9 : O9 L = none := by
        cases e : O9 L with
        | none => rfl
        | some j => rw [hO9 L j e] at l3; cases l3
      refine ⟨_, Z7, O9, acc ++ [v], ds ++ [dd], by rw [← wipe_wipe]; exact R9.updL l2 l9 hL0, ?_, upd_same, l2, l9, (hds.mono S8.zZ).snoc b7, p7⟩
      have S10 := S2.trans S8
      have S11 : Step G.PN Z1 O1 H1 Z7 O9 H7 := ⟨S10.hH, S10.hN, S10.zZ, S10.zN, fun a j h => S10.oO a j (hO9 a j h)⟩
      exact S11.updL hL
abbrev cX (X : Cx) (scope : Scope) (s : Shared) (H : Hp) (C : Addr) (cl : List (Str × Addr)) (fp : List Addr) : Cx := X.blk s H scope (compEnvC scope cl C X.env) fp
theorem comp2_of {wi : WE (List D)} {g : WG} {t : WE Bool} {wi1 : WE (List D)} {g1 : WG} {t1 : WE Bool} {w : WE Rv} (own : List (Str × Nat)) (hv : ∀ i ∈ vs, i ∈ own.map (·.2)) (hv1 : ∀ i ∈ vs1, i ∈ own.map (·.2)) {σ : L2.St} {H : Hp} {Q : VK} (h : lift X.K G (RzR X.K G) (wComp2 (own.map (·.2)) vs1 wi g t wi1 g1 t1 w) σ H Q) :
    tLc2 (liftI X.K G wi) (fun v σ H Q => ∃ i, liftG X.K (G.wb i) vs g v σ H Q) (fun σ H1 Q => ∃ Zb, lift X.K (G.wb Zb) (fun _ _ _ _ (a b : Bool) => a = b) t σ H1 Q) (fun σ H1 R => ∃ Zb, liftI X.K (G.wb Zb) wi1 σ H1 R) (fun v σ H Q => ∃ i, liftG X.K (G.wb i) vs1 g1 v σ H Q) (fun σ H1 Q => ∃ Zb, lift X.K (G.wb Zb) (fun _ _ _ _ (a b : Bool) => a = b) t1 σ H1 Q) (fun σ H Q => ∃ Zb, lift X.K (G.wb Zb) (fun _ Z _ _ r v => RvR X.K G.PN Z r v) w σ H Q) (own.map (·.2)) vs1 σ H Q := by
  obtain ⟨Γ, Z, O, P, R, ⟨hp, q⟩, k⟩ := h
  refine ⟨Γ, Z, O, _, R, q, fun items Γ1 J Z1 O1 H1 p1 R1 S1 ⟨Gp, Y, wk, hz, hG, hY⟩ L hL => ?_⟩
  have sB : Sub G.Zb Z1 := R1.fB
  have h0 : G.H0 L = none := R1.H0free hL
  have hPN : ¬ G.PN L := R1.pfree hL
  obtain ⟨Ow', Rw, hO⟩ := R1.wipeR (own.map (·.2))
  refine turns_it wk (σ := σ) (us := own.map (·.2)) (g := fun v σ H Q => ∃ i, liftG X.K (G.wb i) vs g v σ H Q) (tb := fun σ2 H2 Nx => ∃ Zb, lift X.K (G.wb Zb) (fun _ _ _ _ (a b : Bool) => a = b) t σ2 H2 fun b H3 =>
      if b = true then (∃ Zb, liftI X.K (G.wb Zb) wi1 σ2 H3 fun J1 H4 => ∃ W1 : Nat → Nat → Hp → Prop, (∃ m, W1 0 m H4) ∧ ∀ j k H, W1 j k H →
        (J1.stop j H ∧ Nx H) ∨ (J1.go j H ∧ ∃ Nx1 : Hp → Prop, (∀ H', Nx1 H' → ∃ k', k' < k ∧ W1 (j + 1) k' H') ∧ ∀ x H', J1.yld j H x H' → (∃ i, liftG X.K (G.wb i) vs1 g1 x (wipe σ2 vs1) H' fun σ3 H5 => wipe σ3 vs1 = wipe σ2 vs1 ∧ (∃ Zb, lift X.K (G.wb Zb) (fun _ _ _ _ (a b : Bool) => a = b) t1 σ3 H5 fun b H6 =>
          if b = true then (∃ Zb, lift X.K (G.wb Zb) (fun _ Z _ _ r v => RvR X.K G.PN Z r v) w σ3 H6 fun y H7 => ∃ acc, H7 L = some (.lst acc) ∧ acc.length < sizeLine ∧ Nx1 (upd H7 L (.lst (acc ++ [y])))) else Nx1 H6))))
      else Nx H3)
    (fun i H => CompJ X.K G Z1 (own.map (·.2)) σ Z1 O1 H1 L (fun ds Γ' => comp2W (own.map (·.2)) vs1 g t wi1 g1 t1 w (items.drop i) ds Γ' fun acc Γ2 => P (.ls acc) (backG Γ2 Γ (own.map (·.2)))) H) ?_ (fun i H _ ⟨Γ, Z, O, acc, ds, R, _⟩ => hG H (R.fB.trans R.sub)) ?_ ?_
  · exact ⟨_, Z1, Ow', [], [], (Rw.wb Sub.refl).updL (R1.sub.free hL) (Rw.ofree hL) h0, ⟨fun a u e n => by rw [upd_ne (fun q => by rw [q, hL] at e; cases e)]; exact e, fun a e => by
      by_cases q : a = L
      · rw [q]; exact hL
      · rw [upd_ne q] at e; exact e, Sub.refl, fun a e => .inl e, hO⟩, upd_same, R1.sub.free hL, Rw.ofree hL, .nil, by simpa using p1⟩
  · rintro i x H H' hi ⟨Γ2, Z2, O2, acc, ds, R2, S2, hl, hzl, hol, hds, q2⟩ hy
    obtain ⟨d, Z3, hd, gr, hr⟩ := hY i H x H' Z2 R2.fB R2.ctx hy
    have hdrop : items.drop i = d :: items.drop (i + 1) := by
      obtain ⟨h1, h2⟩ := List.getElem?_eq_some_iff.mp hd
      rw [← h2]; exact List.drop_eq_getElem_cons h1
    rw [hdrop] at q2
    have R3 := R2.grow gr
    have Sg : Step G.PN Z2 O2 H Z3 O2 H' := gr.step
    refine ⟨Z1, Γ2, Z3, O2, d, _, R3, hr, q2, fun Γ4 O4 σ4 p4 R4 z4 o4 => ⟨(z4 _ hv).trans wipe_wipe, Z1, Γ4, Z3, O4, _, R4, p4, fun r Γ5 v Z5 O5 H5 p5 R5 S5 b5 => ?_⟩⟩
    subst b5
    have S4 : Step G.PN Z2 O2 H Z3 O4 H' := ⟨Sg.hH, Sg.hN, Sg.zZ, Sg.zN, fun a j h => Sg.oO a j (o4 a j h)⟩
    have S5' : Step G.PN Z2 O2 H Z5 O5 H5 := S4.trans S5
    cases r with
    | false =>
      refine iteF ?_
      obtain ⟨O6, R6, hO6⟩ := R5.wipeR (own.map (·.2))
      rw [z4 _ hv] at R6
      obtain ⟨l1, l2, l3⟩ := S5'.keepL hl hzl hol hPN
      refine ⟨_, Z5, O6, acc, ds, by rw [← wipe_wipe]; exact R6, ?_, l1, l2, ?_, hds.mono S5'.zZ, p5⟩
      · have S6 := S2.trans S5'
        exact ⟨S6.hH, S6.hN, S6.zZ, S6.zN, fun a j h => S6.oO a j (hO6 a j h)⟩
      · cases e : O6 L with
        | none => rfl
        | some j => rw [hO6 L j e] at l3; cases l3
    | true =>
      refine iteT ⟨Z1, Γ5, Z5, O5, _, R5, p5, fun items1 Γ6 J1 Z6 O6 H6 p6 R6 S6 wd1 => ?_⟩
      have S7 : Step G.PN Z2 O2 H Z6 O6 H6 := S5'.trans S6
      obtain ⟨l1, l2, l3⟩ := S7.keepL hl hzl hol hPN
      obtain ⟨O7, R7, hO7⟩ := R6.wipeR vs1
      have l7 : O7 L = none := by
        cases e : O7 L with
        | none => rfl
        | some j => rw [hO7 L j e] at l3; cases l3
      have S8 := S2.trans S7
      refine inner_it (G := G) (σ := σ4) (Zb := Z6) (Z1 := Z1) (O1 := O1) (H1 := H1) h0 hPN hL wd1 ⟨_, Z6, O7, acc, ds, R7.wb Sub.refl, ⟨S8.hH, S8.hN, S8.zZ, S8.zN, fun a j h => S8.oO a j (hO7 a j h)⟩, l1, l2, l7, hds.mono S7.zZ, p6⟩ fun H8 ⟨Γ9, Z9, O9, acc9, ds9, R9, S9, m1, m2, m3, m4, q9⟩ => ?_
      obtain ⟨Oa, Ra, hOa⟩ := R9.wipeR (own.map (·.2))
      rw [wipe_sub vs1 hv1, z4 _ hv, wipe_wipe] at Ra
      refine ⟨_, Z9, Oa, acc9, ds9, Ra.wb S9.zZ, ⟨S9.hH, S9.hN, S9.zZ, S9.zN, fun a j h => S9.oO a j (hOa a j h)⟩, m1, m2, ?_, m4, q9⟩
      cases e : Oa L with
      | none => rfl
      | some j => rw [hOa L j e] at m3; cases m3
  · rintro H ⟨Γ2, Z2, O2, acc, ds, R2, S2, hl, hzl, hol, hds, q2⟩
    rw [List.drop_length] at q2
    exact k _ _ _ _ _ _ q2 (Rel.back R ((S1.trans S2).zZ) (R2.unwb sB) hp) (S1.trans S2) ⟨L, acc, rfl, ⟨S1.hN L hL, hzl, hol⟩, hl, hds⟩
theorem az_comp2 {wi : WE (List D)} {g : WG} {t : WE Bool} {wi1 : WE (List D)} {g1 : WG} {t1 : WE Bool} {w : WE Rv} {scope : Scope} (own : List (Str × Nat)) (hN : X.N.Nodup) (hi : AI X G tg iter wi) (ok : BlkOk X.N X.env.scope scope own)
    (hg : ∀ (Zb : Hp) (s : Shared) (H : Hp) (C : Addr) (cl : List (Str × Addr)) (fp : List Addr), AG (cX X scope s H C cl fp) (G.wb Zb) tg vs g)
    (ht : ∀ (Zb : Hp) (s : Shared) (H : Hp) (C : Addr) (cl : List (Str × Addr)) (fp : List Addr), ATs (cX X scope s H C cl fp) (G.wb Zb) ifs t)
    (hi1 : ∀ (Zb : Hp) (s : Shared) (H : Hp) (C : Addr) (cl : List (Str × Addr)) (fp : List Addr), AI (cX X scope s H C cl fp) (G.wb Zb) tg1 iter1 wi1)
    (hg1 : ∀ (Zb : Hp) (s : Shared) (H : Hp) (C : Addr) (cl : List (Str × Addr)) (fp : List Addr), AG (cX X scope s H C cl fp) (G.wb Zb) tg1 vs1 g1)
    (ht1 : ∀ (Zb : Hp) (s : Shared) (H : Hp) (C : Addr) (cl : List (Str × Addr)) (fp : List Addr), ATs (cX X scope s H C cl fp) (G.wb Zb) ifs1 t1)
    (he : ∀ (Zb : Hp) (s : Shared) (H : Hp) (C : Addr) (cl : List (Str × Addr)) (fp : List Addr), AE (cX X scope s H C cl fp) (G.wb Zb) elt w)
    (hv : ∀ i ∈ vs, i ∈ own.map (·.2) := by decide) (hv1 : ∀ i ∈ vs1, i ∈ own.map (·.2) := by decide) (hc : X.calm = true := by rfl) (hs : ∀ x, foldedSetIterable iter X.env x = pure x := by intro _; rfl) (hs1 : ∀ env x, foldedSetIterable iter1 env x = pure x := by intro _ _; rfl) :
    AZ X G (.ListComp elt [⟨tg, iter, ifs, 0⟩, ⟨tg1, iter1, ifs1, 0⟩] scope pos) (wComp2 (own.map (·.2)) vs1 wi g t wi1 g1 t1 w) := by
  have exTs : ∀ (s : Shared) (H : Hp) (C : Addr) (cl : List (Str × Addr)) (fp : List Addr), PTs (cX X scope s H C cl fp) ifs (fun σ H1 Q => ∃ Zb, lift X.K (G.wb Zb) (fun _ _ _ _ (a b : Bool) => a = b) t σ H1 Q) := fun s H C cl fp => ⟨fun pins s1 σ H1 Q I ⟨Zb, q⟩ => (ht Zb s H C cl fp).run pins s1 σ H1 Q I q⟩
  have exTs1 : ∀ (s : Shared) (H : Hp) (C : Addr) (cl : List (Str × Addr)) (fp : List Addr), PTs (cX X scope s H C cl fp) ifs1 (fun σ H1 Q => ∃ Zb, lift X.K (G.wb Zb) (fun _ _ _ _ (a b : Bool) => a = b) t1 σ H1 Q) := fun s H C cl fp => ⟨fun pins s1 σ H1 Q I ⟨Zb, q⟩ => (ht1 Zb s H C cl fp).run pins s1 σ H1 Q I q⟩
  have exI1 : ∀ (s : Shared) (H : Hp) (C : Addr) (cl : List (Str × Addr)) (fp : List Addr), PI (cX X scope s H C cl fp) tg1 iter1 (fun σ H1 R => ∃ Zb, liftI X.K (G.wb Zb) wi1 σ H1 R) := fun s H C cl fp => ⟨fun pins s1 σ H1 R I ⟨Zb, q⟩ => (hi1 Zb s H C cl fp).run pins s1 σ H1 R I q⟩
  refine PEi (pe_lc2 (vs1 := vs1) hc hN hi ok hv1 (fun s H C cl fp => exG (t := fun Zb => liftG X.K (G.wb Zb) vs g) fun Zb => hg Zb s H C cl fp) exTs exI1 (fun s H C cl fp => exG (t := fun Zb => liftG X.K (G.wb Zb) vs1 g1) fun Zb => hg1 Zb s H C cl fp) exTs1
    (fun s H C cl fp => exE (t := fun Zb => lift X.K (G.wb Zb) (fun _ Z _ _ r v => RvR X.K G.PN Z r v) w) fun Zb => he Zb s H C cl fp) hs hs1) fun σ H Q h => comp2_of own hv hv1 h
end
end VL
namespace VL
open PySem PySem.Spec PyProof.Rows L2
/-! ### abs, sum of ints -/
section
variable {K : Fg}
def sAbs : SemN := fun ds P => match ds with
  | [.int i] => P (.v (.dat (.int (if i < 0 then -i else i))))
  | _ => False
abbrev rAbs : List V → Hp → VK → Prop := fun xs H Q => ∃ i, xs = [.int i] ∧ Q (.int (if i < 0 then -i else i)) H
theorem p_abs : PureN K rAbs sAbs := by
  intro PN Z H xs ds P Q Cx b s k
  unfold sAbs at s
  split at s
  · obtain ⟨v, rfl, b1⟩ := b.one
    obtain rfl := b1.intI
    exact ⟨_, rfl, keepS Cx k s (.int _)⟩
  · exact s.elim
def sSum : SemN := fun ds P => match ds with
  | [.list xs] => ∃ ns : List Int, xs = ns.map PyData.int ∧ P (.v (.dat (.int ns.sum)))
  | _ => False
theorem p_sum : PureN K (rSum K) sSum := by
  intro PN Z H xs ds P Q Cx b s k
  unfold sSum at s
  split at s
  · obtain ⟨ns, rfl, s⟩ := s
    obtain ⟨v, rfl, bb⟩ := b.one
    obtain ⟨a, vs, rfl, h, t⟩ := bb.listI Cx.sub
    obtain rfl := t.intsI
    exact ⟨a, ns, rfl, SqL.of h, keepS Cx k s (.int _)⟩
  · exact s.elim
end
section
variable {X : Cx} {G : Gh} {pos : Pos}
/-- {}: keys ints and texts -/
def wNewK : WE Rz := fun Γ P => P (.dk []) Γ
theorem az_newK : AZ X G (.Dict [] [] pos) wNewK := PEi pe_dnewK fun σ H Q ⟨Γ, Z, O, P, R, w, k⟩ p hp => by
  have g := Grow.new' (o := .dK []) R.sub hp
  exact k _ _ _ _ _ _ w (R.grow g) g.step ((show RzN X.K H Z _ (.dk []) _ from ⟨p, [], rfl, hp, R.sub.free hp, upd_same, .nil⟩).up R fun _ h => h)
/-- {}: keys tuples -/
def wNewT : WE Rz := fun Γ P => P (.dt []) Γ
theorem az_newT : AZ X G (.Dict [] [] pos) wNewT := PEi pe_dnewX fun σ H Q ⟨Γ, Z, O, P, R, w, k⟩ p hp => by
  have g := Grow.new' (o := dXo p []) R.sub hp
  exact k _ _ _ _ _ _ w (R.grow g) g.step ((show RzN X.K H Z _ (.dt []) _ from ⟨p, [], rfl, hp, R.sub.free hp, upd_same, .nil⟩).up R fun _ h => h)
end
end VL
/-! Plain functions over data (F) and why the transformers (W) are implied by them. -/
namespace VL
open PySem PySem.Spec PyProof.Rows L2
noncomputable section
/-! by recursors alone: so the kernel is quick at them -/
def bcs {α : Type} (b : Bool) (t e : α) : α := @Bool.rec (fun _ => α) e t b
def dcs {α : Type} (n : α) (b : Bool → α) (i : Int → α) (s : Str → α) (l t : List D → α) (k : List (D × D) → α) (d : D) : α := @PyData.rec (fun _ => α) (fun _ => PUnit) (fun _ => PUnit) (fun _ => PUnit) n b i s (fun xs _ => l xs) (fun xs _ => t xs) (fun kvs _ => k kvs) ⟨⟩ (fun _ _ _ _ => ⟨⟩) ⟨⟩ (fun _ _ _ _ => ⟨⟩) (fun _ _ _ _ => ⟨⟩) d
/-- for an int alone -/
def dci {α : Type} (z : α) (i : Int → α) (d : D) : α := @PyData.rec (fun _ => α) (fun _ => PUnit) (fun _ => PUnit) (fun _ => PUnit) z (fun _ => z) i (fun _ => z) (fun _ _ => z) (fun _ _ => z) (fun _ _ => z) ⟨⟩ (fun _ _ _ _ => ⟨⟩) ⟨⟩ (fun _ _ _ _ => ⟨⟩) (fun _ _ _ _ => ⟨⟩) d
def dcb {α : Type} (z : α) (b : Bool → α) (d : D) : α := @PyData.rec (fun _ => α) (fun _ => PUnit) (fun _ => PUnit) (fun _ => PUnit) z b (fun _ => z) (fun _ => z) (fun _ _ => z) (fun _ _ => z) (fun _ _ => z) ⟨⟩ (fun _ _ _ _ => ⟨⟩) ⟨⟩ (fun _ _ _ _ => ⟨⟩) (fun _ _ _ _ => ⟨⟩) d
def lcs {κ α : Type} (n : α) (c : κ → List κ → α) (l : List κ) : α := @List.rec κ (fun _ => α) n (fun x r _ => c x r) l
theorem bcs_is {α : Type} (b : Bool) (t e : α) : bcs b t e = if b = true then t else e := by cases b <;> rfl
inductive Out (α : Type) where
  | ok (a : α) | er (e : Exc) | bad
inductive So (S L : Type) where
  | nx (s : S) | rt (d : D) | bk (l : L) | ct (l : L) | er (e : Exc) | bad
namespace Out
variable {α β γ S L : Type}
def bind (t : Out α) (k : α → Out β) : Out β := @Out.rec α (fun _ => Out β) k Out.er Out.bad t
def post (t : Out α) (P : α → Prop) (X : Exc → Prop) : Prop := match t with | ok a => P a | er e => X e | bad => False
def so (t : Out α) (k : α → So S L) : So S L := @Out.rec α (fun _ => So S L) k So.er So.bad t
@[simp] theorem ok_bind (a : α) (k : α → Out β) : (ok a).bind k = k a := rfl
@[simp] theorem er_bind (e : Exc) (k : α → Out β) : (er e : Out α).bind k = er e := rfl
@[simp] theorem bad_bind (k : α → Out β) : (bad : Out α).bind k = bad := rfl
@[simp] theorem ok_so (a : α) (k : α → So S L) : (ok a).so k = k a := rfl
@[simp] theorem er_so (e : Exc) (k : α → So S L) : (er e : Out α).so k = .er e := rfl
@[simp] theorem bad_so (k : α → So S L) : (bad : Out α).so k = .bad := rfl
theorem bind_assoc (t : Out α) (k : α → Out β) (l : β → Out γ) : (t.bind k).bind l = t.bind fun a => (k a).bind l := by cases t <;> rfl
theorem bind_so (t : Out α) (k : α → Out β) (l : β → So S L) : (t.bind k).so l = t.so fun a => (k a).so l := by cases t <;> rfl
theorem post_bind {t : Out α} {k : α → Out β} {P : β → Prop} {X : Exc → Prop} (h : (t.bind k).post P X) : t.post (fun a => (k a).post P X) X := by cases t <;> exact h
theorem post.mono {t : Out α} {P P' : α → Prop} {X X' : Exc → Prop} (h : t.post P X) (i : ∀ a, P a → P' a) (j : ∀ e, X e → X' e) : t.post P' X' := by
  cases t with
  | ok a => exact i _ h
  | er e => exact j _ h
  | bad => exact h
theorem post.imp {t : Out α} {P P' : α → Prop} {X : Exc → Prop} (h : t.post P X) (i : ∀ a, P a → P' a) : t.post P' X := h.mono i fun _ q => q
@[simp] theorem bind_ite {c : Prop} [Decidable c] (a b : Out α) (k : α → Out β) : (if c then a else b).bind k = if c then a.bind k else b.bind k := by split <;> rfl
@[simp] theorem so_ite {c : Prop} [Decidable c] (a b : Out α) (k : α → So S L) : (if c then a else b).so k = if c then a.so k else b.so k := by split <;> rfl
end Out
namespace So
variable {S S' S'' L M : Type}
def seq (t : So S L) (k : S → So S' L) : So S' L := @So.rec S L (fun _ => So S' L) k So.rt So.bk So.ct So.er So.bad t
@[simp] theorem nx_seq (s : S) (k : S → So S' L) : (nx s : So S L).seq k = k s := rfl
@[simp] theorem rt_seq (d : D) (k : S → So S' L) : (rt d : So S L).seq k = rt d := rfl
@[simp] theorem bk_seq (l : L) (k : S → So S' L) : (bk l : So S L).seq k = bk l := rfl
@[simp] theorem ct_seq (l : L) (k : S → So S' L) : (ct l : So S L).seq k = ct l := rfl
@[simp] theorem er_seq (e : Exc) (k : S → So S' L) : (er e : So S L).seq k = er e := rfl
@[simp] theorem bad_seq (k : S → So S' L) : (bad : So S L).seq k = bad := rfl
@[simp] theorem seq_ite {c : Prop} [Decidable c] (a b : So S L) (k : S → So S' L) : (if c then a else b).seq k = if c then a.seq k else b.seq k := by split <;> rfl
theorem so_seq {α : Type} (t : Out α) (k : α → So S L) (l : S → So S' L) : (t.so k).seq l = t.so fun a => (k a).seq l := by cases t <;> rfl
theorem seq_seq (t : So S L) (k : S → So S' L) (l : S' → So S'' L) : (t.seq k).seq l = t.seq fun s => (k s).seq l := by cases t <;> rfl
/-- what a def hands back -/
def fin (t : So Unit Unit) : Out D := @So.rec Unit Unit (fun _ => Out D) (fun _ => .ok .none) .ok (fun _ => .bad) (fun _ => .bad) .er .bad t
@[simp] theorem fin_nx (u : Unit) : (nx u : So Unit Unit).fin = .ok .none := rfl
@[simp] theorem fin_rt (d : D) : (rt d : So Unit Unit).fin = .ok d := rfl
@[simp] theorem fin_er (e : Exc) : (er e : So Unit Unit).fin = .er e := rfl
@[simp] theorem fin_bad : (bad : So Unit Unit).fin = .bad := rfl
@[simp] theorem fin_ite {c : Prop} [Decidable c] (a b : So Unit Unit) : (if c then a else b).fin = if c then a.fin else b.fin := by split <;> rfl
def tryO (t : So S L) (h : Exc → So S L) : So S L := match t with | er e => h e | t => t
@[simp] theorem try_er (e : Exc) (h : Exc → So S L) : (er e : So S L).tryO h = h e := rfl
@[simp] theorem try_nx (s : S) (h : Exc → So S L) : (nx s : So S L).tryO h = nx s := rfl
@[simp] theorem try_rt (s : D) (h : Exc → So S L) : (rt s : So S L).tryO h = rt s := rfl
@[simp] theorem try_bad (h : Exc → So S L) : (bad : So S L).tryO h = bad := rfl
end So
variable {α β γ S S' L M ρ : Type}
def forO (f : L → D → So L L) (ds : List D) : L → So L M := @List.rec D (fun _ => L → So L M) So.nx (fun d _ ih l => @So.rec L L (fun _ => So L M) ih So.rt So.nx ih So.er So.bad (f l d)) ds
theorem forO_cons (f : L → D → So L L) (d : D) (r : List D) (l : L) : (forO f (d :: r) l : So L M) = match f l d with
    | .nx l' => forO f r l'
    | .ct l' => forO f r l'
    | .bk l' => .nx l'
    | .rt d => .rt d
    | .er e => .er e
    | .bad => .bad := by
  show @So.rec L L (fun _ => So L M) _ _ _ _ _ _ (f l d) = _
  cases f l d <;> rfl
@[simp] theorem forO_nil (f : L → D → So L L) (l : L) : (forO f [] l : So L M) = .nx l := rfl
def whileO (c : L → Out Bool) (f : L → So L L) : Nat → L → So L M
  | 0, _ => .bad
  | n + 1, l => (c l).so fun b => if b = true then match f l with
    | .nx l' => whileO c f n l'
    | .ct l' => whileO c f n l'
    | .bk l' => .nx l'
    | .rt d => .rt d
    | .er e => .er e
    | .bad => .bad
  else .nx l
def compO (tg : D → Out β) (t : β → Out Bool) (f : β → Out D) (ds : List D) : Out (List D) := @List.rec D (fun _ => Out (List D)) (.ok []) (fun d _ ih => (tg d).bind fun b => (t b).bind fun k => bcs k ((f b).bind fun e => ih.bind fun es => .ok (e :: es)) ih) ds
theorem compO_cons (tg : D → Out β) (t : β → Out Bool) (f : β → Out D) (d : D) (r : List D) : compO tg t f (d :: r) = (tg d).bind fun b => (t b).bind fun k => if k = true then (f b).bind fun e => (compO tg t f r).bind fun es => .ok (e :: es) else compO tg t f r := by
  show ((tg d).bind fun b => (t b).bind fun k => bcs k ((f b).bind fun e => (compO tg t f r).bind fun es => .ok (e :: es)) (compO tg t f r)) = _
  exact congrArg (tg d).bind (funext fun b => congrArg (t b).bind (funext fun k => bcs_is ..))

/-! ### what may be drawn -/
abbrev Pn (α : Type) := Nat → (α → Nat → Prop) → Prop
def Pn.ret (a : α) : Pn α := fun c P => P a c
def Pn.bind (t : Pn α) (k : α → Pn β) : Pn β := fun c P => t c fun a c' => k a c' P
def Pn.lift (t : Out α) : Pn α := fun c P => t.post (fun a => P a c) fun _ => False
def Pn.seq (t : Pn (So S L)) (k : S → Pn (So S' L)) : Pn (So S' L) := fun c P => t c fun v c' => match v with
  | .nx s => k s c' P
  | .rt d => P (.rt d) c'
  | .bk l => P (.bk l) c'
  | .ct l => P (.ct l) c'
  | .er e => P (.er e) c'
  | .bad => False
def Pn.fin (t : Pn (So Unit Unit)) : Pn D := fun c P => t c fun v c' => match v with
  | .nx _ => P .none c'
  | .rt d => P d c'
  | _ => False
def forP (f : L → D → Pn (So L L)) : List D → L → Pn (So L M)
  | [], l => fun c P => P (.nx l) c
  | d :: r, l => fun c P => f l d c fun v c' => match v with
    | .nx l' => forP f r l' c' P
    | .ct l' => forP f r l' c' P
    | .bk l' => P (.nx l') c'
    | .rt d => P (.rt d) c'
    | .er e => P (.er e) c'
    | .bad => False
def compP (tg : D → Out β) (t : β → Pn Bool) (f : β → Pn D) : List D → Pn (List D)
  | [] => fun c P => P [] c
  | d :: r => fun c P => (tg d).post (fun b => t b c fun k c' => if k = true then f b c' fun e c'' => compP tg t f r c'' fun es => P (e :: es) else compP tg t f r c' P) fun _ => False
def drawP (m : D) : Pn D := fun c P => match m with
  | .int many => 0 < many ∧ many < 1073741824 ∧ c < 2 ^ 50 ∧ ∀ r : Int, 0 ≤ r → r < many → P (.int r) (c + 1)
  | _ => False

/-! ### judgements -/
def RO (w : WE ρ) (s s' : List Sl) (t : Out α) (em : α → ρ) (X : Exc → Nat → Prop) : Prop := ∀ (c : Nat) (P : ρ → Ga → Prop), t.post (fun a => P (em a) ⟨s', c⟩) (X · c) → w ⟨s, c⟩ P
def PO (w : WE ρ) (s s' : List Sl) (t : Pn α) (em : α → ρ) : Prop := ∀ (c : Nat) (Q : α → Nat → Prop) (P : ρ → Ga → Prop), t c Q → (∀ a c', Q a c' → P (em a) ⟨s', c'⟩) → w ⟨s, c⟩ P
/-- a new object of which only the datum counts -/
def ROz (w : WE Rz) (s s' : List Sl) (t : Out D) (X : Exc → Nat → Prop) : Prop := ∀ (c : Nat) (P : Rz → Ga → Prop), t.post (fun a => ∀ z : Rz, z.rv = .dat a → P z ⟨s', c⟩) (X · c) → w ⟨s, c⟩ P
def POz (w : WE Rz) (s s' : List Sl) (t : Pn D) : Prop := ∀ (c : Nat) (Q : D → Nat → Prop) (P : Rz → Ga → Prop), t c Q → (∀ a c', Q a c' → ∀ z : Rz, z.rv = .dat a → P z ⟨s', c'⟩) → w ⟨s, c⟩ P
structure Jx (S L : Type) where
  nx : S → List Sl → Prop
  lp : L → List Sl → Prop
def So.post (t : So S L) (E : En) (J : Jx S L) (X : Exc → Nat → Prop) (c : Nat) : Prop := match t with
  | .nx x => ∀ s, J.nx x s → E.nx ⟨s, c⟩
  | .rt d => ∀ s, E.rt (.dat d) ⟨s, c⟩
  | .bk l => ∀ s, J.lp l s → E.bk ⟨s, c⟩
  | .ct l => ∀ s, J.lp l s → E.ct ⟨s, c⟩
  | .er e => X e c
  | .bad => False
def RS (w : WS) (s : List Sl) (t : So S L) (J : Jx S L) (X : Exc → Nat → Prop) : Prop := ∀ (E : En) (c : Nat), t.post E J X c → w E ⟨s, c⟩
def PSj (w : WS) (s : List Sl) (t : Pn (So S L)) (J : Jx S L) (X : Exc → Nat → Prop) : Prop := ∀ (E : En) (c : Nat) (Q : So S L → Nat → Prop), t c Q → (∀ v c', Q v c' → v.post E J X c') → w E ⟨s, c⟩
def RG (g : WG) (s : List Sl) (t : D → Out β) (s' : β → List Sl) : Prop := ∀ (d : D) (c : Nat) (P : Ga → Prop), (t d).post (fun b => P ⟨s' b, c⟩) (fun _ => False) → g d ⟨s, c⟩ P
def RGs (g : WGs) (s : List Sl) (t : List D → Out β) (s' : β → List Sl) : Prop := ∀ (d : List D) (c : Nat) (P : Ga → Prop), (t d).post (fun b => P ⟨s' b, c⟩) (fun _ => False) → g d ⟨s, c⟩ P

section
variable {s s0 s1 s2 s3 : List Sl} {X : Exc → Nat → Prop}
theorem RO.po {w : WE ρ} {t : Out α} {em : α → ρ} (h : RO w s s1 t em fun _ _ => False) : PO w s s1 (Pn.lift t) em := fun c Q P q k => h c P (q.imp fun a z => k a c z)
theorem ROz.po {w : WE Rz} {t : Out D} (h : ROz w s s1 t fun _ _ => False) : POz w s s1 (Pn.lift t) := fun c Q P q k => h c P (q.imp fun a z => k a c z)
/-! expressions -/
theorem r_C {d : D} : RO (wC (.dat d)) s s (.ok d) .dat X := fun _ _ h => h
theorem r_name {i : Nat} {d : D} (h : s.getD i .no = .rv (.dat d)) : RO (wName i) s s (.ok d) .dat X := fun c P q => by
  unfold wName; show (match s.getD i .no with | .rv r => _ | .lst ds => _ | _ => _); rw [h]; exact q
theorem r_pen {i : Nat} (h : s.getD i .no = .rv .pen) : RO (wName i) s s (.ok ()) (fun _ => .pen) X := fun c P q => by
  unfold wName; show (match s.getD i .no with | .rv r => _ | .lst ds => _ | _ => _); rw [h]; exact q
theorem r_nameL {i : Nat} {ds : List D} (h : s.getD i .no = .lst ds) (e : s.set i (.rv (.dat (.list ds))) = s1) : RO (wName i) s s1 (.ok (.list ds)) .dat X := fun c P q => by
  subst e
  unfold wName; show (match s.getD i .no with | .rv r => _ | .lst ds => _ | _ => _); rw [h]; exact q
def dkD (kvs : List (Key × D)) : D := .dict (kvs.map fun p => (keyD p.1, p.2))
def dtD (kvs : List (List Key × D)) : D := .dict (kvs.map fun p => (tupD p.1, p.2))
theorem r_nameB {i : Nat} {d : D} (h : s.getD i .no = .rv (.dat d)) : RO (wNameB i) s s (.ok d) id X := fun c P q => by
  unfold wNameB; show (match s.getD i .no with | .rv (.dat r) => _ | .lst ds => _ | .dk kvs => _ | .dt kvs => _ | _ => _); rw [h]; exact q
theorem r_nameBL {i : Nat} {ds : List D} (h : s.getD i .no = .lst ds) : RO (wNameB i) s s (.ok (.list ds)) id X := fun c P q => by
  unfold wNameB; show (match s.getD i .no with | .rv (.dat r) => _ | .lst ds => _ | .dk kvs => _ | .dt kvs => _ | _ => _); rw [h]; exact q
theorem r_nameBK {i : Nat} {ds : List (Key × D)} (h : s.getD i .no = .dk ds) : RO (wNameB i) s s (.ok (dkD ds)) id X := fun c P q => by
  unfold wNameB; show (match s.getD i .no with | .rv (.dat r) => _ | .lst ds => _ | .dk kvs => _ | .dt kvs => _ | _ => _); rw [h]; exact q
theorem r_nameBT {i : Nat} {ds : List (List Key × D)} (h : s.getD i .no = .dt ds) : RO (wNameB i) s s (.ok (dtD ds)) id X := fun c P q => by
  unfold wNameB; show (match s.getD i .no with | .rv (.dat r) => _ | .lst ds => _ | .dk kvs => _ | .dt kvs => _ | _ => _); rw [h]; exact q
theorem r_dat {w : WE Rv} {t : Out D} (h : RO w s s1 t .dat X) : RO (wDat w) s s1 t id X := fun c P q => h c _ q
theorem r_frz {w : WE Rz} {t : Out D} (h : ROz w s s1 t X) : RO (wFrz w) s s1 t .dat X := fun c P q => h c _ (q.imp fun a p z e => by rw [e]; exact p)
theorem r_z {w : WE Rv} {t : Out D} (h : RO w s s1 t .dat X) : ROz (wZ w) s s1 t X := fun c P q => h c _ (q.imp fun a p => p _ rfl)
/-- .. a list of the body's own, where only the datum counts -/
theorem r_lz {w : WE Rz} {t : Out (List D)} (h : RO w s s1 t .ls X) : ROz w s s1 (t.bind fun ds => .ok (.list ds)) X := fun c P q => h c _ ((Out.post_bind q).imp fun a p => p _ rfl)
theorem r_kz {w : WE Rz} {t : Out (List (Key × D))} (h : RO w s s1 t .dk X) : ROz w s s1 (t.bind fun ds => .ok (dkD ds)) X := fun c P q => h c _ ((Out.post_bind q).imp fun a p => p _ rfl)
theorem r_tz {w : WE Rz} {t : Out (List (List Key × D))} (h : RO w s s1 t .dt X) : ROz w s s1 (t.bind fun ds => .ok (dtD ds)) X := fun c P q => h c _ ((Out.post_bind q).imp fun a p => p _ rfl)
def dBool (d : D) : Out Bool := dcb .bad Out.ok d
theorem dBool_def (d : D) : dBool d = match d with | .bool b => .ok b | _ => .bad := by cases d <;> rfl
@[simp] theorem dBool_b (b : Bool) : dBool (.bool b) = .ok b := rfl
theorem rv_bool {z : Rz} {b : Bool} (h : z.rv = .dat (.bool b)) : z = .v (.dat (.bool b)) := by
  cases z <;> simp [Rz.rv] at h
  rw [h]
theorem r_bool {w : WE Rz} {t : Out D} (h : ROz w s s1 t X) : RO (wBool w) s s1 (t.bind dBool) id X := fun c P q => h c _ ((Out.post_bind q).imp fun a p z e => by
  cases a with
  | bool b => obtain rfl := rv_bool e; exact p
  | _ => exact p.elim)
theorem r_yes : RO wYes s s (.ok true) id X := fun _ _ h => h
theorem r_nil {ρ : Type} : RO (wNil : WE (List ρ)) s s (.ok ()) (fun _ => []) X := fun _ _ h => h
theorem r_cons {ρ : Type} {w : WE ρ} {ws : WE (List ρ)} {t : Out α} {u : Out β} {em : α → ρ} {es : β → List ρ} (h : RO w s s1 t em X) (hs : RO ws s1 s2 u es X) :
    RO (wCons w ws) s s2 (t.bind fun a => u.bind fun b => .ok (a, b)) (fun p => em p.1 :: es p.2) X := fun c P q => h c _ ((Out.post_bind q).imp fun a p => hs c _ ((Out.post_bind p).imp fun b p => p))
theorem dats_dats {ds : List D} {k : List D → Prop} (h : k ds) : dats (ds.map .dat) k := by
  induction ds generalizing k with
  | nil => exact h
  | cons d r ih => exact ih (k := fun ds => k (d :: ds)) h
/-- argument lists of data -/
def oCons (t : Out D) (u : Out (List D)) : Out (List D) := t.bind fun a => u.bind fun b => .ok (a :: b)
@[simp] theorem oCons_ok (a : D) (b : List D) : oCons (.ok a) (.ok b) = .ok (a :: b) := rfl
theorem r_dnil : RO (wNil : WE (List Rv)) s s (.ok []) (List.map .dat) X := fun _ _ h => h
theorem r_dcons {w : WE Rv} {ws : WE (List Rv)} {t : Out D} {u : Out (List D)} (h : RO w s s1 t .dat X) (hs : RO ws s1 s2 u (List.map .dat) X) :
    RO (wCons w ws) s s2 (oCons t u) (List.map .dat) X := fun c P q => h c _ ((Out.post_bind q).imp fun a p => hs c _ ((Out.post_bind p).imp fun b p => p))
theorem r_bnil : RO (wNil : WE (List D)) s s (.ok []) id X := fun _ _ h => h
theorem r_bcons {w : WE D} {ws : WE (List D)} {t : Out D} {u : Out (List D)} (h : RO w s s1 t id X) (hs : RO ws s1 s2 u id X) :
    RO (wCons w ws) s s2 (oCons t u) id X := fun c P q => h c _ ((Out.post_bind q).imp fun a p => hs c _ ((Out.post_bind p).imp fun b p => p))
theorem r_tup {ws : WE (List Rv)} {t : Out (List D)} (h : RO ws s s1 t (List.map .dat) X) : RO (wTup ws) s s1 (t.bind fun ds => .ok (.tuple ds)) .dat X := fun c P q => h c _ ((Out.post_bind q).imp fun a p => dats_dats p)
theorem r_lst {ws : WE (List Rv)} {t : Out (List D)} (h : RO ws s s1 t (List.map .dat) X) : RO (wLst ws) s s1 t .ls X := fun c P q => h c _ (q.imp fun a p => dats_dats p)
/-! operators -/
def S2 (sem : Sem2) (op : D → D → Out D) : Prop := ∀ d e P, (op d e).post (fun r => ∀ z : Rz, z.rv = .dat r → P z) (fun _ => False) → sem d e P
def S2l (sem : Sem2) (op : D → D → Out (List D)) : Prop := ∀ d e P, (op d e).post (fun r => P (.ls r)) (fun _ => False) → sem d e P
def S1 (sem : D → (Rz → Prop) → Prop) (op : D → Out D) : Prop := ∀ d P, (op d).post (fun r => ∀ z : Rz, z.rv = .dat r → P z) (fun _ => False) → sem d P
def SN (sem : SemN) (op : List D → Out D) : Prop := ∀ d P, (op d).post (fun r => ∀ z : Rz, z.rv = .dat r → P z) (fun _ => False) → sem d P
def SNl (sem : SemN) (op : List D → Out (List D)) : Prop := ∀ d P, (op d).post (fun r => P (.ls r)) (fun _ => False) → sem d P
def Out.noer (t : Out α) : Out α := @Out.rec α (fun _ => Out α) Out.ok (fun _ => .bad) .bad t
def o2 (op : D → D → Out α) (t u : Out D) : Out α := t.bind fun a => u.bind fun b => (op a b).noer
@[simp] theorem noer_ok (a : α) : (Out.ok a).noer = .ok a := rfl
@[simp] theorem noer_bad : (Out.bad : Out α).noer = .bad := rfl
@[simp] theorem noer_ite {c : Prop} [Decidable c] (a b : Out α) : (if c then a else b).noer = if c then a.noer else b.noer := by split <;> rfl
theorem noer_post {t : Out α} {P : α → Prop} {X : Exc → Prop} (h : t.noer.post P X) : t.post P fun _ => False := by cases t <;> exact h
def o1 (op : D → Out α) (t : Out D) : Out α := t.bind fun a => (op a).noer
def oN (op : List D → Out α) (t : Out (List D)) : Out α := t.bind fun a => (op a).noer
@[simp] theorem o2_ok (op : D → D → Out α) (a b : D) : o2 op (.ok a) (.ok b) = (op a b).noer := rfl
@[simp] theorem o1_ok (op : D → Out α) (a : D) : o1 op (.ok a) = (op a).noer := rfl
@[simp] theorem oN_ok (op : List D → Out α) (a : List D) : oN op (.ok a) = (op a).noer := rfl
theorem r_2 {sem : Sem2} {op : D → D → Out D} {wa wb : WE D} {t u : Out D} (ho : S2 sem op) (ha : RO wa s s1 t id X) (hb : RO wb s1 s2 u id X) : ROz (w2 sem wa wb) s s2 (o2 op t u) X := fun c P q =>
  ha c _ ((Out.post_bind q).imp fun a p => hb c _ ((Out.post_bind p).imp fun b p => ho _ _ _ (noer_post p)))
theorem r_2l {sem : Sem2} {op : D → D → Out (List D)} {wa wb : WE D} {t u : Out D} (ho : S2l sem op) (ha : RO wa s s1 t id X) (hb : RO wb s1 s2 u id X) : RO (w2 sem wa wb) s s2 (o2 op t u) .ls X := fun c P q =>
  ha c _ ((Out.post_bind q).imp fun a p => hb c _ ((Out.post_bind p).imp fun b p => ho _ _ _ (noer_post p)))
theorem r_1 {sem : D → (Rz → Prop) → Prop} {op : D → Out D} {wa : WE D} {t : Out D} (ho : S1 sem op) (ha : RO wa s s1 t id X) : ROz (w1 sem wa) s s1 (o1 op t) X := fun c P q =>
  ha c _ ((Out.post_bind q).imp fun a p => ho _ _ (noer_post p))
theorem r_N {sem : SemN} {op : List D → Out D} {ws : WE (List D)} {t : Out (List D)} (ho : SN sem op) (ha : RO ws s s1 t id X) : ROz (wN sem ws) s s1 (oN op t) X := fun c P q =>
  ha c _ ((Out.post_bind q).imp fun a p => ho _ _ (noer_post p))
theorem r_Nl {sem : SemN} {op : List D → Out (List D)} {ws : WE (List D)} {t : Out (List D)} (ho : SNl sem op) (ha : RO ws s s1 t id X) : RO (wN sem ws) s s1 (oN op t) .ls X := fun c P q =>
  ha c _ ((Out.post_bind q).imp fun a p => ho _ _ (noer_post p))
def oChain (f g : D → D → Out D) (t u v : Out D) : Out D := t.bind fun a => u.bind fun b => (f a b).noer.bind fun k => dcb .bad (fun k => bcs k (v.bind fun e => (g b e).noer) (.ok (.bool false))) k
theorem r_chain {sem sem' : Sem2} {op op' : D → D → Out D} {wa wb wc : WE D} {t u v : Out D} (ho : S2 sem op) (ho' : S2 sem' op') (ha : RO wa s s1 t id X) (hb : RO wb s1 s2 u id X) (hv : RO wc s2 s2 v id X) : ROz (wChain sem sem' wa wb wc) s s2 (oChain op op' t u v) X := fun c P q =>
  ha c _ ((Out.post_bind q).imp fun a p => hb c _ ((Out.post_bind p).imp fun b p => ho _ _ _ ((noer_post (Out.post_bind p)).imp fun k p z e => by
    cases k with
    | bool k =>
      obtain rfl := rv_bool e
      dsimp only at p ⊢
      cases k with
      | true => rw [if_pos rfl]; exact hv c _ ((Out.post_bind p).imp fun e p => ho' _ _ _ (noer_post p))
      | false => rw [if_neg (by decide)]; exact p _ rfl
    | _ => exact p.elim)))
/-! and, or, not, if -/
def oAnd (t u : Out Bool) : Out Bool := t.bind fun a => bcs a u (.ok false)
def oOr (t u : Out Bool) : Out Bool := t.bind fun a => bcs a (.ok true) u
def oNot (t : Out Bool) : Out Bool := t.bind fun a => .ok (!a)
def oIf (c : Out Bool) (t u : Out α) : Out α := c.bind fun k => bcs k t u
@[simp] theorem oAnd_ok (a : Bool) (u : Out Bool) : oAnd (.ok a) u = if a = true then u else .ok false := bcs_is ..
@[simp] theorem oOr_ok (a : Bool) (u : Out Bool) : oOr (.ok a) u = if a = true then .ok true else u := bcs_is ..
@[simp] theorem oNot_ok (a : Bool) : oNot (.ok a) = .ok (!a) := rfl
@[simp] theorem oIf_ok (a : Bool) (t u : Out α) : oIf (.ok a) t u = if a = true then t else u := bcs_is ..
theorem r_andT {wa wb : WE Bool} {t u : Out Bool} (ha : RO wa s s1 t id X) (hb : RO wb s1 s1 u id X) : RO (wAndT wa wb) s s1 (oAnd t u) id X := fun c P q =>
  ha c _ ((Out.post_bind q).imp fun a p => by
    cases a with
    | true => exact hb c _ p
    | false => exact p)
theorem r_orT {wa wb : WE Bool} {t u : Out Bool} (ha : RO wa s s1 t id X) (hb : RO wb s1 s1 u id X) : RO (wOrT wa wb) s s1 (oOr t u) id X := fun c P q =>
  ha c _ ((Out.post_bind q).imp fun a p => by
    cases a with
    | true => exact p
    | false => exact hb c _ p)
theorem r_notT {wa : WE Bool} {t : Out Bool} (ha : RO wa s s1 t id X) : RO (wNotT wa) s s1 (oNot t) id X := fun c P q => ha c _ ((Out.post_bind q).imp fun a p => p)
def oAndV (t u : Out D) : Out D := t.bind (dcb .bad fun a => bcs a u (.ok (.bool false)))
def oOrV (t u : Out D) : Out D := t.bind (dcb .bad fun a => bcs a (.ok (.bool true)) u)
def oNotV (t : Out D) : Out D := t.bind (dcb .bad fun a => .ok (.bool (!a)))
@[simp] theorem oAndV_ok (a : Bool) (u : Out D) : oAndV (.ok (.bool a)) u = if a = true then u else .ok (.bool false) := by cases a <;> rfl
@[simp] theorem oOrV_ok (a : Bool) (u : Out D) : oOrV (.ok (.bool a)) u = if a = true then .ok (.bool true) else u := by cases a <;> rfl
@[simp] theorem oNotV_ok (a : Bool) : oNotV (.ok (.bool a)) = .ok (.bool (!a)) := by cases a <;> rfl
theorem r_andV {wa wb : WE Rv} {t u : Out D} (ha : RO wa s s1 t .dat X) (hb : RO wb s1 s1 u .dat X) : RO (wAndV wa wb) s s1 (oAndV t u) .dat X := fun c P q =>
  ha c _ ((Out.post_bind q).imp fun a p => by
    cases a with
    | bool a => cases a with
      | true => exact hb c _ p
      | false => exact p
    | _ => exact p.elim)
theorem r_orV {wa wb : WE Rv} {t u : Out D} (ha : RO wa s s1 t .dat X) (hb : RO wb s1 s1 u .dat X) : RO (wOrV wa wb) s s1 (oOrV t u) .dat X := fun c P q =>
  ha c _ ((Out.post_bind q).imp fun a p => by
    cases a with
    | bool a => cases a with
      | true => exact p
      | false => exact hb c _ p
    | _ => exact p.elim)
theorem r_notV {wa : WE Rv} {t : Out D} (ha : RO wa s s1 t .dat X) : RO (wNotV wa) s s1 (oNotV t) .dat X := fun c P q => ha c _ ((Out.post_bind q).imp fun a p => by
  cases a <;> exact p)
theorem r_if {c : WE Bool} {wa wb : WE ρ} {k : Out Bool} {t u : Out α} {em : α → ρ} (hc : RO c s s1 k id X) (ha : RO wa s1 s2 t em X) (hb : RO wb s1 s2 u em X) : RO (wIf c wa wb) s s2 (oIf k t u) em X := fun c P q =>
  hc c _ ((Out.post_bind q).imp fun a p => by
    cases a with
    | true => exact ha c _ p
    | false => exact hb c _ p)
/-! calls -/
theorem r_call {W : WF} {Ex : Exc → Ga → Prop} {ws : WE (List Rv)} {t : Out α} {es : α → List Rv} {F : α → Out D} (hF : ∀ (a : α) (c : Nat) (P : Rv → Nat → Prop) (R : Exc → Nat → Prop), (F a).post (fun d => P (.dat d) c) (R · c) → W (es a) c P R)
    (ha : RO ws s s1 t es X) (hX : ∀ e c, X e c → Ex e ⟨s1, c⟩) : RO (wCall W Ex ws) s s1 (t.bind F) .dat X := fun c P q =>
  ha c _ ((Out.post_bind q).imp fun a p => hF _ _ _ _ (p.mono (fun _ h => h) fun e h => hX e c h))
/-! isinstance -/
def dIsi (T : Ty6) (d : D) : Out D := match d with | .dict _ => .bad | d => .ok (.bool (isiD T d))
def dIsi2 (T T' : Ty6) (d : D) : Out D := match d with | .dict _ => .bad | d => .ok (.bool (isiD T d || isiD T' d))
theorem r_isi {T : Ty6} {w : WE D} {t : Out D} (h : RO w s s1 t id X) : RO (wIsi T w) s s1 (o1 (dIsi T) t) .dat X := fun c P q => h c _ ((Out.post_bind q).imp fun a p => by
  cases a <;> first | exact ⟨trivial, p⟩ | exact p.elim)
theorem r_isi2 {T T' : Ty6} {w : WE D} {t : Out D} (h : RO w s s1 t id X) : RO (wIsi2 T T' w) s s1 (o1 (dIsi2 T T') t) .dat X := fun c P q => h c _ ((Out.post_bind q).imp fun a p => by
  cases a <;> first | exact ⟨trivial, p⟩ | exact p.elim)
end
end
end VL
namespace VL
open PySem PySem.Spec PyProof.Rows L2
noncomputable section
variable {α β γ S S' L M ρ : Type} {s s0 s1 s2 s3 : List Sl} {X : Exc → Nat → Prop}
/-! ### what is iterated -/
def oItems (t : Out D) : Out (List D) := t.bind fun d => match d with | .list ds => .ok ds | .tuple ds => .ok ds | _ => .bad
@[simp] theorem oItems_l (ds : List D) : oItems (.ok (.list ds)) = .ok ds := rfl
@[simp] theorem oItems_t (ds : List D) : oItems (.ok (.tuple ds)) = .ok ds := rfl
theorem r_items {w : WE Rv} {t : Out D} (h : RO w s s1 t .dat X) : RO (wItems w) s s1 (oItems t) id X := fun c P q => h c _ ((Out.post_bind q).imp fun a p => by
  cases a <;> first | exact p | exact p.elim)
def oRange1 (t : Out (List D)) : Out (List D) := t.bind fun ds => match ds with
  | [.int n] => if n ≤ 16777216 ∧ -(2 ^ 62) ≤ n then .ok (rangeD 0 n.toNat) else .bad
  | _ => .bad
def oRange2 (t : Out (List D)) : Out (List D) := t.bind fun ds => match ds with
  | [.int a, .int b] => if b - a ≤ 16777216 ∧ -(2 ^ 62) ≤ a ∧ a < 2 ^ 62 ∧ -(2 ^ 62) ≤ b ∧ b < 2 ^ 62 then .ok (rangeD a (b - a).toNat) else .bad
  | _ => .bad
@[simp] theorem oRange1_ok (n : Int) : oRange1 (.ok [.int n]) = if n ≤ 16777216 ∧ -(2 ^ 62) ≤ n then .ok (rangeD 0 n.toNat) else .bad := rfl
@[simp] theorem oRange2_ok (a b : Int) : oRange2 (.ok [.int a, .int b]) = if b - a ≤ 16777216 ∧ -(2 ^ 62) ≤ a ∧ a < 2 ^ 62 ∧ -(2 ^ 62) ≤ b ∧ b < 2 ^ 62 then .ok (rangeD a (b - a).toNat) else .bad := rfl
theorem post_if {c : Prop} [Decidable c] {t : Out α} {P : α → Prop} {X : Exc → Prop} (h : (if c then t else .bad).post P X) : c ∧ t.post P X := by
  split at h
  · exact ⟨by assumption, h⟩
  · exact h.elim
theorem r_range1 {ws : WE (List D)} {t : Out (List D)} (h : RO ws s s1 t id X) : RO (wRange1 ws) s s1 (oRange1 t) id X := fun c P q => h c _ ((Out.post_bind q).imp fun a p => by
  split at p
  · exact ⟨(post_if p).1.1, (post_if p).1.2, (post_if p).2⟩
  · exact p.elim)
theorem r_range2 {ws : WE (List D)} {t : Out (List D)} (h : RO ws s s1 t id X) : RO (wRange2 ws) s s1 (oRange2 t) id X := fun c P q => h c _ ((Out.post_bind q).imp fun a p => by
  split at p
  · obtain ⟨⟨h1, h2, h3, h4, h5⟩, h6⟩ := post_if p
    exact ⟨h1, h2, h3, h4, h5, h6⟩
  · exact p.elim)
def oZip (t : Out (List D)) : Out (List D) := t.bind fun ds => match ds with
  | [.list xs, .list ys] => if xs.length ≤ 16777216 then .ok (zipD xs ys) else .bad
  | [.tuple xs, .tuple ys] => if xs.length ≤ 16777216 then .ok (zipD xs ys) else .bad
  | _ => .bad
def oEnum (t : Out (List D)) : Out (List D) := t.bind fun ds => match ds with
  | [.list xs] => if xs.length ≤ 16777216 then .ok (enumD xs) else .bad
  | _ => .bad
theorem r_zip {ws : WE (List Rv)} {t : Out (List D)} (h : RO ws s s1 t (List.map .dat) X) : RO (wZip ws) s s1 (oZip t) id X := fun c P q => h c _ ((Out.post_bind q).imp fun a p => by
  split at p
  · exact post_if p
  · exact post_if p
  · exact p.elim)
theorem r_enum {ws : WE (List Rv)} {t : Out (List D)} (h : RO ws s s1 t (List.map .dat) X) : RO (wEnum ws) s s1 (oEnum t) id X := fun c P q => h c _ ((Out.post_bind q).imp fun a p => by
  split at p
  · exact post_if p
  · exact p.elim)
instance (m n : Int) : Decidable (RgOk m n) := by unfold RgOk; infer_instance
def oListRg1 (t : Out D) : Out (List D) := t.bind fun d => match d with | .int n => if RgOk 0 n then .ok (rangeD 0 n.toNat) else .bad | _ => .bad
def oListRg2 (t u : Out D) : Out (List D) := t.bind fun d => u.bind fun e => match d, e with | .int m, .int n => if RgOk m n then .ok (rangeD m (n - m).toNat) else .bad | _, _ => .bad
theorem r_listRg1 {w : WE D} {t : Out D} (h : RO w s s1 t id X) : RO (wListRg1 w) s s1 (oListRg1 t) .ls X := fun c P q => h c _ ((Out.post_bind q).imp fun a p => by
  cases a <;> first | exact post_if p | exact p.elim)
theorem r_listRg2 {w v : WE D} {t u : Out D} (h : RO w s s1 t id X) (h' : RO v s1 s2 u id X) : RO (wListRg2 w v) s s2 (oListRg2 t u) .ls X := fun c P q => h c _ ((Out.post_bind q).imp fun a p => h' c _ ((Out.post_bind p).imp fun b p => by
  cases a <;> first | exact p.elim | (cases b <;> first | exact post_if p | exact p.elim)))
@[simp] theorem oListRg1_ok (n : Int) : oListRg1 (.ok (.int n)) = if RgOk 0 n then .ok (rangeD 0 n.toNat) else .bad := rfl
@[simp] theorem oListRg2_ok (m n : Int) : oListRg2 (.ok (.int m)) (.ok (.int n)) = if RgOk m n then .ok (rangeD m (n - m).toNat) else .bad := rfl

/-! ### targets -/
def tgName (d : D) : Out D := .ok d
@[simp] theorem tgName_is (d : D) : tgName d = .ok d := rfl
theorem rg_set {i : Nat} {f : D → List Sl} (h : ∀ d, s.set i (.rv (.dat d)) = f d) : RG (gSet i) s tgName f := fun d c P p => by
  show P ⟨s.set i (.rv (.dat d)), c⟩
  rw [h]; exact p
def tgNil (ds : List D) : Out Unit := lcs (.ok ()) (fun _ _ => .bad) ds
def tgCons (f : D → Out α) (g : List D → Out β) (ds : List D) : Out (α × β) := lcs .bad (fun d r => (f d).bind fun a => (g r).bind fun b => .ok (a, b)) ds
def tgTup (n : Nat) (g : List D → Out β) (d : D) : Out β := match d with | .tuple ds => if ds.length = n then g ds else .bad | _ => .bad
@[simp] theorem tgNil_nil : tgNil [] = .ok () := rfl
@[simp] theorem tgCons_cons (f : D → Out α) (g : List D → Out β) (d : D) (r : List D) : tgCons f g (d :: r) = (f d).bind fun a => (g r).bind fun b => .ok (a, b) := rfl
@[simp] theorem tgTup_tup (n : Nat) (g : List D → Out β) (ds : List D) : tgTup n g (.tuple ds) = if ds.length = n then g ds else .bad := rfl
theorem rg_nil : RGs gsNil s tgNil fun _ => s := fun d c P p => by
  cases d with
  | nil => exact p
  | cons _ _ => exact p.elim
theorem rg_cons {w : WG} {u : WGs} {f : D → Out α} {g : List D → Out β} {s1 : α → List Sl} {s2 : α → β → List Sl} (h : RG w s f s1) (hs : ∀ a, RGs u (s1 a) g (s2 a)) : RGs (gsCons w u) s (tgCons f g) fun p => s2 p.1 p.2 := fun d c P p => by
  cases d with
  | nil => exact p.elim
  | cons d r => exact h d c _ ((Out.post_bind p).imp fun a q => hs a r c _ ((Out.post_bind q).imp fun b q => q))
theorem rg_tup {n : Nat} {u : WGs} {g : List D → Out β} {s1 : β → List Sl} (h : RGs u s g s1) : RG (gTupV n u) s (tgTup n g) s1 := fun d c P p => by
  cases d with
  | tuple ds => exact ⟨(post_if p).1, h _ c _ (post_if p).2⟩
  | _ => exact p.elim

/-! ### statements -/
variable {J : Jx S L}
theorem rs_next {x : S} (h : J.nx x s) : RS wNext s (.nx x) J X := fun E c q => q s h
theorem rs_break {l : L} (h : J.lp l s) : RS (fun E Γ => E.bk Γ) s (.bk l : So S L) J X := fun E c q => q s h
theorem rs_continue {l : L} (h : J.lp l s) : RS (fun E Γ => E.ct Γ) s (.ct l : So S L) J X := fun E c q => q s h
theorem rs_retN : RS (fun E Γ => E.rt (.dat .none) Γ) s (.rt .none : So S L) J X := fun E c q => q s
theorem rs_never : RS (fun _ _ => False) s (.bad : So S L) J X := fun E c q => q
theorem rs_ret {w : WE Rv} {t : Out D} (h : RO w s s1 t .dat X) : RS (wRet w) s (t.so fun d => (.rt d : So S L)) J X := fun E c q => h c _ (by
  cases t with
  | ok d => exact q s1
  | er e => exact q
  | bad => exact q)
theorem rs_raise {x f : Str} {g : Option Str} {Ex : Exc → Ga → Prop} {ws : WE (List Rv)} {t : Out (List D)} {F : List D → Out Exc} (h : RO ws s s1 t (List.map .dat) X) (hX : ∀ e c, X e c → Ex e ⟨s1, c⟩)
    (hF : F = fun ds => match g, ds with | none, [d] => .ok ⟨x, [(f, d)]⟩ | some y, [d, d'] => .ok ⟨x, [(y, d'), (f, d)]⟩ | _, _ => .bad) : RS (wRaise x f g Ex ws) s ((t.bind F).so fun e => (.er e : So S L)) J X := fun E c q => h c _ (by
  subst hF
  cases t with
  | ok ds =>
    refine dats_dats ?_
    cases g with
    | none => match ds, q with
      | [d], q => exact hX _ _ q
      | [], q => exact q.elim
      | _ :: _ :: _, q => exact q.elim
    | some y => match ds, q with
      | [d, d'], q => exact hX _ _ q
      | [], q => exact q.elim
      | [_], q => exact q.elim
      | _ :: _ :: _ :: _, q => exact q.elim
  | er e => exact q
  | bad => exact q)
def exc1 (x f : Str) (ds : List D) : Out Exc := match ds with | [d] => .ok ⟨x, [(f, d)]⟩ | _ => .bad
def exc2 (x f y : Str) (ds : List D) : Out Exc := match ds with | [d, d'] => .ok ⟨x, [(y, d'), (f, d)]⟩ | _ => .bad
@[simp] theorem exc1_is (x f : Str) (d : D) : exc1 x f [d] = .ok ⟨x, [(f, d)]⟩ := rfl
@[simp] theorem exc2_is (x f y : Str) (d d' : D) : exc2 x f y [d, d'] = .ok ⟨x, [(y, d'), (f, d)]⟩ := rfl
theorem exc1_F (x f : Str) : exc1 x f = fun ds => match (none : Option Str), ds with | none, [d] => .ok ⟨x, [(f, d)]⟩ | some y, [d, d'] => .ok ⟨x, [(y, d'), (f, d)]⟩ | _, _ => .bad := by
  funext ds
  match ds with
  | [] => rfl
  | [_] => rfl
  | _ :: _ :: _ => rfl
theorem exc2_F (x f y : Str) : exc2 x f y = fun ds => match some y, ds with | none, [d] => .ok ⟨x, [(f, d)]⟩ | some y, [d, d'] => .ok ⟨x, [(y, d'), (f, d)]⟩ | _, _ => .bad := by
  funext ds
  match ds with
  | [] => rfl
  | [_] => rfl
  | [_, _] => rfl
  | _ :: _ :: _ :: _ => rfl
theorem rs_set {i : Nat} {w : WE Rv} {b : WS} {t : Out D} {k : D → So S L} {f : D → List Sl} (h : RO w s s1 t .dat X) (e : ∀ d, s1.set i (.rv (.dat d)) = f d) (hb : ∀ d, RS b (f d) (k d) J X) : RS (wSeq (wSet i w) b) s (t.so k) J X := fun E c q => h c _ (by
  cases t with
  | ok d =>
    show b E ⟨s1.set i (.rv (.dat d)), c⟩
    rw [e]
    exact hb d E c q
  | er e => exact q
  | bad => exact q)
theorem rs_setL {i : Nat} {w : WE Rz} {b : WS} {t : Out (List D)} {k : List D → So S L} {f : List D → List Sl} (h : RO w s s1 t .ls X) (e : ∀ d, s1.set i (.lst d) = f d) (hb : ∀ d, RS b (f d) (k d) J X) : RS (wSeq (wSetZ i w) b) s (t.so k) J X := fun E c q => h c _ (by
  cases t with
  | ok d =>
    show b E ⟨s1.set i (.lst d), c⟩
    rw [e]
    exact hb d E c q
  | er e => exact q
  | bad => exact q)
theorem rs_setK {i : Nat} {w : WE Rz} {b : WS} {t : Out (List (Key × D))} {k : List (Key × D) → So S L} {f : List (Key × D) → List Sl} (h : RO w s s1 t .dk X) (e : ∀ d, s1.set i (.dk d) = f d) (hb : ∀ d, RS b (f d) (k d) J X) : RS (wSeq (wSetZ i w) b) s (t.so k) J X := fun E c q => h c _ (by
  cases t with
  | ok d =>
    show b E ⟨s1.set i (.dk d), c⟩
    rw [e]
    exact hb d E c q
  | er e => exact q
  | bad => exact q)
theorem rs_setT {i : Nat} {w : WE Rz} {b : WS} {t : Out (List (List Key × D))} {k : List (List Key × D) → So S L} {f : List (List Key × D) → List Sl} (h : RO w s s1 t .dt X) (e : ∀ d, s1.set i (.dt d) = f d) (hb : ∀ d, RS b (f d) (k d) J X) : RS (wSeq (wSetZ i w) b) s (t.so k) J X := fun E c q => h c _ (by
  cases t with
  | ok d =>
    show b E ⟨s1.set i (.dt d), c⟩
    rw [e]
    exact hb d E c q
  | er e => exact q
  | bad => exact q)
/-- a new object into a slot that is not owned later -/
theorem rs_drop {w : WE Rv} {b : WS} {t : Out α} {em : α → Rv} {k : α → So S L} (h : RO w s s1 t em X) (hb : ∀ d, RS b s1 (k d) J X) : RS (wSeq (wDrop w) b) s (t.so k) J X := fun E c q => h c _ (by
  cases t with
  | ok d => exact hb d E c q
  | er e => exact q
  | bad => exact q)
theorem rs_asg {w : WE Rv} {g : WG} {b : WS} {t : Out D} {tg : D → Out β} {k : β → So S L} {f : β → List Sl} (h : RO w s s1 t .dat X) (hg : RG g s1 tg f) (hb : ∀ d, RS b (f d) (k d) J X) : RS (wSeq (wAsg w g) b) s ((t.bind fun d => (tg d).noer).so k) J X := fun E c q => h c _ (by
  cases t with
  | ok d =>
    refine hg d c _ ?_
    show (tg d).post _ _
    have q : (((tg d).noer).so k).post E J X c := q
    cases ht : tg d with
    | ok x => rw [ht] at q; exact hb x E c q
    | er e => rw [ht] at q; exact q
    | bad => rw [ht] at q; exact q
  | er e => exact q
  | bad => exact q)
/-- what a new thing is in a slot: by its kind -/
structure Kd (α : Type) where
  z : α → Rz
  l : α → Sl
  e : ∀ a, (z a).sl = l a
def KdV : Kd D := ⟨fun d => .v (.dat d), fun d => .rv (.dat d), fun _ => rfl⟩
def KdL : Kd (List D) := ⟨.ls, .lst, fun _ => rfl⟩
def KdK : Kd (List (Key × D)) := ⟨.dk, .dk, fun _ => rfl⟩
def KdT : Kd (List (List Key × D)) := ⟨.dt, .dt, fun _ => rfl⟩
theorem r_zv {w : WE Rv} {t : Out D} (h : RO w s s1 t .dat X) : RO (wZ w) s s1 t KdV.z X := fun c P q => h c _ q
theorem rs_par {i j : Nat} {wa wb : WE Rz} {b : WS} {t : Out α} {u : Out β} {k : α → β → So S L} {f : α → β → List Sl} (ka : Kd α) (kb : Kd β) (h : RO wa s s1 t ka.z X) (h' : RO wb s1 s2 u kb.z X) (e : ∀ x y, (s2.set i (ka.l x)).set j (kb.l y) = f x y) (hb : ∀ x y, RS b (f x y) (k x y) J X) :
    RS (wSeq (wPar i j wa wb) b) s (t.so fun x => u.so fun y => k x y) J X := fun E c q => h c _ (by
  cases t with
  | ok x =>
    refine h' c _ ?_
    cases u with
    | ok y =>
      show b E ⟨(s2.set i (ka.z x).sl).set j (kb.z y).sl, c⟩
      rw [ka.e, kb.e, e]
      exact hb x y E c q
    | er e => exact q
    | bad => exact q
  | er e => exact q
  | bad => exact q)
def oAug (f : Int → Int → Int) (a : D) (t : Out D) : Out D := match a with
  | .int a => t.bind fun b => match b with | .int b => .ok (.int (f a b)) | _ => .bad
  | _ => .bad
@[simp] theorem oAug_is (f : Int → Int → Int) (a b : Int) : oAug f (.int a) (.ok (.int b)) = .ok (.int (f a b)) := rfl
theorem rs_aug {i : Nat} {f : Int → Int → Int} {w : WE D} {b : WS} {x : D} {t : Out D} {k : D → So S L} {g : D → List Sl} (hx : s.getD i .no = .rv (.dat x)) (h : RO w s s1 t id X) (e : ∀ d, s1.set i (.rv (.dat d)) = g d) (hb : ∀ d, RS b (g d) (k d) J X) :
    RS (wSeq (wAug i f w) b) s ((oAug f x t).so k) J X := fun E c q => by
  unfold wSeq wAug
  show (match s.getD i .no with | .rv (.dat (.int a)) => _ | _ => _)
  rw [hx]
  cases x with
  | int a =>
    refine h c _ ?_
    cases t with
    | ok y =>
      cases y with
      | int z =>
        show b E ⟨s1.set i _, c⟩
        rw [e]
        exact hb _ E c q
      | _ => exact q
    | er e => exact q
    | bad => exact q
  | _ => exact q
theorem rs_append {i : Nat} {w : WE Rv} {b : WS} {ds : List D} {t : Out D} {k : List D → So S L} {g : List D → List Sl} (hx : s.getD i .no = .lst ds) (hx1 : s1.getD i .no = .lst ds) (h : RO w s s1 t .dat X) (e : ∀ d, s1.set i (.lst d) = g d) (hb : ∀ d, RS b (g d) (k d) J X) :
    RS (wSeq (wAppend i w) b) s ((t.bind fun d => if ds.length < 16777216 then .ok (ds ++ [d]) else .bad).so k) J X := fun E c q => by
  refine ⟨⟨ds, hx⟩, h c _ ?_⟩
  cases t with
  | ok y =>
    show (match Rv.dat y, (⟨s1, c⟩ : Ga).at i with | .dat d, .lst ds => ds.length < 16777216 ∧ b E ((⟨s1, c⟩ : Ga).set i (.lst (ds ++ [d]))) | _, _ => False)
    rw [show (⟨s1, c⟩ : Ga).at i = .lst ds from hx1]
    have q : ((if ds.length < 16777216 then Out.ok (ds ++ [y]) else .bad).so k).post E J X c := q
    by_cases hl : ds.length < 16777216
    · rw [if_pos hl] at q
      refine ⟨hl, ?_⟩
      show b E ⟨s1.set i _, c⟩
      rw [e]
      exact hb _ E c q
    · rw [if_neg hl] at q
      exact q.elim
  | er e => exact q
  | bad => exact q
def dPop (es : List D) (d : D) : Out (D × List D) := match d with
  | .int n => if -(2 ^ 63) ≤ n ∧ n < 2 ^ 63 then match seqIndex? n es.length with
      | some k => match es[k]? with
        | some z => .ok (z, es.eraseIdx k)
        | none => .bad
      | none => .bad
    else .bad
  | _ => .bad
theorem rs_appPop {i j : Nat} {w : WE D} {b : WS} {ds es : List D} {t : Out D} {k : List D → List D → So S L} {g : List D → List D → List Sl} (hx : s.getD i .no = .lst ds) (hy : s.getD j .no = .lst es) (hx1 : s1.getD i .no = .lst ds) (hy1 : s1.getD j .no = .lst es) (h : RO w s s1 t id X)
    (e : ∀ x y, (s1.set j (.lst y)).set i (.lst x) = g x y) (hb : ∀ x y, RS b (g x y) (k x y) J X) :
    RS (wSeq (wAppPop i j w) b) s ((t.bind fun d => if ds.length < 16777216 then (dPop es d).noer else .bad).so fun p => k (ds ++ [p.1]) p.2) J X := fun E c q => by
  refine ⟨⟨ds, hx⟩, ⟨es, hy⟩, h c _ ?_⟩
  cases t with
  | ok y =>
    have q : ((if ds.length < 16777216 then (dPop es y).noer else .bad).so fun p => k (ds ++ [p.1]) p.2).post E J X c := q
    by_cases hl : ds.length < 16777216
    · rw [if_pos hl] at q
      cases y with
      | int n =>
        show (match PyData.int n, (⟨s1, c⟩ : Ga).at i, (⟨s1, c⟩ : Ga).at j with | .int n, .lst ds, .lst es => -(2 ^ 63) ≤ n ∧ n < 2 ^ 63 ∧ ds.length < 16777216 ∧ ∃ k z, seqIndex? n es.length = some k ∧ es[k]? = some z ∧ b E (((⟨s1, c⟩ : Ga).set j (.lst (es.eraseIdx k))).set i (.lst (ds ++ [z]))) | _, _, _ => False)
        rw [show (⟨s1, c⟩ : Ga).at i = .lst ds from hx1, show (⟨s1, c⟩ : Ga).at j = .lst es from hy1]
        unfold dPop at q
        dsimp only at q
        by_cases hn : -(2 ^ 63) ≤ n ∧ n < 2 ^ 63
        · rw [if_pos hn] at q
          cases hs : seqIndex? n es.length with
          | none => rw [hs] at q; exact q.elim
          | some m =>
            rw [hs] at q
            dsimp only at q
            cases hz : es[m]? with
            | none => rw [hz] at q; exact q.elim
            | some z =>
              rw [hz] at q
              refine ⟨hn.1, hn.2, hl, m, z, hs, hz, ?_⟩
              show b E ⟨(s1.set j _).set i _, c⟩
              rw [e]
              exact hb _ _ E c q
        · rw [if_neg hn] at q; exact q.elim
      | _ => exact q.elim
    · rw [if_neg hl] at q
      exact q.elim
  | er e => exact q
  | bad => exact q
/-! ### if, for, while, try -/
theorem rs_seq {a b : WS} {t : So S L} {k : S → So S' L} {N : S → List Sl → Prop} {J : Jx S' L} (ha : RS a s t ⟨N, J.lp⟩ X) (hk : ∀ x s, N x s → RS b s (k x) J X) : RS (wSeq a b) s (t.seq k) J X := fun E c q => ha _ c (by
  cases t with
  | nx x => exact fun s hs => hk x s hs E c q
  | _ => exact q)
theorem rs_if {cw : WE Bool} {wa wb : WS} {t : Out Bool} {ta tb : So S L} {J : Jx S L} (h : RO cw s s1 t id X) (ha : RS wa s1 ta J X) (hb : RS wb s1 tb J X) :
    RS (wIfS cw wa wb) s (t.so fun v => bcs v ta tb) J X := fun E c q => h c _ (by
  cases t with
  | ok v =>
    cases v with
    | true => exact ha _ c q
    | false => exact hb _ c q
  | er e => exact q
  | bad => exact q)
/-- an if whose first branch never goes on -/
theorem rs_ifx {cw : WE Bool} {wa wb b : WS} {t : Out Bool} {ta : So Empty L} {tb : So S L} {N : Empty → List Sl → Prop} {J : Jx S L} (h : RO cw s s1 t id X) (ha : RS wa s1 ta ⟨N, J.lp⟩ X) (hb : RS (wSeq wb b) s1 tb J X) :
    RS (wSeq (wIfS cw wa wb) b) s (t.so fun v => bcs v (ta.seq (fun x => x.elim)) tb) J X := fun E c q => h c _ (by
  cases t with
  | ok v =>
    cases v with
    | true => exact ha _ c (by
        have q : (ta.seq (fun x => x.elim) : So S L).post E J X c := q
        cases ta with
        | nx x => exact x.elim
        | _ => exact q)
    | false => exact hb E c q
  | er e => exact q
  | bad => exact q)
/-- one turn: the target, then the body -/
def RT (g : WG) (wb : WS) (s : List Sl) (f : D → So L L) (N : L → List Sl → Prop) (X : Exc → Nat → Prop) : Prop := ∀ (d : D) (E : En) (c : Nat), (f d).post E ⟨N, N⟩ X c → g d ⟨s, c⟩ (wb E)
theorem rt_of {g : WG} {wb : WS} {tg : D → Out β} {f : β → So L L} {s1 : β → List Sl} {N : L → List Sl → Prop} (hg : RG g s tg s1) (hb : ∀ b, RS wb (s1 b) (f b) ⟨N, N⟩ X) : RT g wb s (fun d => (tg d).noer.so f) N X := fun d E c q => hg d c _ (by
  dsimp only at q
  cases ht : tg d with
  | ok b => rw [ht] at q; exact hb b E c q
  | er e => rw [ht] at q; exact q.elim
  | bad => rw [ht] at q; exact q.elim)
theorem forW_of {g : WG} {wb : WS} {f : L → D → So L L} {N : L → List Sl → Prop} (hb : ∀ l s, N l s → RT g wb s (f l) N X) {J : Jx L M} (hJ : J.nx = N) {E : En} {c : Nat} : ∀ (items : List D) (l : L) (s : List Sl), N l s → (forO f items l : So L M).post E J X c → forW g wb E items ⟨s, c⟩
  | [], l, s, hs, q => q s (hJ ▸ hs)
  | d :: r, l, s, hs, q => hb l s hs d _ c (by
    rw [forO_cons] at q
    cases hf : f l d with
    | nx l' => rw [hf] at q; exact fun s' hs' => forW_of hb hJ r l' s' hs' q
    | ct l' => rw [hf] at q; exact fun s' hs' => forW_of hb hJ r l' s' hs' q
    | bk l' => rw [hf] at q; exact fun s' hs' => q s' (hJ ▸ hs')
    | rt d' => rw [hf] at q; exact q
    | er e => rw [hf] at q; exact q
    | bad => rw [hf] at q; exact q)
theorem rs_for {wi : WE (List D)} {g : WG} {wb : WS} {t : Out (List D)} {f : L → D → So L L} {l0 : L} {N : L → List Sl → Prop} {J : Jx L M} (h : RO wi s s1 t id X) (h0 : N l0 s1) (hb : ∀ l s, N l s → RT g wb s (f l) N X) (hJ : J.nx = N) :
    RS (wFor wi g wb) s (t.so fun items => (forO f items l0 : So L M)) J X := fun E c q => h c _ (by
  cases t with
  | ok items => exact forW_of hb hJ items l0 s1 h0 q
  | er e => exact q
  | bad => exact q)
theorem rs_while {cw : WE Bool} {wb : WS} {cO : L → Out Bool} {f : L → So L L} {n : Nat} {l0 : L} {N : L → List Sl → Prop} {J : Jx L M} (h0 : N l0 s) (hc : ∀ l s, N l s → ∃ s1, RO cw s s1 (cO l) id X ∧ N l s1) (hb : ∀ l s, N l s → RS wb s (f l) ⟨N, N⟩ X) (hJ : J.nx = N) :
    RS (wWhile cw wb) s (whileO cO f n l0 : So L M) J X := fun E c q => by
  refine ⟨fun m Γ => ∃ l s', Γ = ⟨s', c⟩ ∧ N l s' ∧ (whileO cO f m l : So L M).post E J X c, ⟨n, l0, s, rfl, h0, q⟩, ?_⟩
  rintro m _ ⟨l, s', rfl, hl, q⟩
  cases m with
  | zero => exact q.elim
  | succ m =>
    obtain ⟨s1, hc1, hl1⟩ := hc l s' hl
    refine hc1 c _ ?_
    unfold whileO at q
    cases hcl : cO l with
    | ok v =>
      rw [hcl] at q
      cases v with
      | false => exact q s1 (hJ ▸ hl1)
      | true =>
        refine ⟨fun Γ => ∃ l s', Γ = ⟨s', c⟩ ∧ N l s' ∧ (whileO cO f m l : So L M).post E J X c, fun Γ' h => ⟨m, Nat.lt_succ_self m, h⟩, hb l s1 hl1 _ c ?_⟩
        have q : (match f l with | .nx l' => whileO cO f m l' | .ct l' => whileO cO f m l' | .bk l' => .nx l' | .rt d => .rt d | .er e => .er e | .bad => .bad : So L M).post E J X c := q
        cases hf : f l with
        | nx l' => rw [hf] at q; exact fun s' hs' => ⟨l', s', rfl, hs', q⟩
        | ct l' => rw [hf] at q; exact fun s' hs' => ⟨l', s', rfl, hs', q⟩
        | bk l' => rw [hf] at q; exact fun s' hs' => q s' (hJ ▸ hs')
        | rt d' => rw [hf] at q; exact q
        | er e => rw [hf] at q; exact q
        | bad => rw [hf] at q; exact q
    | er e => rw [hcl] at q; exact q
    | bad => rw [hcl] at q; exact q
/-- try: the errors of the body stand at states that NX tells -/
theorem rs_try {CM : CMt} {Ex : Exc → Ga → Prop} {hs : List VCl} {wb : (Exc → Ga → Prop) → WS} {tb : So S L} {hd : Exc → So S L} {NX : List Sl → Prop} {J : Jx S L}
    (hb : ∀ (Ex' : Exc → Ga → Prop) (X' : Exc → Nat → Prop), (∀ e c s, NX s → X' e c → Ex' e ⟨s, c⟩) → RS (wb Ex') s tb J X')
    (hh : ∀ (e : Exc) (s : List Sl), NX s → ∀ (E : En) (c : Nat), (hd e).post E J X c → wHs CM Ex E hs e ⟨s, c⟩) :
    RS (wTry CM Ex hs wb) s (tb.tryO hd) J X := fun E c q => by
  refine hb _ (fun e c => (hd e).post E J X c) (fun e c s hs q => hh e s hs _ c q) _ c ?_
  cases tb with
  | er e => exact q
  | nx x => exact q
  | rt x => exact q
  | bk x => exact q
  | ct x => exact q
  | bad => exact q
def hdEnd (e : Exc) : So S L := .er e
/-- the clauses, one after another -/
def hdBare (CM : CMt) (x : Str) (t : So S L) (r : Exc → So S L) (e : Exc) : So S L := match CM e.c x with
  | some true => t
  | some false => r e
  | none => .bad
def hdAs (CM : CMt) (x : Str) (t : Exc → So S L) (r : Exc → So S L) (e : Exc) : So S L := match CM e.c x with
  | some true => if e.c = x then t e else .bad
  | some false => r e
  | none => .bad
/-- the clauses' reading -/
def RH (CM : CMt) (Ex : Exc → Ga → Prop) (hs : List VCl) (s : List Sl) (hd : Exc → So S L) (J : Jx S L) (X : Exc → Nat → Prop) : Prop := ∀ (e : Exc) (E : En) (c : Nat), (hd e).post E J X c → wHs CM Ex E hs e ⟨s, c⟩
theorem rh_nil {CM : CMt} {Ex : Exc → Ga → Prop} (hX : ∀ e c, X e c → Ex e ⟨s, c⟩) : RH CM Ex [] s (hdEnd : Exc → So S L) J X := fun e E c q => hX e c q
theorem rh_bare {CM : CMt} {Ex : Exc → Ga → Prop} {x : Str} {ws : Addr → Option Addr → WS} {hs : List VCl} {t : So S L} {r : Exc → So S L} (h : ∀ a dd, RS (ws a dd) s t J X) (hr : RH CM Ex hs s r J X) : RH CM Ex (⟨x, none, ws⟩ :: hs) s (hdBare CM x t r) J X := fun e E c q => by
  unfold hdBare at q
  unfold wHs
  cases hc : CM e.c x with
  | none => rw [hc] at q; exact q.elim
  | some b =>
    rw [hc] at q
    refine ⟨b, rfl, ?_, ?_⟩
    · rintro rfl
      exact ⟨.inl rfl, fun a dd => h a (some dd) ⟨_, _, _, _⟩ c q⟩
    · rintro rfl
      exact hr e E c q
theorem rh_as {CM : CMt} {Ex : Exc → Ga → Prop} {x : Str} {i : Nat} {ws : Addr → Option Addr → WS} {hs : List VCl} {t : Exc → So S L} {r : Exc → So S L} {N' : S → List Sl → Prop} {NL : L → List Sl → Prop} {f : Addr → Addr → Exc → List Sl} (e1 : ∀ a dd e, s.set i (.exc a dd e.fs) = f a dd e) (h : ∀ a dd e, RS (ws a (some dd)) (f a dd e) (t e) ⟨N', NL⟩ X)
    (hN : ∀ x s, N' x s → J.nx x (s.set i .no)) (hL : ∀ x s, NL x s → J.lp x (s.set i .no)) (hr : RH CM Ex hs s r J X) : RH CM Ex (⟨x, some i, ws⟩ :: hs) s (hdAs CM x t r) J X := fun e E c q => by
  unfold hdAs at q
  unfold wHs
  cases hc : CM e.c x with
  | none => rw [hc] at q; exact q.elim
  | some b =>
    rw [hc] at q
    refine ⟨b, rfl, ?_, ?_⟩
    · rintro rfl
      dsimp only at q
      by_cases he : e.c = x
      · rw [if_pos he] at q
        refine ⟨.inr he, fun a dd => ?_⟩
        show ws a (some dd) (leaveE E (some i)) ⟨s.set i (.exc a dd e.fs), c⟩
        rw [e1]
        refine h a dd e _ c ?_
        cases ht : t e with
        | nx x => rw [ht] at q; exact fun s hs => q _ (hN x s hs)
        | bk x => rw [ht] at q; exact fun s hs => q _ (hL x s hs)
        | ct x => rw [ht] at q; exact fun s hs => q _ (hL x s hs)
        | rt x => rw [ht] at q; exact q
        | er x => rw [ht] at q; exact q
        | bad => rw [ht] at q; exact q
      · rw [if_neg he] at q; exact q.elim
    · rintro rfl
      exact hr e E c q
def excF (f : Str) (e : Exc) : Out D := match e.fs.lookup f with | some v => .ok v | none => .bad
theorem r_xf {a dd : Addr} {i : Nat} {f : Str} {e : Exc} (h : s.getD i .no = .exc a dd e.fs) : RO (wXf a (some dd) i f) s s (excF f e) .dat X := fun c P q => by
  unfold wXf
  show (match s.getD i .no with | .exc a' dd fs => _ | _ => _)
  rw [h]
  unfold excF at q
  cases hl : e.fs.lookup f with
  | some v => rw [hl] at q; exact ⟨rfl, rfl, v, hl, q⟩
  | none => rw [hl] at q; exact q.elim
/-! ### comprehensions -/
theorem r_comp {vs : List Nat} {wi : WE (List D)} {g : WG} {tw : WE Bool} {w : WE Rv} {t : Out (List D)} {tg : D → Out β} {tt : β → Out Bool} {f : β → Out D} {sw : List Sl} {sb : β → List Sl} (hp : ∀ v ∈ vs, plainSl (s.getD v .no)) (hi : RO wi s s1 t id X) (hw : ∀ c, wipeG ⟨s1, c⟩ vs = ⟨sw, c⟩)
    (hg : RG g sw tg sb) (ht : ∀ b, RO tw (sb b) (sb b) (tt b) id fun _ _ => False) (hf : ∀ b, RO w (sb b) (sb b) (f b) .dat fun _ _ => False) (hb : ∀ b c, wipeG ⟨sb b, c⟩ vs = ⟨sw, c⟩) (hs : ∀ c, backG ⟨sw, c⟩ ⟨s, c⟩ vs = ⟨s2, c⟩) :
    RO (wComp vs wi g tw w) s s2 (t.bind fun items => (compO tg tt f items).noer) .ls X := fun c P q => by
  refine ⟨hp, hi c _ ((Out.post_bind q).imp fun items p => ?_)⟩
  rw [hw]
  have key : ∀ (items acc : List D), (compO tg tt f items).post (fun es => P (.ls (acc ++ es)) ⟨s2, c⟩) (fun _ => False) → compW vs g tw w items acc ⟨sw, c⟩ fun acc Γ2 => P (.ls acc) (backG Γ2 ⟨s, c⟩ vs) := by
    intro items
    induction items with
    | nil =>
      intro acc h
      have h : P (.ls (acc ++ [])) ⟨s2, c⟩ := h
      rw [List.append_nil] at h
      show P (.ls acc) (backG ⟨sw, c⟩ ⟨s, c⟩ vs)
      rw [hs]; exact h
    | cons d r ih =>
      intro acc h
      refine hg d c _ (((Out.post_bind h).imp fun b h => ht b c _ ((Out.post_bind h).imp fun k h => ?_)))
      cases k with
      | true =>
        refine hf b c _ ((Out.post_bind h).imp fun e h => ?_)
        show compW vs g tw w r (acc ++ [e]) (wipeG ⟨sb b, c⟩ vs) _
        rw [hb]
        exact ih _ ((Out.post_bind h).imp fun es h => by rw [List.append_assoc]; exact h)
      | false =>
        show compW vs g tw w r acc (wipeG ⟨sb b, c⟩ vs) _
        rw [hb]
        exact ih _ h
  exact key items [] (noer_post p)
def compO2 (tg : D → Out β) (t : β → Out Bool) (it : β → Out (List D)) (tg1 : β → D → Out γ) (t1 : β → γ → Out Bool) (f : β → γ → Out D) (ds : List D) : Out (List D) := @List.rec D (fun _ => Out (List D)) (.ok []) (fun d _ ih => (tg d).bind fun b => (t b).bind fun k => bcs k ((it b).bind fun items => (compO (tg1 b) (t1 b) (f b) items).bind fun es => ih.bind fun es' => .ok (es ++ es')) ih) ds
/-! ### a def -/
theorem rf_def {n m : Nat} {ws : (Exc → Ga → Prop) → WS} {as : List Rv} {t : So Unit Unit} {c : Nat} {P : Rv → Nat → Prop} {R : Exc → Nat → Prop} {s : List Sl} (hl : as.length = m) (hs : startG n as c = ⟨s, c⟩) (h : ∀ (Ex : Exc → Ga → Prop) (X : Exc → Nat → Prop), (∀ e c s, X e c → Ex e ⟨s, c⟩) → RS (ws Ex) s t ⟨fun _ _ => True, fun _ _ => False⟩ X)
    (q : t.fin.post (fun d => P (.dat d) c) (R · c)) : wDef n m ws as c P R := by
  refine ⟨hl, ?_⟩
  rw [hs]
  refine h _ (fun e c => R e c) (fun e c s q => q) _ c ?_
  cases t with
  | nx x => exact fun s _ => q
  | rt d => exact fun s => q
  | er e => exact q
  | bad => exact q
  | bk l => exact q.elim
  | ct l => exact q.elim
end
end VL
namespace VL
open PySem PySem.Spec PyProof.Rows L2
noncomputable section
variable {α β γ S S' L M ρ : Type} {s s0 s1 s2 s3 : List Sl} {X : Exc → Nat → Prop}
instance (i j : Int) : Decidable (CMul i j) := by unfold CMul; infer_instance
instance (i j : Int) : Decidable (CDivN i j) := by unfold CDivN; infer_instance
instance (i j : Int) : Decidable (CPow i j) := by unfold CPow; infer_instance
/-! ### operators -/
def dInt (C : Int → Int → Prop) [∀ i j, Decidable (C i j)] (f : Int → Int → D) (d e : D) : Out D := match d, e with
  | .int i, .int j => if C i j then .ok (f i j) else .bad
  | _, _ => .bad
def dI0 (f : Int → Int → D) (d e : D) : Out D := match d, e with
  | .int i, .int j => .ok (f i j)
  | _, _ => .bad
@[simp] theorem dInt_i (C : Int → Int → Prop) [∀ i j, Decidable (C i j)] (f : Int → Int → D) (i j : Int) : dInt C f (.int i) (.int j) = if C i j then .ok (f i j) else .bad := rfl
@[simp] theorem dI0_i (f : Int → Int → D) (i j : Int) : dI0 f (.int i) (.int j) = .ok (f i j) := rfl
theorem s_int {C : Int → Int → Prop} [∀ i j, Decidable (C i j)] {f : Int → Int → D} : S2 (sInt C f) (dInt C f) := fun d e P h => by
  unfold dInt at h
  unfold sInt
  split at h
  · exact ⟨(post_if h).1, (post_if h).2 _ rfl⟩
  · exact h.elim
theorem s_int0 {f : Int → Int → D} : S2 (sInt (fun _ _ => True) f) (dI0 f) := fun d e P h => by
  unfold dI0 at h
  unfold sInt
  split at h
  · exact ⟨trivial, h _ rfl⟩
  · exact h.elim
abbrev dSub := dI0 fun i j => .int (i - j)
abbrev dFdiv := dInt CDivN fun i j => .int (i.fdiv j)
abbrev dMod := dInt (fun _ j => j ≠ 0) fun i j => .int (i.fmod j)
abbrev dPow := dInt CPow fun i j => .int (i ^ j.toNat)
abbrev dLt := dI0 fun i j => .bool (decide (i < j))
abbrev dLe := dI0 fun i j => .bool (decide (i ≤ j))
abbrev dGt := dI0 fun i j => .bool (decide (j < i))
abbrev dGe := dI0 fun i j => .bool (decide (j ≤ i))
theorem s_sub : S2 sSub dSub := s_int0
theorem s_fdiv : S2 sFdiv dFdiv := s_int
theorem s_mod : S2 sMod dMod := s_int
theorem s_pow : S2 sPow dPow := s_int
theorem s_lt : S2 sLt dLt := s_int0
theorem s_le : S2 sLe dLe := s_int0
theorem s_gt : S2 sGt dGt := s_int0
theorem s_ge : S2 sGe dGe := s_int0
def dAdd (d e : D) : Out D := match d, e with
  | .int i, .int j => .ok (.int (i + j))
  | .list a, .list b => if a.length + b.length ≤ 16777216 then .ok (.list (a ++ b)) else .bad
  | .tuple a, .tuple b => if a.length + b.length ≤ 16777216 then .ok (.tuple (a ++ b)) else .bad
  | .str a, .str b => if a.length + b.length ≤ 16777216 then .ok (.str (a ++ b)) else .bad
  | _, _ => .bad
@[simp] theorem dAdd_i (i j : Int) : dAdd (.int i) (.int j) = .ok (.int (i + j)) := rfl
@[simp] theorem dAdd_l (a b : List D) : dAdd (.list a) (.list b) = if a.length + b.length ≤ 16777216 then .ok (.list (a ++ b)) else .bad := rfl
@[simp] theorem dAdd_t (a b : List D) : dAdd (.tuple a) (.tuple b) = if a.length + b.length ≤ 16777216 then .ok (.tuple (a ++ b)) else .bad := rfl
@[simp] theorem dAdd_s (a b : Str) : dAdd (.str a) (.str b) = if a.length + b.length ≤ 16777216 then .ok (.str (a ++ b)) else .bad := rfl
theorem s_add : S2 sAdd dAdd := fun d e P h => by
  unfold dAdd at h
  unfold sAdd
  split at h
  · exact h _ rfl
  · exact ⟨(post_if h).1, (post_if h).2 _ rfl⟩
  · exact ⟨(post_if h).1, (post_if h).2 _ rfl⟩
  · exact ⟨(post_if h).1, (post_if h).2 _ rfl⟩
  · exact h.elim
def dAddL (d e : D) : Out (List D) := match d, e with
  | .list a, .list b => if a.length + b.length ≤ 16777216 then .ok (a ++ b) else .bad
  | _, _ => .bad
@[simp] theorem dAddL_l (a b : List D) : dAddL (.list a) (.list b) = if a.length + b.length ≤ 16777216 then .ok (a ++ b) else .bad := rfl
theorem s_addL : S2l sAdd dAddL := fun d e P h => by
  unfold dAddL at h
  unfold sAdd
  split at h
  · exact ⟨(post_if h).1, (post_if h).2⟩
  · exact h.elim
def dMul (d e : D) : Out D := match d, e with
  | .int i, .int j => if CMul i j then .ok (.int (i * j)) else .bad
  | .list a, .int j => if -(2 ^ 63) ≤ j ∧ j < 2 ^ 63 ∧ a.length * j.toNat ≤ 16777216 then .ok (.list (List.replicate j.toNat a).flatten) else .bad
  | _, _ => .bad
def dMulL (d e : D) : Out (List D) := match d, e with
  | .list a, .int j => if -(2 ^ 63) ≤ j ∧ j < 2 ^ 63 ∧ a.length * j.toNat ≤ 16777216 then .ok (List.replicate j.toNat a).flatten else .bad
  | _, _ => .bad
@[simp] theorem dMul_i (i j : Int) : dMul (.int i) (.int j) = if CMul i j then .ok (.int (i * j)) else .bad := rfl
@[simp] theorem dMul_l (a : List D) (j : Int) : dMul (.list a) (.int j) = if -(2 ^ 63) ≤ j ∧ j < 2 ^ 63 ∧ a.length * j.toNat ≤ 16777216 then .ok (.list (List.replicate j.toNat a).flatten) else .bad := rfl
@[simp] theorem dMulL_l (a : List D) (j : Int) : dMulL (.list a) (.int j) = if -(2 ^ 63) ≤ j ∧ j < 2 ^ 63 ∧ a.length * j.toNat ≤ 16777216 then .ok (List.replicate j.toNat a).flatten else .bad := rfl
theorem s_mul : S2 sMul dMul := fun d e P h => by
  unfold dMul at h
  unfold sMul
  split at h
  · exact ⟨(post_if h).1, (post_if h).2 _ rfl⟩
  · exact ⟨(post_if h).1.1, (post_if h).1.2.1, (post_if h).1.2.2, (post_if h).2 _ rfl⟩
  · exact h.elim
theorem s_mulL : S2l sMul dMulL := fun d e P h => by
  unfold dMulL at h
  unfold sMul
  split at h
  · exact ⟨(post_if h).1.1, (post_if h).1.2.1, (post_if h).1.2.2, (post_if h).2⟩
  · exact h.elim
/-! equality -/
def okB (d : D) : Bool := nodict d && SeqAt.shaped d
def eqOkB (d e : D) : Bool := match d, e with
  | .str _, .str _ => true
  | .int _, .int _ => true
  | d, e => okB d && okB e
theorem eqOk_of {d e : D} (h : eqOkB d e = true) : eqOk d e := by
  cases d <;> cases e <;> first | trivial | (simp only [eqOkB, Bool.and_eq_true, okB] at h; exact ⟨⟨h.1.1, h.1.2⟩, h.2.1, h.2.2⟩)
theorem beq_dec {α : Type} [BEq α] [LawfulBEq α] [DecidableEq α] (i j : α) : (i == j) = decide (i = j) := by by_cases h : i = j <;> simp [h]
def dEq (d e : D) : Out D := if eqOkB d e = true then .ok (.bool (PyData.eqv d e)) else .bad
def dNe (d e : D) : Out D := if eqOkB d e = true then .ok (.bool (!PyData.eqv d e)) else .bad
theorem s_eq : S2 sEq dEq := fun d e P h => ⟨eqOk_of (post_if h).1, (post_if h).2 _ rfl⟩
theorem s_ne : S2 sNe dNe := fun d e P h => ⟨eqOk_of (post_if h).1, (post_if h).2 _ rfl⟩
@[simp] theorem dEq_i (i j : Int) : dEq (.int i) (.int j) = .ok (.bool (decide (i = j))) := by
  show Out.ok (PyData.bool (i == j)) = _
  rw [beq_dec]
@[simp] theorem dNe_i (i j : Int) : dNe (.int i) (.int j) = .ok (.bool (!decide (i = j))) := by
  show Out.ok (PyData.bool (!(i == j))) = _
  rw [beq_dec]
@[simp] theorem dEq_s (i j : Str) : dEq (.str i) (.str j) = .ok (.bool (decide (i = j))) := by
  show Out.ok (PyData.bool (i == j)) = _
  rw [beq_dec]
@[simp] theorem dNe_s (i j : Str) : dNe (.str i) (.str j) = .ok (.bool (!decide (i = j))) := by
  show Out.ok (PyData.bool (!(i == j))) = _
  rw [beq_dec]
def dIn (d e : D) : Out D := match e with
  | .list ds => if okB d = true ∧ okB (.list ds) = true then .ok (.bool (ds.any fun z => PyData.eqv z d)) else .bad
  | _ => .bad
def dNotIn (d e : D) : Out D := match e with
  | .list ds => if okB d = true ∧ okB (.list ds) = true then .ok (.bool (!ds.any fun z => PyData.eqv z d)) else .bad
  | _ => .bad
@[simp] theorem dIn_l (d : D) (ds : List D) : dIn d (.list ds) = if okB d = true ∧ okB (.list ds) = true then .ok (.bool (ds.any fun z => PyData.eqv z d)) else .bad := rfl
@[simp] theorem dNotIn_l (d : D) (ds : List D) : dNotIn d (.list ds) = if okB d = true ∧ okB (.list ds) = true then .ok (.bool (!ds.any fun z => PyData.eqv z d)) else .bad := rfl
theorem okD_of {d : D} (h : okB d = true) : okD d := by
  simp only [okB, Bool.and_eq_true] at h; exact h
theorem s_in : S2 sIn dIn := fun d e P h => by
  unfold dIn at h
  unfold sIn
  split at h
  · obtain ⟨⟨h1, h2⟩, h3⟩ := post_if h
    exact ⟨okD_of h1, okD_of h2, h3 _ rfl⟩
  · exact h.elim
theorem s_notIn : S2 sNotIn dNotIn := fun d e P h => by
  unfold dNotIn at h
  unfold sNotIn
  split at h
  · obtain ⟨⟨h1, h2⟩, h3⟩ := post_if h
    exact ⟨okD_of h1, okD_of h2, h3 _ rfl⟩
  · exact h.elim
def dIsN (d e : D) : Out D := match e with | .none => .ok (.bool (isN d)) | _ => .bad
def dNotN (d e : D) : Out D := match e with | .none => .ok (.bool (!isN d)) | _ => .bad
def dIsB (d e : D) : Out D := match d, e with | .bool a, .bool b => .ok (.bool (decide (a = b))) | _, _ => .bad
def dNotB (d e : D) : Out D := match d, e with | .bool a, .bool b => .ok (.bool (!decide (a = b))) | _, _ => .bad
@[simp] theorem dIsN_n (d : D) : dIsN d .none = .ok (.bool (isN d)) := rfl
@[simp] theorem dNotN_n (d : D) : dNotN d .none = .ok (.bool (!isN d)) := rfl
@[simp] theorem dIsB_b (a b : Bool) : dIsB (.bool a) (.bool b) = .ok (.bool (decide (a = b))) := rfl
@[simp] theorem dNotB_b (a b : Bool) : dNotB (.bool a) (.bool b) = .ok (.bool (!decide (a = b))) := rfl
theorem s_isN : S2 sIsN dIsN := fun d e P h => by
  unfold dIsN at h
  unfold sIsN
  split at h
  · exact h _ rfl
  · exact h.elim
theorem s_notN : S2 sNotN dNotN := fun d e P h => by
  unfold dNotN at h
  unfold sNotN
  split at h
  · exact h _ rfl
  · exact h.elim
theorem s_isB : S2 sIsB dIsB := fun d e P h => by
  unfold dIsB at h
  unfold sIsB
  split at h
  · exact h _ rfl
  · exact h.elim
theorem s_notB : S2 sNotB dNotB := fun d e P h => by
  unfold dNotB at h
  unfold sNotB
  split at h
  · exact h _ rfl
  · exact h.elim
/-! built-ins -/
def dLen (ds : List D) : Out D := match ds with
  | [.list a] => .ok (.int a.length)
  | [.tuple a] => .ok (.int a.length)
  | _ => .bad
@[simp] theorem dLen_l (a : List D) : dLen [.list a] = .ok (.int a.length) := rfl
@[simp] theorem dLen_t (a : List D) : dLen [.tuple a] = .ok (.int a.length) := rfl
theorem s_len : SN sLen dLen := fun d P h => by
  unfold dLen at h
  unfold sLen
  split at h
  · exact h _ rfl
  · exact h _ rfl
  · exact h.elim
def dListL (ds : List D) : Out (List D) := match ds with
  | [.list a] => .ok a
  | [.tuple a] => .ok a
  | _ => .bad
@[simp] theorem dListL_l (a : List D) : dListL [.list a] = .ok a := rfl
@[simp] theorem dListL_t (a : List D) : dListL [.tuple a] = .ok a := rfl
theorem s_listL : SNl sList dListL := fun d P h => by
  unfold dListL at h
  unfold sList
  split at h
  · exact h
  · exact h
  · exact h.elim
def dTuple (ds : List D) : Out D := match ds with
  | [.list a] => .ok (.tuple a)
  | [.tuple a] => .ok (.tuple a)
  | _ => .bad
@[simp] theorem dTuple_l (a : List D) : dTuple [.list a] = .ok (.tuple a) := rfl
@[simp] theorem dTuple_t (a : List D) : dTuple [.tuple a] = .ok (.tuple a) := rfl
theorem s_tuple : SN sTuple dTuple := fun d P h => by
  unfold dTuple at h
  unfold sTuple
  split at h
  · exact h _ rfl
  · exact h _ rfl
  · exact h.elim
def dInt1 (ds : List D) : Out D := match ds with
  | [.int i] => .ok (.int i)
  | [.bool b] => .ok (.int (if b then 1 else 0))
  | _ => .bad
@[simp] theorem dInt1_i (i : Int) : dInt1 [.int i] = .ok (.int i) := rfl
theorem s_int1 : SN sInt1 dInt1 := fun d P h => by
  unfold dInt1 at h
  unfold sInt1
  split at h
  · exact h _ rfl
  · exact h _ rfl
  · exact h.elim
def reprOk (d : D) : Bool := rOk d && decide (d.depth ≤ 64) && decide (rSz d ≤ 16777216)
def dRepr (ds : List D) : Out D := match ds with
  | [d] => if reprOk d = true then .ok (.str d.shown) else .bad
  | _ => .bad
@[simp] theorem dRepr_1 (d : D) : dRepr [d] = if reprOk d = true then .ok (.str d.shown) else .bad := rfl
theorem s_repr : SN sRepr dRepr := fun d P h => by
  unfold dRepr at h
  split at h
  · obtain ⟨h1, h2⟩ := post_if h
    simp only [reprOk, Bool.and_eq_true, decide_eq_true_eq] at h1
    exact sRepr_ok h1.1.1 h1.1.2 h1.2 (h2 _ rfl)
  · exact h.elim
def unB : List D → Option (List Bool)
  | [] => some []
  | .bool b :: r => (unB r).map (b :: ·)
  | _ :: _ => none
theorem unB_is : ∀ {xs : List D} {bs : List Bool}, unB xs = some bs → xs = bs.map PyData.bool
  | [], _, h => by cases h; rfl
  | .bool b :: r, bs, h => by
    unfold unB at h
    cases e : unB r with
    | none => rw [e] at h; cases h
    | some cs => rw [e] at h; cases h; rw [List.map_cons, unB_is e]
  | .none :: r, _, h => by cases h
  | .int _ :: r, _, h => by cases h
  | .str _ :: r, _, h => by cases h
  | .list _ :: r, _, h => by cases h
  | .tuple _ :: r, _, h => by cases h
  | .dict _ :: r, _, h => by cases h
@[simp] theorem unB_map (bs : List Bool) : unB (bs.map PyData.bool) = some bs := by
  induction bs with
  | nil => rfl
  | cons b r ih => simp [unB, ih]
def dAll (ds : List D) : Out D := match ds with
  | [.list xs] => match unB xs with | some bs => .ok (.bool (bs.all id)) | none => .bad
  | _ => .bad
def dAny (ds : List D) : Out D := match ds with
  | [.list xs] => match unB xs with | some bs => .ok (.bool (bs.any id)) | none => .bad
  | _ => .bad
@[simp] theorem dAll_l (bs : List Bool) : dAll [.list (bs.map PyData.bool)] = .ok (.bool (bs.all id)) := by simp [dAll]
@[simp] theorem dAny_l (bs : List Bool) : dAny [.list (bs.map PyData.bool)] = .ok (.bool (bs.any id)) := by simp [dAny]
theorem s_all : SN sAll dAll := fun d P h => by
  unfold dAll at h
  unfold sAll
  split at h
  · split at h
    · rename_i xs bs e
      exact ⟨bs, unB_is e, h _ rfl⟩
    · exact h.elim
  · exact h.elim
theorem s_any : SN sAny dAny := fun d P h => by
  unfold dAny at h
  unfold sAny
  split at h
  · split at h
    · rename_i xs bs e
      exact ⟨bs, unB_is e, h _ rfl⟩
    · exact h.elim
  · exact h.elim
def unI : List D → Option (List Int)
  | [] => some []
  | .int b :: r => (unI r).map (b :: ·)
  | _ :: _ => none
theorem unI_is : ∀ {xs : List D} {bs : List Int}, unI xs = some bs → xs = bs.map PyData.int
  | [], _, h => by cases h; rfl
  | .int b :: r, bs, h => by
    unfold unI at h
    cases e : unI r with
    | none => rw [e] at h; cases h
    | some cs => rw [e] at h; cases h; rw [List.map_cons, unI_is e]
  | .none :: r, _, h => by cases h
  | .bool _ :: r, _, h => by cases h
  | .str _ :: r, _, h => by cases h
  | .list _ :: r, _, h => by cases h
  | .tuple _ :: r, _, h => by cases h
  | .dict _ :: r, _, h => by cases h
@[simp] theorem unI_map (bs : List Int) : unI (bs.map PyData.int) = some bs := by
  induction bs with
  | nil => rfl
  | cons b r ih => simp [unI, ih]
def dSum (ds : List D) : Out D := match ds with
  | [.list xs] => match unI xs with | some bs => .ok (.int bs.sum) | none => .bad
  | _ => .bad
@[simp] theorem dSum_l (bs : List Int) : dSum [.list (bs.map PyData.int)] = .ok (.int bs.sum) := by simp [dSum]
theorem s_sum : SN sSum dSum := fun d P h => by
  unfold dSum at h
  unfold sSum
  split at h
  · split at h
    · rename_i xs bs e
      exact ⟨bs, unI_is e, h _ rfl⟩
    · exact h.elim
  · exact h.elim
def dMax2 (ds : List D) : Out D := match ds with | [.int i, .int j] => .ok (.int (if j > i then j else i)) | _ => .bad
def dMin2 (ds : List D) : Out D := match ds with | [.int i, .int j] => .ok (.int (if j < i then j else i)) | _ => .bad
def dAbs (ds : List D) : Out D := match ds with | [.int i] => .ok (.int (if i < 0 then -i else i)) | _ => .bad
@[simp] theorem dMax2_i (i j : Int) : dMax2 [.int i, .int j] = .ok (.int (if j > i then j else i)) := rfl
@[simp] theorem dMin2_i (i j : Int) : dMin2 [.int i, .int j] = .ok (.int (if j < i then j else i)) := rfl
@[simp] theorem dAbs_i (i : Int) : dAbs [.int i] = .ok (.int (if i < 0 then -i else i)) := rfl
theorem s_max2 : SN sMax2 dMax2 := fun d P h => by
  unfold dMax2 at h
  unfold sMax2
  split at h
  · exact h _ rfl
  · exact h.elim
theorem s_min2 : SN sMin2 dMin2 := fun d P h => by
  unfold dMin2 at h
  unfold sMin2
  split at h
  · exact h _ rfl
  · exact h.elim
theorem s_abs : SN sAbs dAbs := fun d P h => by
  unfold dAbs at h
  unfold sAbs
  split at h
  · exact h _ rfl
  · exact h.elim
def dNeg (d : D) : Out D := match d with | .int i => .ok (.int (-i)) | _ => .bad
@[simp] theorem dNeg_i (i : Int) : dNeg (.int i) = .ok (.int (-i)) := rfl
theorem s_neg : S1 sNeg dNeg := fun d P h => by
  unfold dNeg at h
  unfold sNeg
  split at h
  · exact h _ rfl
  · exact h.elim
def atO (ds : List D) (i : Int) : Out D := match L2.atI ds i with | some v => .ok v | none => .bad
def dIx (d e : D) : Out D := match d, e with
  | .list ds, .int i => atO ds i
  | .tuple ds, .int i => atO ds i
  | _, _ => .bad
@[simp] theorem dIx_l (ds : List D) (i : Int) : dIx (.list ds) (.int i) = atO ds i := rfl
@[simp] theorem dIx_t (ds : List D) (i : Int) : dIx (.tuple ds) (.int i) = atO ds i := rfl
theorem s_ix : S2 sIx dIx := fun d e P h => by
  unfold dIx at h
  unfold sIx
  split at h
  · unfold atO at h
    split at h
    · rename_i v e; exact ⟨v, e, h _ rfl⟩
    · exact h.elim
  · unfold atO at h
    split at h
    · rename_i v e; exact ⟨v, e, h _ rfl⟩
    · exact h.elim
  · exact h.elim
/-! slices -/
def oPart (t : Out D) : Out (Option Int) := t.bind fun d => match d with | .int i => .ok (some i) | _ => .bad
@[simp] theorem oPart_i (i : Int) : oPart (.ok (.int i)) = .ok (some i) := rfl
theorem r_noPart : RO wNoPart s s (.ok none) id X := fun _ _ h => h
theorem r_part {w : WE D} {t : Out D} (h : RO w s s1 t id X) : RO (wPart w) s s1 (oPart t) id X := fun c P q => h c _ ((Out.post_bind q).imp fun a p => by
  cases a <;> exact p)
def dSl (d : D) (lo hi : Option Int) : Out D := match d with
  | .list ds => .ok (.list (cutD ds lo hi))
  | .tuple ds => if HT.sIx ds.length 0 lo = 0 ∧ HT.sIx ds.length ds.length hi = ds.length then .bad else .ok (.tuple (cutD ds lo hi))
  | _ => .bad
def dSlL (d : D) (lo hi : Option Int) : Out (List D) := match d with
  | .list ds => .ok (cutD ds lo hi)
  | _ => .bad
def oSl (f : D → Option Int → Option Int → Out α) (t : Out D) (u v : Out (Option Int)) : Out α := t.bind fun d => u.bind fun lo => v.bind fun hi => (f d lo hi).noer
@[simp] theorem oSl_ok (f : D → Option Int → Option Int → Out α) (d : D) (lo hi : Option Int) : oSl f (.ok d) (.ok lo) (.ok hi) = (f d lo hi).noer := rfl
theorem r_sl {wa : WE D} {wl wh : WE (Option Int)} {t : Out D} {u v : Out (Option Int)} (h : RO wa s s1 t id X) (hl : RO wl s1 s2 u id X) (hh : RO wh s2 s3 v id X) : ROz (wSl wa wl wh) s s3 (oSl dSl t u v) X := fun c P q =>
  h c _ ((Out.post_bind q).imp fun d p => hl c _ ((Out.post_bind p).imp fun lo p => hh c _ ((Out.post_bind p).imp fun hi p => by
    have p := noer_post p
    unfold dSl at p
    cases d with
    | list ds => exact p _ rfl
    | tuple ds =>
      dsimp only at p ⊢
      split at p
      · exact p.elim
      · rename_i hn; exact ⟨hn, p _ rfl⟩
    | _ => exact p.elim)))
theorem r_slL {wa : WE D} {wl wh : WE (Option Int)} {t : Out D} {u v : Out (Option Int)} (h : RO wa s s1 t id X) (hl : RO wl s1 s2 u id X) (hh : RO wh s2 s3 v id X) : RO (wSl wa wl wh) s s3 (oSl dSlL t u v) .ls X := fun c P q =>
  h c _ ((Out.post_bind q).imp fun d p => hl c _ ((Out.post_bind p).imp fun lo p => hh c _ ((Out.post_bind p).imp fun hi p => by
    have p := noer_post p
    unfold dSlL at p
    cases d with
    | list ds => exact p
    | _ => exact p.elim)))
/-! sorted -/
abbrev leD : D → D → Bool := PySem.W.dataLe false fun d => d
def mergeO (le : D → D → Bool) : Nat → List D → List D → List D
  | 0, xs, ys => xs ++ ys
  | _ + 1, [], ys => ys
  | _ + 1, x :: xs, [] => x :: xs
  | n + 1, x :: xs, y :: ys => if le x y = true then x :: mergeO le n xs (y :: ys) else y :: mergeO le n (x :: xs) ys
def msort (le : D → D → Bool) : Nat → List D → List D
  | 0, xs => xs
  | n + 1, xs => match xs with
    | [] => []
    | [x] => [x]
    | x :: y :: r => let h := (x :: y :: r).length / 2; mergeO le (x :: y :: r).length (msort le n ((x :: y :: r).take h)) (msort le n ((x :: y :: r).drop h))
theorem mergeO_perm (le : D → D → Bool) : ∀ (n : Nat) (xs ys : List D), (mergeO le n xs ys).Perm (xs ++ ys)
  | 0, xs, ys => .refl _
  | n + 1, [], ys => .refl _
  | n + 1, x :: xs, [] => by rw [List.append_nil]; exact .refl _
  | n + 1, x :: xs, y :: ys => by
    unfold mergeO
    split
    · exact (mergeO_perm le n xs (y :: ys)).cons x
    · refine ((mergeO_perm le n (x :: xs) ys).cons y).trans ?_
      exact (List.perm_middle (a := y) (l₁ := x :: xs) (l₂ := ys)).symm
theorem mergeO_sorted {le : D → D → Bool} (T : PySem.W.TotalLe le) : ∀ (n : Nat) (xs ys : List D), xs.length + ys.length ≤ n → xs.Pairwise (fun a b => le a b = true) → ys.Pairwise (fun a b => le a b = true) → (mergeO le n xs ys).Pairwise (fun a b => le a b = true)
  | 0, xs, ys, h, _, _ => by
    have hx : xs = [] := List.eq_nil_of_length_eq_zero (by omega)
    have hy : ys = [] := List.eq_nil_of_length_eq_zero (by omega)
    subst hx hy; exact .nil
  | n + 1, [], ys, _, _, hy => hy
  | n + 1, x :: xs, [], _, hx, _ => hx
  | n + 1, x :: xs, y :: ys, h, hx, hy => by
    have hx' := List.pairwise_cons.mp hx
    have hy' := List.pairwise_cons.mp hy
    unfold mergeO
    rw [List.length_cons, List.length_cons] at h
    split
    · rename_i hl
      refine List.pairwise_cons.mpr ⟨fun a ha => ?_, mergeO_sorted T n xs (y :: ys) (by rw [List.length_cons]; omega) hx'.2 hy⟩
      rcases List.mem_append.mp ((mergeO_perm le n xs (y :: ys)).mem_iff.mp ha) with q | q
      · exact hx'.1 a q
      · rcases List.mem_cons.mp q with rfl | q
        · exact hl
        · exact T.trans _ _ _ hl (hy'.1 a q)
    · rename_i hl
      have hl : le y x = true := (T.total x y).resolve_left hl
      refine List.pairwise_cons.mpr ⟨fun a ha => ?_, mergeO_sorted T n (x :: xs) ys (by rw [List.length_cons]; omega) hx hy'.2⟩
      rcases List.mem_append.mp ((mergeO_perm le n (x :: xs) ys).mem_iff.mp ha) with q | q
      · rcases List.mem_cons.mp q with rfl | q
        · exact hl
        · exact T.trans _ _ _ hl (hx'.1 a q)
      · exact hy'.1 a q
theorem msort_perm (le : D → D → Bool) : ∀ (n : Nat) (xs : List D), (msort le n xs).Perm xs
  | 0, xs => .refl _
  | n + 1, [] => .refl _
  | n + 1, [x] => .refl _
  | n + 1, x :: y :: r => by
    unfold msort
    refine (mergeO_perm le _ _ _).trans ?_
    refine ((msort_perm le n _).append (msort_perm le n _)).trans ?_
    rw [List.take_append_drop]
theorem msort_sorted {le : D → D → Bool} (T : PySem.W.TotalLe le) : ∀ (n : Nat) (xs : List D), xs.length ≤ 2 ^ n → (msort le n xs).Pairwise (fun a b => le a b = true)
  | 0, xs, h => by
    match xs, h with
    | [], _ => exact .nil
    | [x], _ => exact List.pairwise_singleton _ _
    | _ :: _ :: _, h => simp at h
  | n + 1, [], h => .nil
  | n + 1, [x], h => List.pairwise_singleton _ _
  | n + 1, x :: y :: r, h => by
    unfold msort
    have e : (2 : Nat) ^ (n + 1) = 2 * 2 ^ n := by rw [Nat.pow_succ, Nat.mul_comm]
    rw [e] at h
    refine mergeO_sorted T _ _ _ ?_ (msort_sorted T n _ ?_) (msort_sorted T n _ ?_)
    · rw [(msort_perm le n _).length_eq, (msort_perm le n _).length_eq, ← List.length_append, List.take_append_drop]; exact Nat.le_refl _
    · rw [List.length_take]; omega
    · rw [List.length_drop]; omega
mutual
theorem toks_inj : ∀ (x y : D) (a b : List (Int ⊕ List Nat)), PySem.W.alike x y = true → PySem.W.keyToks x ++ a = PySem.W.keyToks y ++ b → x = y ∧ a = b
  | .none, .none, a, b, _, h => ⟨rfl, h⟩
  | .bool p, .bool q, a, b, _, h => by
    simp only [PySem.W.keyToks, List.cons_append, List.nil_append, List.cons.injEq, Sum.inl.injEq] at h
    refine ⟨?_, h.2⟩
    cases p <;> cases q <;> simp_all
  | .int p, .int q, a, b, _, h => by
    simp only [PySem.W.keyToks, List.cons_append, List.nil_append, List.cons.injEq, Sum.inl.injEq] at h
    exact ⟨by rw [h.1], h.2⟩
  | .str p, .str q, a, b, _, h => by
    simp only [PySem.W.keyToks, List.cons_append, List.nil_append, List.cons.injEq, Sum.inr.injEq] at h
    exact ⟨by rw [PySem.W.str_of_cps h.1], h.2⟩
  | .list xs, .list ys, a, b, hl, h => by
    simp only [PySem.W.keyToks] at h
    obtain ⟨e, e2⟩ := toks_injAll xs ys a b (by simpa [PySem.W.alike] using hl) h
    exact ⟨by rw [e], e2⟩
  | .tuple xs, .tuple ys, a, b, hl, h => by
    simp only [PySem.W.keyToks] at h
    obtain ⟨e, e2⟩ := toks_injAll xs ys a b (by simpa [PySem.W.alike] using hl) h
    exact ⟨by rw [e], e2⟩
  | .dict _, _, a, b, hl, h => by simp [PySem.W.alike] at hl
  | .none, .bool _, a, b, hl, h => by simp [PySem.W.alike] at hl
  | .none, .int _, a, b, hl, h => by simp [PySem.W.alike] at hl
  | .none, .str _, a, b, hl, h => by simp [PySem.W.alike] at hl
  | .none, .list _, a, b, hl, h => by simp [PySem.W.alike] at hl
  | .none, .tuple _, a, b, hl, h => by simp [PySem.W.alike] at hl
  | .none, .dict _, a, b, hl, h => by simp [PySem.W.alike] at hl
  | .bool _, .none, a, b, hl, h => by simp [PySem.W.alike] at hl
  | .bool _, .int _, a, b, hl, h => by simp [PySem.W.alike] at hl
  | .bool _, .str _, a, b, hl, h => by simp [PySem.W.alike] at hl
  | .bool _, .list _, a, b, hl, h => by simp [PySem.W.alike] at hl
  | .bool _, .tuple _, a, b, hl, h => by simp [PySem.W.alike] at hl
  | .bool _, .dict _, a, b, hl, h => by simp [PySem.W.alike] at hl
  | .int _, .none, a, b, hl, h => by simp [PySem.W.alike] at hl
  | .int _, .bool _, a, b, hl, h => by simp [PySem.W.alike] at hl
  | .int _, .str _, a, b, hl, h => by simp [PySem.W.alike] at hl
  | .int _, .list _, a, b, hl, h => by simp [PySem.W.alike] at hl
  | .int _, .tuple _, a, b, hl, h => by simp [PySem.W.alike] at hl
  | .int _, .dict _, a, b, hl, h => by simp [PySem.W.alike] at hl
  | .str _, .none, a, b, hl, h => by simp [PySem.W.alike] at hl
  | .str _, .bool _, a, b, hl, h => by simp [PySem.W.alike] at hl
  | .str _, .int _, a, b, hl, h => by simp [PySem.W.alike] at hl
  | .str _, .list _, a, b, hl, h => by simp [PySem.W.alike] at hl
  | .str _, .tuple _, a, b, hl, h => by simp [PySem.W.alike] at hl
  | .str _, .dict _, a, b, hl, h => by simp [PySem.W.alike] at hl
  | .list _, .none, a, b, hl, h => by simp [PySem.W.alike] at hl
  | .list _, .bool _, a, b, hl, h => by simp [PySem.W.alike] at hl
  | .list _, .int _, a, b, hl, h => by simp [PySem.W.alike] at hl
  | .list _, .str _, a, b, hl, h => by simp [PySem.W.alike] at hl
  | .list _, .tuple _, a, b, hl, h => by simp [PySem.W.alike] at hl
  | .list _, .dict _, a, b, hl, h => by simp [PySem.W.alike] at hl
  | .tuple _, .none, a, b, hl, h => by simp [PySem.W.alike] at hl
  | .tuple _, .bool _, a, b, hl, h => by simp [PySem.W.alike] at hl
  | .tuple _, .int _, a, b, hl, h => by simp [PySem.W.alike] at hl
  | .tuple _, .str _, a, b, hl, h => by simp [PySem.W.alike] at hl
  | .tuple _, .list _, a, b, hl, h => by simp [PySem.W.alike] at hl
  | .tuple _, .dict _, a, b, hl, h => by simp [PySem.W.alike] at hl
theorem toks_injAll : ∀ (xs ys : List D) (a b : List (Int ⊕ List Nat)), PySem.W.alikeAll xs ys = true → PySem.W.keyToksAll xs ++ a = PySem.W.keyToksAll ys ++ b → xs = ys ∧ a = b
  | [], [], a, b, _, h => by
    simp only [PySem.W.keyToksAll, List.cons_append, List.nil_append, List.cons.injEq] at h
    exact ⟨rfl, h.2⟩
  | [], _ :: _, a, b, _, h => by simp [PySem.W.keyToksAll] at h
  | _ :: _, [], a, b, _, h => by simp [PySem.W.keyToksAll] at h
  | x :: xs, y :: ys, a, b, hl, h => by
    simp only [PySem.W.alikeAll, Bool.and_eq_true] at hl
    simp only [PySem.W.keyToksAll, List.cons_append, List.append_assoc, List.cons.injEq] at h
    obtain ⟨e, e2⟩ := toks_inj x y _ _ hl.1 h.2
    obtain ⟨e3, e4⟩ := toks_injAll xs ys a b hl.2 e2
    exact ⟨by rw [e, e3], e4⟩
end
theorem leD_total : PySem.W.TotalLe leD := PySem.W.sortLe_total _ _ _
theorem leD_anti {x y : D} (h : PySem.W.alike x y = true) (h1 : leD x y = true) (h2 : leD y x = true) : x = y := by
  have h1 : (!PyProof.Rows.lexLt itemOrd (PySem.W.keyToks y) (PySem.W.keyToks x)) = true := h1
  have h2 : (!PyProof.Rows.lexLt itemOrd (PySem.W.keyToks x) (PySem.W.keyToks y)) = true := h2
  have e : PySem.W.keyToks x = PySem.W.keyToks y := by
    by_cases q : PySem.W.keyToks x = PySem.W.keyToks y
    · exact q
    · exfalso
      exact q ((listOrd itemOrd).total _ _ (by simpa using h2) (by simpa using h1))
  exact (toks_inj x y [] [] h (by rw [e])).1
def isI : D → Bool
  | .int _ => true
  | _ => false
def isTI : D → Bool
  | .tuple (x :: r) => isI x && r.all isI
  | _ => false
def isTTI : D → Bool
  | .tuple (x :: r) => isTI x && r.all isTI
  | _ => false
def isS : D → Bool
  | .str _ => true
  | _ => false
def isLI : D → Bool
  | .list xs => xs.all isI
  | _ => false
def sortOk (xs : List D) : Bool := xs.all isI || xs.all isTI || xs.all isTTI || xs.all isS || xs.all isLI || (xs.all (fun d => xs.all fun e => PySem.W.alike d e) && (nodicts xs && xs.all fun d => decide (d.depth ≤ 60)) && (xs.all (fun d => match d with | .tuple (_ :: _) => true | _ => false) || xs.all fun d => match d with | .tuple _ => false | .none => false | _ => true))
theorem alikeAll_I : ∀ {xs ys : List D}, xs.all isI = true → ys.all isI = true → PySem.W.alikeAll xs ys = true
  | [], _, _, _ => by simp [PySem.W.alikeAll]
  | _ :: _, [], _, _ => by simp [PySem.W.alikeAll]
  | x :: xs, y :: ys, hx, hy => by
    simp only [List.all_cons, Bool.and_eq_true] at hx hy
    rw [PySem.W.alikeAll, alikeAll_I hx.2 hy.2, Bool.and_true]
    obtain ⟨hx, _⟩ := hx; obtain ⟨hy, _⟩ := hy
    cases x <;> simp [isI] at hx
    cases y <;> simp [isI] at hy
    rfl
theorem alike_I {x y : D} (hx : isI x = true) (hy : isI y = true) : PySem.W.alike x y = true := by
  cases x <;> simp [isI] at hx
  cases y <;> simp [isI] at hy
  rfl
theorem isTI_is {x : D} (h : isTI x = true) : ∃ a r, x = .tuple (a :: r) ∧ (a :: r).all isI = true := by
  cases x <;> simp [isTI] at h
  rename_i xs
  cases xs with
  | nil => simp [isTI] at h
  | cons a r => exact ⟨a, r, rfl, by simpa [isTI] using h⟩
theorem isTTI_is {x : D} (h : isTTI x = true) : ∃ a r, x = .tuple (a :: r) ∧ (a :: r).all isTI = true := by
  cases x <;> simp [isTTI] at h
  rename_i xs
  cases xs with
  | nil => simp [isTTI] at h
  | cons a r => exact ⟨a, r, rfl, by simpa [isTTI] using h⟩
theorem isLI_is {x : D} (h : isLI x = true) : ∃ r, x = .list r ∧ r.all isI = true := by
  cases x <;> simp [isLI] at h
  rename_i xs
  exact ⟨xs, rfl, by simpa [isLI] using h⟩
theorem alike_TI {x y : D} (hx : isTI x = true) (hy : isTI y = true) : PySem.W.alike x y = true := by
  obtain ⟨a, r, rfl, h1⟩ := isTI_is hx
  obtain ⟨b, t, rfl, h2⟩ := isTI_is hy
  rw [PySem.W.alike]; exact alikeAll_I h1 h2
theorem alike_LI {x y : D} (hx : isLI x = true) (hy : isLI y = true) : PySem.W.alike x y = true := by
  obtain ⟨r, rfl, h1⟩ := isLI_is hx
  obtain ⟨t, rfl, h2⟩ := isLI_is hy
  rw [PySem.W.alike]; exact alikeAll_I h1 h2
theorem alikeAll_TI : ∀ {xs ys : List D}, xs.all isTI = true → ys.all isTI = true → PySem.W.alikeAll xs ys = true
  | [], _, _, _ => by simp [PySem.W.alikeAll]
  | _ :: _, [], _, _ => by simp [PySem.W.alikeAll]
  | x :: xs, y :: ys, hx, hy => by
    simp only [List.all_cons, Bool.and_eq_true] at hx hy
    rw [PySem.W.alikeAll, alikeAll_TI hx.2 hy.2, Bool.and_true]
    exact alike_TI hx.1 hy.1
theorem alike_TTI {x y : D} (hx : isTTI x = true) (hy : isTTI y = true) : PySem.W.alike x y = true := by
  obtain ⟨a, r, rfl, h1⟩ := isTTI_is hx
  obtain ⟨b, t, rfl, h2⟩ := isTTI_is hy
  rw [PySem.W.alike]; exact alikeAll_TI h1 h2
theorem nodicts_of {p : D → Bool} (hp : ∀ d, p d = true → nodict d = true) : ∀ {xs : List D}, xs.all p = true → nodicts xs = true
  | [], _ => rfl
  | x :: xs, h => by
    simp only [List.all_cons, Bool.and_eq_true] at h
    rw [nodicts, hp x h.1, nodicts_of hp h.2]; rfl
theorem depthAll_of {p : D → Bool} {n : Nat} (hp : ∀ d, p d = true → d.depth ≤ n) : ∀ {xs : List D}, xs.all p = true → PyData.depthAll xs ≤ n
  | [], _ => Nat.zero_le _
  | x :: xs, h => by
    simp only [List.all_cons, Bool.and_eq_true] at h
    rw [PyData.depthAll]
    have h1 := hp x h.1
    have h2 := depthAll_of hp h.2
    omega
theorem plain_I {d : D} (h : isI d = true) : nodict d = true ∧ d.depth ≤ 0 := by
  cases d <;> simp [isI] at h
  exact ⟨rfl, by simp [PyData.depth]⟩
theorem plain_TI {d : D} (h : isTI d = true) : nodict d = true ∧ d.depth ≤ 1 := by
  obtain ⟨a, r, rfl, h1⟩ := isTI_is h
  refine ⟨nodicts_of (fun d h => (plain_I h).1) h1, ?_⟩
  have := depthAll_of (n := 0) (fun d h => (plain_I h).2) h1
  rw [PyData.depth]
  omega
theorem plain_LI {d : D} (h : isLI d = true) : nodict d = true ∧ d.depth ≤ 1 := by
  obtain ⟨r, rfl, h1⟩ := isLI_is h
  refine ⟨nodicts_of (fun d h => (plain_I h).1) h1, ?_⟩
  have := depthAll_of (n := 0) (fun d h => (plain_I h).2) h1
  rw [PyData.depth]
  omega
theorem plain_TTI {d : D} (h : isTTI d = true) : nodict d = true ∧ d.depth ≤ 2 := by
  obtain ⟨a, r, rfl, h1⟩ := isTTI_is h
  refine ⟨nodicts_of (fun d h => (plain_TI h).1) h1, ?_⟩
  have := depthAll_of (n := 1) (fun d h => (plain_TI h).2) h1
  rw [PyData.depth]
  omega
theorem plain_S {d : D} (h : isS d = true) : nodict d = true ∧ d.depth ≤ 0 := by
  cases d <;> simp [isS] at h
  exact ⟨rfl, by simp [PyData.depth]⟩
theorem alike_S {x y : D} (hx : isS x = true) (hy : isS y = true) : PySem.W.alike x y = true := by
  cases x <;> simp [isS] at hx
  cases y <;> simp [isS] at hy
  rfl
theorem sortOk_is {xs : List D} (h : sortOk xs = true) : nodicts xs = true ∧ PySem.W.AllAlike xs ∧ PySem.W.Sortable xs ∧ ∀ d ∈ xs, d.depth ≤ 60 := by
  have key : ∀ {p : D → Bool} {n : Nat}, n ≤ 60 → (∀ d, p d = true → nodict d = true ∧ d.depth ≤ n) → (∀ x y, p x = true → p y = true → PySem.W.alike x y = true) → xs.all p = true → nodicts xs = true ∧ PySem.W.AllAlike xs ∧ ∀ d ∈ xs, d.depth ≤ 60 := fun hn h1 h2 h3 => by
    have h4 := List.all_eq_true.mp h3
    exact ⟨nodicts_of (fun d h => (h1 d h).1) h3, fun x hx y hy => h2 x y (h4 x hx) (h4 y hy), fun d hd => Nat.le_trans (h1 d (h4 d hd)).2 hn⟩
  unfold sortOk at h
  simp only [Bool.or_eq_true] at h
  rcases h with ((((h | h) | h) | h) | h) | h
  · obtain ⟨h1, h2, h3⟩ := key (by omega) (fun d => plain_I) (fun x y => alike_I) h
    exact ⟨h1, h2, .inr fun d hd => by
      have := List.all_eq_true.mp h d hd
      cases d <;> simp_all [isI], h3⟩
  · obtain ⟨h1, h2, h3⟩ := key (by omega) (fun d => plain_TI) (fun x y => alike_TI) h
    exact ⟨h1, h2, .inl fun d hd => by
      obtain ⟨a, r, e, _⟩ := isTI_is (List.all_eq_true.mp h d hd)
      exact ⟨a, r, e⟩, h3⟩
  · obtain ⟨h1, h2, h3⟩ := key (by omega) (fun d => plain_TTI) (fun x y => alike_TTI) h
    exact ⟨h1, h2, .inl fun d hd => by
      obtain ⟨a, r, e, _⟩ := isTTI_is (List.all_eq_true.mp h d hd)
      exact ⟨a, r, e⟩, h3⟩
  · obtain ⟨h1, h2, h3⟩ := key (by omega) (fun d => plain_S) (fun x y => alike_S) h
    exact ⟨h1, h2, .inr fun d hd => by
      have := List.all_eq_true.mp h d hd
      cases d <;> simp_all [isS], h3⟩
  · obtain ⟨h1, h2, h3⟩ := key (by omega) (fun d => plain_LI) (fun x y => alike_LI) h
    exact ⟨h1, h2, .inr fun d hd => by
      obtain ⟨r, rfl, _⟩ := isLI_is (List.all_eq_true.mp h d hd)
      simp, h3⟩
  · simp only [Bool.and_eq_true, Bool.or_eq_true, List.all_eq_true, decide_eq_true_eq] at h
    obtain ⟨⟨h1, h2, h3⟩, h4⟩ := h
    refine ⟨h2, h1, ?_, h3⟩
    rcases h4 with h4 | h4
    · refine .inl fun d hd => ?_
      have := h4 d hd
      split at this
      · exact ⟨_, _, rfl⟩
      · cases this
    · refine .inr fun d hd => ?_
      have := h4 d hd
      cases d <;> simp_all
def sortD (xs : List D) : List D := msort leD 24 xs
theorem sortD_perm (xs : List D) : (sortD xs).Perm xs := msort_perm _ _ _
theorem sortD_sorted {xs : List D} (h : xs.length ≤ 16777216) : (sortD xs).Pairwise (fun a b => leD a b = true) := msort_sorted leD_total 24 xs h
theorem sorted_eq {xs ys : List D} (hx : xs.Pairwise (fun a b => leD a b = true)) (hy : ys.Pairwise (fun a b => leD a b = true)) (hp : xs.Perm ys) (ha : PySem.W.AllAlike xs) : xs = ys := by
  refine List.Perm.eq_of_pairwise (fun a b h1 h2 => leD_anti ?_) hx hy hp
  exact ha a h1 b (hp.mem_iff.mpr h2)
theorem sortD_is {xs : List D} (h : sortOk xs = true) (hl : xs.length ≤ 16777216) : xs.mergeSort leD = sortD xs := by
  have ha := (sortOk_is h).2.1
  have hp : (xs.mergeSort leD).Perm xs := List.mergeSort_perm xs leD
  refine sorted_eq (PySem.W.sort_pairwise leD_total xs) (sortD_sorted hl) (hp.trans (sortD_perm xs).symm) ?_
  exact fun x hx y hy => ha x (hp.mem_iff.mp hx) y (hp.mem_iff.mp hy)
def dSortL (ds : List D) : Out (List D) := match ds with
  | [.list xs] => if sortOk xs = true ∧ xs.length ≤ 16777216 then .ok (sortD xs) else .bad
  | [.tuple xs] => if sortOk xs = true ∧ xs.length ≤ 16777216 then .ok (sortD xs) else .bad
  | _ => .bad
@[simp] theorem dSortL_t (xs : List D) : dSortL [.tuple xs] = if sortOk xs = true ∧ xs.length ≤ 16777216 then .ok (sortD xs) else .bad := rfl
@[simp] theorem dSortL_l (xs : List D) : dSortL [.list xs] = if sortOk xs = true ∧ xs.length ≤ 16777216 then .ok (sortD xs) else .bad := rfl
theorem s_sortL : SNl sSortD dSortL := fun d P h => by
  unfold dSortL at h
  unfold sSortD
  split at h
  · obtain ⟨⟨h1, h2⟩, h3⟩ := post_if h
    obtain ⟨k1, k2, k3, k4⟩ := sortOk_is h1
    exact ⟨k1, k2, k3, k4, h2, by rw [show (List.mergeSort _ (PySem.W.dataLe false fun d => d)) = sortD _ from sortD_is h1 h2]; exact h3⟩
  · obtain ⟨⟨h1, h2⟩, h3⟩ := post_if h
    obtain ⟨k1, k2, k3, k4⟩ := sortOk_is h1
    exact ⟨k1, k2, k3, k4, h2, by rw [show (List.mergeSort _ (PySem.W.dataLe false fun d => d)) = sortD _ from sortD_is h1 h2]; exact h3⟩
  · exact h.elim
end
end VL
namespace VL
open PySem PySem.Spec PyProof.Rows L2
noncomputable section
variable {α β γ S S' L M ρ : Type} {s s0 s1 s2 s3 : List Sl} {X : Exc → Nat → Prop}
/-! ### with the pen: expressions -/
abbrev X0 : Exc → Nat → Prop := fun _ _ => False
theorem p_dat {w : WE Rv} {t : Pn D} (h : PO w s s1 t .dat) : PO (wDat w) s s1 t id := fun c Q P q k => h c Q _ q fun a c' z => k a c' z
theorem p_frz {w : WE Rz} {t : Pn D} (h : POz w s s1 t) : PO (wFrz w) s s1 t .dat := fun c Q P q k => h c Q _ q fun a c' z r e => by rw [e]; exact k a c' z
theorem p_z {w : WE Rv} {t : Pn D} (h : PO w s s1 t .dat) : POz (wZ w) s s1 t := fun c Q P q k => h c Q _ q fun a c' z => k a c' z _ rfl
theorem p_zv {w : WE Rv} {t : Pn D} (h : PO w s s1 t .dat) : PO (wZ w) s s1 t KdV.z := fun c Q P q k => h c Q _ q fun a c' z => k a c' z
theorem p_lz {w : WE Rz} {t : Pn (List D)} (h : PO w s s1 t .ls) : POz w s s1 (t.bind fun ds => Pn.ret (.list ds)) := fun c Q P q k => h c _ _ q fun a c' z => k _ c' z _ rfl
theorem p_bool {w : WE Rz} {t : Pn D} (h : POz w s s1 t) : PO (wBool w) s s1 (t.bind fun d => Pn.lift (dBool d)) id := fun c Q P q k => h c _ _ q fun a c' z r e => by
  cases a with
  | bool b => obtain rfl := rv_bool e; exact k _ _ z
  | _ => exact z.elim
def pCons (t : Pn D) (u : Pn (List D)) : Pn (List D) := t.bind fun a => u.bind fun b => Pn.ret (a :: b)
theorem p_dcons {w : WE Rv} {ws : WE (List Rv)} {t : Pn D} {u : Pn (List D)} (h : PO w s s1 t .dat) (hs : PO ws s1 s2 u (List.map .dat)) : PO (wCons w ws) s s2 (pCons t u) (List.map .dat) := fun c Q P q k =>
  h c _ _ q fun a c' z => hs c' _ _ z fun b c'' y => k _ _ y
theorem p_bcons {w : WE D} {ws : WE (List D)} {t : Pn D} {u : Pn (List D)} (h : PO w s s1 t id) (hs : PO ws s1 s2 u id) : PO (wCons w ws) s s2 (pCons t u) id := fun c Q P q k =>
  h c _ _ q fun a c' z => hs c' _ _ z fun b c'' y => k _ _ y
abbrev penA' (ds : List D) : List Rv := .pen :: ds.map .dat
theorem r_pcons {i : Nat} {ws : WE (List Rv)} {t : Out (List D)} (hp : s.getD i .no = .rv .pen) (h : RO ws s s1 t (List.map .dat) X) : RO (wCons (wName i) ws) s s1 t penA' X := fun c P q => r_pen (X := X) hp c _ (h c _ q)
theorem p_pcons {i : Nat} {ws : WE (List Rv)} {t : Pn (List D)} (hp : s.getD i .no = .rv .pen) (h : PO ws s s1 t (List.map .dat)) : PO (wCons (wName i) ws) s s1 t penA' := fun c Q P q k => r_pen (X := X0) hp c _ (h c Q _ q k)
theorem p_tup {ws : WE (List Rv)} {t : Pn (List D)} (h : PO ws s s1 t (List.map .dat)) : PO (wTup ws) s s1 (t.bind fun ds => Pn.ret (.tuple ds)) .dat := fun c Q P q k => h c _ _ q fun a c' z => dats_dats (k _ _ z)
theorem p_lst {ws : WE (List Rv)} {t : Pn (List D)} (h : PO ws s s1 t (List.map .dat)) : PO (wLst ws) s s1 t .ls := fun c Q P q k => h c _ _ q fun a c' z => dats_dats (k _ _ z)
def p2 (op : D → D → Out α) (t u : Pn D) : Pn α := t.bind fun a => u.bind fun b => Pn.lift (op a b)
def p1 (op : D → Out α) (t : Pn D) : Pn α := t.bind fun a => Pn.lift (op a)
def pN (op : List D → Out α) (t : Pn (List D)) : Pn α := t.bind fun a => Pn.lift (op a)
theorem p_2 {sem : Sem2} {op : D → D → Out D} {wa wb : WE D} {t u : Pn D} (ho : S2 sem op) (ha : PO wa s s1 t id) (hb : PO wb s1 s2 u id) : POz (w2 sem wa wb) s s2 (p2 op t u) := fun c Q P q k =>
  ha c _ _ q fun a c' z => hb c' _ _ z fun b c'' y => ho _ _ _ (Out.post.imp y fun r x => k r c'' x)
theorem p_2l {sem : Sem2} {op : D → D → Out (List D)} {wa wb : WE D} {t u : Pn D} (ho : S2l sem op) (ha : PO wa s s1 t id) (hb : PO wb s1 s2 u id) : PO (w2 sem wa wb) s s2 (p2 op t u) .ls := fun c Q P q k =>
  ha c _ _ q fun a c' z => hb c' _ _ z fun b c'' y => ho _ _ _ (Out.post.imp y fun r x => k r c'' x)
theorem p_1 {sem : D → (Rz → Prop) → Prop} {op : D → Out D} {wa : WE D} {t : Pn D} (ho : S1 sem op) (ha : PO wa s s1 t id) : POz (w1 sem wa) s s1 (p1 op t) := fun c Q P q k =>
  ha c _ _ q fun a c' z => ho _ _ (Out.post.imp z fun r x => k r c' x)
theorem p_N {sem : SemN} {op : List D → Out D} {ws : WE (List D)} {t : Pn (List D)} (ho : SN sem op) (ha : PO ws s s1 t id) : POz (wN sem ws) s s1 (pN op t) := fun c Q P q k =>
  ha c _ _ q fun a c' z => ho _ _ (Out.post.imp z fun r x => k r c' x)
theorem p_Nl {sem : SemN} {op : List D → Out (List D)} {ws : WE (List D)} {t : Pn (List D)} (ho : SNl sem op) (ha : PO ws s s1 t id) : PO (wN sem ws) s s1 (pN op t) .ls := fun c Q P q k =>
  ha c _ _ q fun a c' z => ho _ _ (Out.post.imp z fun r x => k r c' x)
def pAnd (t u : Pn Bool) : Pn Bool := t.bind fun a => if a = true then u else Pn.ret false
def pOr (t u : Pn Bool) : Pn Bool := t.bind fun a => if a = true then Pn.ret true else u
def pNot (t : Pn Bool) : Pn Bool := t.bind fun a => Pn.ret (!a)
def pIf (c : Pn Bool) (t u : Pn α) : Pn α := c.bind fun k => if k = true then t else u
theorem p_andT {wa wb : WE Bool} {t u : Pn Bool} (ha : PO wa s s1 t id) (hb : PO wb s1 s1 u id) : PO (wAndT wa wb) s s1 (pAnd t u) id := fun c Q P q k => ha c _ _ q fun a c' z => by
  cases a with
  | true => exact hb c' _ _ z k
  | false => exact k _ _ z
theorem p_orT {wa wb : WE Bool} {t u : Pn Bool} (ha : PO wa s s1 t id) (hb : PO wb s1 s1 u id) : PO (wOrT wa wb) s s1 (pOr t u) id := fun c Q P q k => ha c _ _ q fun a c' z => by
  cases a with
  | true => exact k _ _ z
  | false => exact hb c' _ _ z k
theorem p_notT {wa : WE Bool} {t : Pn Bool} (ha : PO wa s s1 t id) : PO (wNotT wa) s s1 (pNot t) id := fun c Q P q k => ha c _ _ q fun a c' z => k _ _ z
def pAndV (t u : Pn D) : Pn D := t.bind fun a => match a with | .bool a => if a = true then u else Pn.ret (.bool false) | _ => fun _ _ => False
def pOrV (t u : Pn D) : Pn D := t.bind fun a => match a with | .bool a => if a = true then Pn.ret (.bool true) else u | _ => fun _ _ => False
def pNotV (t : Pn D) : Pn D := t.bind fun a => match a with | .bool a => Pn.ret (.bool (!a)) | _ => fun _ _ => False
theorem p_andV {wa wb : WE Rv} {t u : Pn D} (ha : PO wa s s1 t .dat) (hb : PO wb s1 s1 u .dat) : PO (wAndV wa wb) s s1 (pAndV t u) .dat := fun c Q P q k => ha c _ _ q fun a c' z => by
  cases a with
  | bool a => cases a with
    | true => exact hb c' _ _ z k
    | false => exact k _ _ z
  | _ => exact z.elim
theorem p_orV {wa wb : WE Rv} {t u : Pn D} (ha : PO wa s s1 t .dat) (hb : PO wb s1 s1 u .dat) : PO (wOrV wa wb) s s1 (pOrV t u) .dat := fun c Q P q k => ha c _ _ q fun a c' z => by
  cases a with
  | bool a => cases a with
    | true => exact k _ _ z
    | false => exact hb c' _ _ z k
  | _ => exact z.elim
theorem p_notV {wa : WE Rv} {t : Pn D} (ha : PO wa s s1 t .dat) : PO (wNotV wa) s s1 (pNotV t) .dat := fun c Q P q k => ha c _ _ q fun a c' z => by
  cases a <;> first | exact k _ _ z | exact z.elim
theorem p_if {cw : WE Bool} {wa wb : WE ρ} {v : Pn Bool} {t u : Pn α} {em : α → ρ} (hc : PO cw s s1 v id) (ha : PO wa s1 s2 t em) (hb : PO wb s1 s2 u em) : PO (wIf cw wa wb) s s2 (pIf v t u) em := fun c Q P q k => hc c _ _ q fun a c' z => by
  cases a with
  | true => exact ha c' _ _ z k
  | false => exact hb c' _ _ z k
/-- a def without the pen; its errors do not come -/
theorem p_call {W : WF} {Ex : Exc → Ga → Prop} {ws : WE (List Rv)} {t : Pn α} {es : α → List Rv} {F : α → Out D} (hF : ∀ (a : α) (c : Nat) (P : Rv → Nat → Prop) (R : Exc → Nat → Prop), (F a).post (fun d => P (.dat d) c) (R · c) → W (es a) c P R)
    (ha : PO ws s s1 t es) : PO (wCall W Ex ws) s s1 (t.bind fun a => Pn.lift (F a)) .dat := fun c Q P q k => ha c _ _ q fun a c' z => hF _ _ _ _ (z.mono (fun r x => k r c' x) fun e h => h.elim)
/-- a def with the pen -/
theorem p_callP {W : WF} {Ex : Exc → Ga → Prop} {ws : WE (List Rv)} {t : Pn α} {es : α → List Rv} {F : α → Pn D} (hF : ∀ (a : α) (c : Nat) (Q : D → Nat → Prop) (P : Rv → Nat → Prop) (R : Exc → Nat → Prop), F a c Q → (∀ d c', Q d c' → P (.dat d) c') → W (es a) c P R)
    (ha : PO ws s s1 t es) : PO (wCall W Ex ws) s s1 (t.bind F) .dat := fun c Q P q k => ha c _ _ q fun a c' z => hF _ _ _ _ _ z fun d c' y => k _ _ y
theorem p_isi {T : Ty6} {w : WE D} {t : Pn D} (h : PO w s s1 t id) : PO (wIsi T w) s s1 (p1 (dIsi T) t) .dat := fun c Q P q k => h c _ _ q fun a c' z => by
  cases a <;> first | exact ⟨trivial, k _ _ z⟩ | exact z.elim
def pItems (t : Pn D) : Pn (List D) := t.bind fun d => Pn.lift (oItems (.ok d))
theorem p_items {w : WE Rv} {t : Pn D} (h : PO w s s1 t .dat) : PO (wItems w) s s1 (pItems t) id := fun c Q P q k => h c _ _ q fun a c' z => by
  cases a <;> first | exact k _ _ z | exact z.elim
def pRange1 (t : Pn (List D)) : Pn (List D) := t.bind fun d => Pn.lift (oRange1 (.ok d))
def pRange2 (t : Pn (List D)) : Pn (List D) := t.bind fun d => Pn.lift (oRange2 (.ok d))
theorem p_range1 {w : WE (List D)} {t : Pn (List D)} (h : PO w s s1 t id) : PO (wRange1 w) s s1 (pRange1 t) id := fun c Q P q k => h c _ _ q fun a c' z =>
  r_range1 (s := s1) (X := X0) (ws := fun Γ P => P a Γ) (t := .ok a) (fun _ _ y => y) c' P (Out.post.imp z fun b y => k b c' y)
theorem p_range2 {w : WE (List D)} {t : Pn (List D)} (h : PO w s s1 t id) : PO (wRange2 w) s s1 (pRange2 t) id := fun c Q P q k => h c _ _ q fun a c' z =>
  r_range2 (s := s1) (X := X0) (ws := fun Γ P => P a Γ) (t := .ok a) (fun _ _ y => y) c' P (Out.post.imp z fun b y => k b c' y)
theorem p_listRg1 {w : WE D} {t : Pn D} (h : PO w s s1 t id) : PO (wListRg1 w) s s1 (t.bind fun d => Pn.lift (oListRg1 (.ok d))) .ls := fun c Q P q k => h c _ _ q fun a c' z =>
  r_listRg1 (s := s1) (X := X0) (w := fun Γ P => P a Γ) (t := .ok a) (fun _ _ y => y) c' P (Out.post.imp z fun b y => k b c' y)
theorem p_part {w : WE D} {t : Pn D} (h : PO w s s1 t id) : PO (wPart w) s s1 (t.bind fun d => Pn.lift (oPart (.ok d))) id := fun c Q P q k => h c _ _ q fun a c' z => by
  cases a <;> first | exact k _ _ z | exact z.elim
def pSl (f : D → Option Int → Option Int → Out α) (t : Pn D) (u v : Pn (Option Int)) : Pn α := t.bind fun d => u.bind fun lo => v.bind fun hi => Pn.lift (f d lo hi)
theorem p_sl {wa : WE D} {wl wh : WE (Option Int)} {t : Pn D} {u v : Pn (Option Int)} (h : PO wa s s1 t id) (hl : PO wl s1 s2 u id) (hh : PO wh s2 s3 v id) : POz (wSl wa wl wh) s s3 (pSl dSl t u v) := fun c Q P q k =>
  h c _ _ q fun d c1 z => hl c1 _ _ z fun lo c2 y => hh c2 _ _ y fun hi c3 x => by
    unfold dSl at x
    cases d with
    | list ds => exact k _ _ x _ rfl
    | tuple ds =>
      dsimp only at x ⊢
      split at x
      · exact x.elim
      · rename_i hn; exact ⟨hn, k _ _ x _ rfl⟩
    | _ => exact x.elim
theorem p_comp {vs : List Nat} {wi : WE (List D)} {g : WG} {tw : WE Bool} {w : WE Rv} {t : Pn (List D)} {tg : D → Out β} {tt : β → Pn Bool} {f : β → Pn D} {sw : List Sl} {sb : β → List Sl} (hp : ∀ v ∈ vs, plainSl (s.getD v .no)) (hi : PO wi s s1 t id) (hw : ∀ c, wipeG ⟨s1, c⟩ vs = ⟨sw, c⟩)
    (hg : RG g sw tg sb) (ht : ∀ b, PO tw (sb b) (sb b) (tt b) id) (hf : ∀ b, PO w (sb b) (sb b) (f b) .dat) (hb : ∀ b c, wipeG ⟨sb b, c⟩ vs = ⟨sw, c⟩) (hs : ∀ c, backG ⟨sw, c⟩ ⟨s, 0⟩ vs = ⟨s2, c⟩) :
    PO (wComp vs wi g tw w) s s2 (t.bind fun items => compP tg tt f items) .ls := fun c0 Q P q k => by
  refine ⟨hp, hi c0 _ _ q fun items c p => ?_⟩
  rw [hw]
  have back : ∀ (Γ : Ga) (c' : Nat), backG Γ ⟨s, c0⟩ vs = backG Γ ⟨s, 0⟩ vs := by
    intro Γ c'
    clear hp hw hb hs
    induction vs with
    | nil => rfl
    | cons v vs ih => unfold backG; rw [ih]
  have key : ∀ (items acc : List D) (c : Nat) (Q' : List D → Nat → Prop), compP tg tt f items c Q' → (∀ es c', Q' es c' → Q (acc ++ es) c') → compW vs g tw w items acc ⟨sw, c⟩ fun acc Γ2 => P (.ls acc) (backG Γ2 ⟨s, c0⟩ vs) := by
    intro items
    induction items with
    | nil =>
      intro acc c Q' h hQ
      have h := hQ _ _ h
      rw [List.append_nil] at h
      show P (.ls acc) (backG ⟨sw, c⟩ ⟨s, c0⟩ vs)
      rw [back _ c, hs]; exact k _ _ h
    | cons d r ih =>
      intro acc c Q' h hQ
      refine hg d c _ (Out.post.imp h fun b h => ht b c _ _ h fun v c1 h => ?_)
      cases v with
      | true =>
        refine hf b c1 _ _ h fun e c2 h => ?_
        show compW vs g tw w r (acc ++ [e]) (wipeG ⟨sb b, c2⟩ vs) _
        rw [hb]
        exact ih _ _ _ h fun es c' hq => by rw [List.append_assoc]; exact hQ _ _ hq
      | false =>
        show compW vs g tw w r acc (wipeG ⟨sb b, c1⟩ vs) _
        rw [hb]
        exact ih _ _ _ h hQ
  exact key items [] c _ p fun es c' h => h
/-! ### with the pen: statements -/
variable {J : Jx S L}
theorem RS.ps {w : WS} {t : So S L} (h : RS w s t J X) : PSj w s (Pn.ret t) J X := fun E c Q q k => h E c (k _ _ q)
theorem pj_next {x : S} (h : J.nx x s) : PSj wNext s (Pn.ret (.nx x)) J X := (rs_next h).ps
theorem pj_retW {w : WE Rv} {t : Pn D} (h : PO w s s1 t .dat) : PSj (wRet w) s (t.bind fun d => Pn.ret (.rt d : So S L)) J X := fun E c Q q k => h c _ _ q fun a c' z => k _ _ z s1
theorem pj_set {i : Nat} {w : WE Rv} {b : WS} {t : Pn D} {k : D → Pn (So S L)} {f : D → List Sl} (h : PO w s s1 t .dat) (e : ∀ d, s1.set i (.rv (.dat d)) = f d) (hb : ∀ d, PSj b (f d) (k d) J X) : PSj (wSeq (wSet i w) b) s (t.bind k) J X := fun E c Q q kk => h c _ _ q fun a c' z => by
  show b E ⟨s1.set i (.rv (.dat a)), c'⟩
  rw [e]
  exact hb a E c' _ z kk
theorem pj_setL {i : Nat} {w : WE Rz} {b : WS} {t : Pn (List D)} {k : List D → Pn (So S L)} {f : List D → List Sl} (h : PO w s s1 t .ls) (e : ∀ d, s1.set i (.lst d) = f d) (hb : ∀ d, PSj b (f d) (k d) J X) : PSj (wSeq (wSetZ i w) b) s (t.bind k) J X := fun E c Q q kk => h c _ _ q fun a c' z => by
  show b E ⟨s1.set i (.lst a), c'⟩
  rw [e]
  exact hb a E c' _ z kk
theorem pj_drop {w : WE Rv} {b : WS} {t : Pn α} {em : α → Rv} {k : α → Pn (So S L)} (h : PO w s s1 t em) (hb : ∀ d, PSj b s1 (k d) J X) : PSj (wSeq (wDrop w) b) s (t.bind k) J X := fun E c Q q kk => h c _ _ q fun a c' z => hb a E c' _ z kk
theorem pj_asg {w : WE Rv} {g : WG} {b : WS} {t : Pn D} {tg : D → Out β} {k : β → Pn (So S L)} {f : β → List Sl} (h : PO w s s1 t .dat) (hg : RG g s1 tg f) (hb : ∀ d, PSj b (f d) (k d) J X) : PSj (wSeq (wAsg w g) b) s ((t.bind fun d => Pn.lift (tg d)).bind k) J X := fun E c Q q kk =>
  h c _ _ q fun d c' z => hg d c' _ (Out.post.imp z fun x y => hb x E c' _ y kk)
theorem pj_par {i j : Nat} {wa wb : WE Rz} {b : WS} {t : Pn α} {u : Pn β} {k : α → β → Pn (So S L)} {f : α → β → List Sl} (ka : Kd α) (kb : Kd β) (h : PO wa s s1 t ka.z) (h' : PO wb s1 s2 u kb.z) (e : ∀ x y, (s2.set i (ka.l x)).set j (kb.l y) = f x y) (hb : ∀ x y, PSj b (f x y) (k x y) J X) :
    PSj (wSeq (wPar i j wa wb) b) s (t.bind fun x => u.bind fun y => k x y) J X := fun E c Q q kk => h c _ _ q fun x c1 z => h' c1 _ _ z fun y c2 z => by
  show b E ⟨(s2.set i (ka.z x).sl).set j (kb.z y).sl, c2⟩
  rw [ka.e, kb.e, e]
  exact hb x y E c2 _ z kk
theorem pj_append {i : Nat} {w : WE Rv} {b : WS} {ds : List D} {t : Pn D} {k : List D → Pn (So S L)} {g : List D → List Sl} (hx : s.getD i .no = .lst ds) (hx1 : s1.getD i .no = .lst ds) (h : PO w s s1 t .dat) (e : ∀ d, s1.set i (.lst d) = g d) (hb : ∀ d, PSj b (g d) (k d) J X) :
    PSj (wSeq (wAppend i w) b) s (t.bind fun d => (Pn.lift (if ds.length < 16777216 then .ok (ds ++ [d]) else .bad)).bind k) J X := fun E c Q q kk => by
  refine ⟨⟨ds, hx⟩, h c _ _ q fun d c' z => ?_⟩
  show (match Rv.dat d, (⟨s1, c'⟩ : Ga).at i with | .dat d, .lst ds => ds.length < 16777216 ∧ b E ((⟨s1, c'⟩ : Ga).set i (.lst (ds ++ [d]))) | _, _ => False)
  rw [show (⟨s1, c'⟩ : Ga).at i = .lst ds from hx1]
  have z : (if ds.length < 16777216 then Out.ok (ds ++ [d]) else .bad).post (fun a => k a c' Q) fun _ => False := z
  by_cases hl : ds.length < 16777216
  · rw [if_pos hl] at z
    refine ⟨hl, ?_⟩
    show b E ⟨s1.set i _, c'⟩
    rw [e]
    exact hb _ E c' _ z kk
  · rw [if_neg hl] at z; exact z.elim
theorem pj_appPop {i j : Nat} {w : WE D} {b : WS} {ds es : List D} {t : Pn D} {k : List D → List D → Pn (So S L)} {g : List D → List D → List Sl} (hx : s.getD i .no = .lst ds) (hy : s.getD j .no = .lst es) (hx1 : s1.getD i .no = .lst ds) (hy1 : s1.getD j .no = .lst es) (h : PO w s s1 t id)
    (e : ∀ x y, (s1.set j (.lst y)).set i (.lst x) = g x y) (hb : ∀ x y, PSj b (g x y) (k x y) J X) :
    PSj (wSeq (wAppPop i j w) b) s (t.bind fun d => (Pn.lift (if ds.length < 16777216 then dPop es d else .bad)).bind fun p => k (ds ++ [p.1]) p.2) J X := fun E c Q q kk => by
  refine ⟨⟨ds, hx⟩, ⟨es, hy⟩, h c _ _ q fun y c' z => ?_⟩
  have q : (if ds.length < 16777216 then dPop es y else .bad).post (fun p => k (ds ++ [p.1]) p.2 c' Q) fun _ => False := z
  by_cases hl : ds.length < 16777216
  · rw [if_pos hl] at q
    cases y with
    | int n =>
      show (match PyData.int n, (⟨s1, c'⟩ : Ga).at i, (⟨s1, c'⟩ : Ga).at j with | .int n, .lst ds, .lst es => -(2 ^ 63) ≤ n ∧ n < 2 ^ 63 ∧ ds.length < 16777216 ∧ ∃ k z, seqIndex? n es.length = some k ∧ es[k]? = some z ∧ b E (((⟨s1, c'⟩ : Ga).set j (.lst (es.eraseIdx k))).set i (.lst (ds ++ [z]))) | _, _, _ => False)
      rw [show (⟨s1, c'⟩ : Ga).at i = .lst ds from hx1, show (⟨s1, c'⟩ : Ga).at j = .lst es from hy1]
      unfold dPop at q
      dsimp only at q
      by_cases hn : -(2 ^ 63) ≤ n ∧ n < 2 ^ 63
      · rw [if_pos hn] at q
        cases hs : seqIndex? n es.length with
        | none => rw [hs] at q; exact q.elim
        | some m =>
          rw [hs] at q
          dsimp only at q
          cases hz : es[m]? with
          | none => rw [hz] at q; exact q.elim
          | some z =>
            rw [hz] at q
            refine ⟨hn.1, hn.2, hl, m, z, hs, hz, ?_⟩
            show b E ⟨(s1.set j _).set i _, c'⟩
            rw [e]
            exact hb _ _ E c' _ q kk
      · rw [if_neg hn] at q; exact q.elim
    | _ => exact q.elim
  · rw [if_neg hl] at q; exact q.elim
theorem pj_aug {i : Nat} {f : Int → Int → Int} {w : WE D} {b : WS} {x : D} {t : Pn D} {k : D → Pn (So S L)} {g : D → List Sl} (hx : s.getD i .no = .rv (.dat x)) (h : PO w s s1 t id) (e : ∀ d, s1.set i (.rv (.dat d)) = g d) (hb : ∀ d, PSj b (g d) (k d) J X) :
    PSj (wSeq (wAug i f w) b) s (match x with | .int _ => (t.bind fun y => Pn.lift (oAug f x (.ok y))).bind k | _ => fun _ _ => False) J X := fun E c Q q kk => by
  unfold wSeq wAug
  show (match s.getD i .no with | .rv (.dat (.int a)) => _ | _ => _)
  rw [hx]
  cases x with
  | int a =>
    refine h c _ _ q fun y c' z => ?_
    cases y with
    | int v =>
      show b E ⟨s1.set i _, c'⟩
      rw [e]
      exact hb _ E c' _ z kk
    | _ => exact z.elim
  | _ => exact q.elim
theorem pj_seq {a b : WS} {t : Pn (So S L)} {k : S → Pn (So S' L)} {N : S → List Sl → Prop} {J : Jx S' L} (ha : PSj a s t ⟨N, J.lp⟩ X) (hk : ∀ x s, N x s → PSj b s (k x) J X) : PSj (wSeq a b) s (Pn.seq t k) J X := fun E c Q q kk => ha _ c _ q fun v c' z => by
  cases v with
  | nx x => exact fun s hs => hk x s hs E c' _ z kk
  | rt d => exact kk _ _ z
  | bk d => exact kk _ _ z
  | ct d => exact kk _ _ z
  | er d => exact kk _ _ z
  | bad => exact z.elim
theorem pj_if {cw : WE Bool} {wa wb : WS} {t : Pn Bool} {ta tb : Pn (So S L)} (h : PO cw s s1 t id) (ha : PSj wa s1 ta J X) (hb : PSj wb s1 tb J X) :
    PSj (wIfS cw wa wb) s (t.bind fun v => if v = true then ta else tb) J X := fun E c Q q kk => h c _ _ q fun v c' z => by
  cases v with
  | true => exact ha _ c' _ z kk
  | false => exact hb _ c' _ z kk
def PT' (g : WG) (wb : WS) (s : List Sl) (f : D → Pn (So L L)) (N : L → List Sl → Prop) (X : Exc → Nat → Prop) : Prop := ∀ (d : D) (E : En) (c : Nat) (Q : So L L → Nat → Prop), f d c Q → (∀ v c', Q v c' → v.post E ⟨N, N⟩ X c') → g d ⟨s, c⟩ (wb E)
theorem pt_of {g : WG} {wb : WS} {tg : D → Out β} {f : β → Pn (So L L)} {s1 : β → List Sl} {N : L → List Sl → Prop} (hg : RG g s tg s1) (hb : ∀ b, PSj wb (s1 b) (f b) ⟨N, N⟩ X) : PT' g wb s (fun d => (Pn.lift (tg d)).bind f) N X := fun d E c Q q kk => hg d c _ (Out.post.imp q fun b z => hb b E c _ z kk)
theorem forP_of {g : WG} {wb : WS} {f : L → D → Pn (So L L)} {N : L → List Sl → Prop} (hb : ∀ l s, N l s → PT' g wb s (f l) N X) {J : Jx L M} (hJ : J.nx = N) {E : En} {Q : So L M → Nat → Prop} (kk : ∀ v c', Q v c' → v.post E J X c') : ∀ (items : List D) (l : L) (s : List Sl) (c : Nat), N l s → (forP f items l : Pn (So L M)) c Q → forW g wb E items ⟨s, c⟩
  | [], l, s, c, hs, q => kk _ _ q s (hJ ▸ hs)
  | d :: r, l, s, c, hs, q => hb l s hs d _ c _ q fun v c' z => by
    cases v with
    | nx l' => exact fun s' hs' => forP_of hb hJ kk r l' s' c' hs' z
    | ct l' => exact fun s' hs' => forP_of hb hJ kk r l' s' c' hs' z
    | bk l' => exact fun s' hs' => kk _ _ z s' (hJ ▸ hs')
    | rt d' => exact kk _ _ z
    | er e => exact kk _ _ z
    | bad => exact z.elim
theorem pj_for {wi : WE (List D)} {g : WG} {wb : WS} {t : Pn (List D)} {f : L → D → Pn (So L L)} {l0 : L} {N : L → List Sl → Prop} {J : Jx L M} (h : PO wi s s1 t id) (h0 : N l0 s1) (hb : ∀ l s, N l s → PT' g wb s (f l) N X) (hJ : J.nx = N) :
    PSj (wFor wi g wb) s (t.bind fun items => (forP f items l0 : Pn (So L M))) J X := fun E c Q q kk => h c _ _ q fun items c' z => forP_of hb hJ kk items l0 s1 c' h0 z
/-! ### a def with the pen, the law -/
theorem pf_def {n m : Nat} {ws : (Exc → Ga → Prop) → WS} {as : List Rv} {t : Pn (So Unit Unit)} {c : Nat} {Q : D → Nat → Prop} {P : Rv → Nat → Prop} {R : Exc → Nat → Prop} {s : List Sl} (hl : as.length = m) (hs : startG n as c = ⟨s, c⟩) (h : ∀ (Ex : Exc → Ga → Prop), PSj (ws Ex) s t ⟨fun _ _ => True, fun _ _ => False⟩ X0)
    (q : t.fin c Q) (k : ∀ d c', Q d c' → P (.dat d) c') : wDef n m ws as c P R := by
  refine ⟨hl, ?_⟩
  rw [hs]
  refine h _ _ c _ q fun v c' z => ?_
  cases v with
  | nx x => exact fun s _ => k _ _ z
  | rt d => exact fun s => k _ _ z
  | er e => exact z.elim
  | bad => exact z.elim
  | bk l => exact z.elim
  | ct l => exact z.elim
def drawA (a : List D) : Pn D := match a with | [m] => drawP m | _ => fun _ _ => False
@[simp] theorem drawA_1 (m : D) : drawA [m] = drawP m := rfl
theorem pf_draw {a : List D} {c : Nat} {Q : D → Nat → Prop} {P : Rv → Nat → Prop} {R : Exc → Nat → Prop} (q : drawA a c Q) (k : ∀ d c', Q d c' → P (.dat d) c') : W_draw (penA' a) c P R := by
  match a with
  | [] => exact q.elim
  | _ :: _ :: _ => exact q.elim
  | [m] =>
    cases m with
    | int many =>
      obtain ⟨h1, h2, h3, h4⟩ := q
      exact ⟨many, rfl, h1, h2, h3, fun r r0 r1 => k _ _ (h4 r r0 r1)⟩
    | _ => exact q.elim
theorem law_of {ws : WS} {n : Nat} {t : Pn (So Unit Unit)} {s : List Sl} (hs : lawG n = ⟨s, 0⟩) (h : PSj ws s t ⟨fun _ _ => True, fun _ _ => False⟩ X0) (q : t 0 fun v _ => v = .rt (.bool true)) : wTrue ws n := by
  unfold wTrue
  rw [hs]
  refine h _ 0 _ q fun v c' z => ?_
  subst z
  exact fun s => rfl
end
end VL
namespace VL
open PySem PySem.Spec PyProof.Rows L2
noncomputable section
variable {α β γ S S' L M ρ : Type} {s s0 s1 s2 s3 : List Sl} {X : Exc → Nat → Prop}
theorem rg_set' {i : Nat} : RG (gSet i) s tgName fun d => s.set i (.rv (.dat d)) := rg_set fun _ => rfl
/-! ### a name is given up ahead of a statement -/
def wGive (i : Nat) (w : WS) : WS := fun E Γ => match Γ.at i with
  | .rv _ => w E Γ
  | .lst ds => w E (Γ.set i (.rv (.dat (.list ds))))
  | .dk kvs => w E (Γ.set i (.rv (.dat (dkD kvs))))
  | .dt kvs => w E (Γ.set i (.rv (.dat (dtD kvs))))
  | _ => False
theorem pss_frz {X : Cx} {sts : List Stmt} {t : TS} (h : PSs X sts t) : PSs X sts (fun D σ H => t D σ H ∨ ∃ d u, H d = some u ∧ Mut (some u) ∧ ∀ od, t D σ (upd H d (.frz od u))) := ⟨fun pins s σ H D I q => by
  rcases q with q | ⟨d, u, hd, mu, q⟩
  · exact h.run pins s σ H D I q
  · obtain ⟨od, I2⟩ := I.lock hd mu
    exact h.run pins s σ _ D I2 (q od)⟩
theorem set_self {α : Type} {l : List α} {i : Nat} {v : α} (h : l[i]? = some v) : l.set i v = l := by
  apply List.ext_getElem?
  intro j
  by_cases e : i = j
  · subst e
    rw [List.getElem?_set_self (List.getElem?_eq_some_iff.mp h).1, h]
  · rw [List.getElem?_set_ne e]
theorem Rel.giveF {K : Fg} {G : Gh} {Γ : Ga} {Z H : Hp} {O : Ow} {σ : L2.St} (R : Rel K G Γ Z O σ H) {i : Nat} {a : Addr} {u : HO} {r : Rv} (od : Obj) (ho : O a = some i) (h : H a = some u) (hv : σ.getD i none = some (.ref a)) (hr : RvR K G.PN (upd Z a (.frz od u)) r (.ref a)) :
    ∃ O', Rel K G (Γ.set i (.rv r)) (upd Z a (.frz od u)) O' σ (upd H a (.frz od u)) := by
  obtain ⟨hz, h0, hn⟩ := R.own a i ho
  have hs := getD_some hv
  have R1 := R.setNo i (x := .no) (v := some (.ref a)) fun _ => trivial
  rw [set_self hs] at R1
  have ho' : dropO O i a = none := by unfold dropO; rw [if_pos ho]
  have R2 := R1.lockNew od h hz ho' h0 (R.npen ho)
  have R3 := R2.setRv i hr
  rw [set_self hs] at R3
  have e : (Γ.set i Sl.no).set i (.rv r) = Γ.set i (.rv r) := by
    show (⟨(Γ.s.set i Sl.no).set i (.rv r), Γ.c⟩ : Ga) = ⟨Γ.s.set i (.rv r), Γ.c⟩
    rw [List.set_set]
  rw [e] at R3
  exact ⟨_, R3⟩
theorem ass_give {X : Cx} {G : Gh} {sts : List Stmt} {w : WS} (i : Nat) (h : ASs X G sts w) : ASs X G sts (wGive i w) := PSsi (pss_frz h) fun T σ H ⟨Γ, Z, O, E, R, q, k⟩ => by
  unfold wGive at q
  cases e : Γ.at i with
  | no => rw [e] at q; exact q.elim
  | exc _ _ _ => rw [e] at q; exact q.elim
  | lst2 _ => rw [e] at q; exact q.elim
  | rv r => rw [e] at q; exact .inl ⟨Γ, Z, O, E, R, q, k⟩
  | lst ds =>
    rw [e] at q
    obtain ⟨p, vs, h1, h2, h3, h4⟩ := R.slAt e
    have hz := (R.own p i h2).1
    have hr : RvR X.K G.PN (upd Z p (.lst vs)) (.dat (.list ds)) (.ref p) := .lst upd_same (h4.mono (Sub.upd hz))
    obtain ⟨R', S'⟩ := R.giveUp h2 h3 h1 hr
    exact .inl ⟨_, _, _, E, R', q, k⟩
  | dk kvs =>
    rw [e] at q
    obtain ⟨p, vs, h1, h2, h3, h4⟩ := R.slAt e
    have hz := (R.own p i h2).1
    refine .inr ⟨p, _, h3, trivial, fun od => ?_⟩
    obtain ⟨O', R'⟩ := R.giveF od h2 h3 h1 (r := .dat (dkD kvs)) (.dk upd_same (h4.mono (Sub.upd hz)).drk)
    exact ⟨_, _, O', E, R', q, k⟩
  | dt kvs =>
    rw [e] at q
    obtain ⟨p, vs, h1, h2, h3, h4⟩ := R.slAt e
    have hz := (R.own p i h2).1
    refine .inr ⟨p, _, h3, trivial, fun od => ?_⟩
    obtain ⟨O', R'⟩ := R.giveF od h2 h3 h1 (r := .dat (dtD kvs)) (.dt upd_same (h4.mono (Sub.upd hz)).drt)
    exact ⟨_, _, O', E, R', q, k⟩
variable {J : Jx S L}
theorem give_is {i : Nat} {w : WS} {x y : Sl} {E : En} {c : Nat} (h : s.getD i .no = x) (e : s.set i y = s1) (hx : match x with | .lst ds => y = .rv (.dat (.list ds)) | .dk ds => y = .rv (.dat (dkD ds)) | .dt ds => y = .rv (.dat (dtD ds)) | _ => False) (q : w E ⟨s1, c⟩) : wGive i w E ⟨s, c⟩ := by
  unfold wGive
  show (match s.getD i .no with | .rv _ => _ | .lst ds => w E ((⟨s, c⟩ : Ga).set i (.rv (.dat (.list ds)))) | .dk kvs => w E ((⟨s, c⟩ : Ga).set i (.rv (.dat (dkD kvs)))) | .dt kvs => w E ((⟨s, c⟩ : Ga).set i (.rv (.dat (dtD kvs)))) | _ => _)
  rw [h]
  subst e
  cases x <;> first | exact hx.elim | (cases hx; exact q)
theorem rs_give {i : Nat} {w : WS} {ds : List D} {t : So S L} (h : s.getD i .no = .lst ds) (e : s.set i (.rv (.dat (.list ds))) = s1) (hw : RS w s1 t J X) : RS (wGive i w) s t J X := fun E c q => give_is h e rfl (hw E c q)
theorem rs_giveK {i : Nat} {w : WS} {ds : List (Key × D)} {t : So S L} (h : s.getD i .no = .dk ds) (e : s.set i (.rv (.dat (dkD ds))) = s1) (hw : RS w s1 t J X) : RS (wGive i w) s t J X := fun E c q => give_is h e rfl (hw E c q)
theorem rs_giveT {i : Nat} {w : WS} {ds : List (List Key × D)} {t : So S L} (h : s.getD i .no = .dt ds) (e : s.set i (.rv (.dat (dtD ds))) = s1) (hw : RS w s1 t J X) : RS (wGive i w) s t J X := fun E c q => give_is h e rfl (hw E c q)
theorem pj_give {i : Nat} {w : WS} {ds : List D} {t : Pn (So S L)} (h : s.getD i .no = .lst ds) (e : s.set i (.rv (.dat (.list ds))) = s1) (hw : PSj w s1 t J X) : PSj (wGive i w) s t J X := fun E c Q q k => give_is h e rfl (hw E c Q q k)
theorem pj_giveK {i : Nat} {w : WS} {ds : List (Key × D)} {t : Pn (So S L)} (h : s.getD i .no = .dk ds) (e : s.set i (.rv (.dat (dkD ds))) = s1) (hw : PSj w s1 t J X) : PSj (wGive i w) s t J X := fun E c Q q k => give_is h e rfl (hw E c Q q k)
theorem pj_giveT {i : Nat} {w : WS} {ds : List (List Key × D)} {t : Pn (So S L)} (h : s.getD i .no = .dt ds) (e : s.set i (.rv (.dat (dtD ds))) = s1) (hw : PSj w s1 t J X) : PSj (wGive i w) s t J X := fun E c Q q k => give_is h e rfl (hw E c Q q k)
/-! ### no errors here -/
def So.noer (t : So S L) : So S L := match t with | .er _ => .bad | t => t
@[simp] theorem So.noer_nx (x : S) : (So.nx x : So S L).noer = .nx x := rfl
@[simp] theorem So.noer_rt (x : D) : (So.rt x : So S L).noer = .rt x := rfl
@[simp] theorem So.noer_bad : (So.bad : So S L).noer = .bad := rfl
theorem rs_noer {w : WS} {t : So S L} (h : RS w s t J X0) : RS w s t.noer J X := fun E c q => h E c (by
  cases t <;> first | exact q | exact q.elim)
end
end VL
namespace VL
noncomputable section
def wFuel : Nat := 16777216
end
end VL
/-! Dicts whose keys are ints, texts or tuples of such: comprehensions, dict(..) of pairs. -/
namespace VL
open PySem PySem.Spec PyProof.Rows L2
noncomputable section
section
variable {X : Cx}
/-- the turns of a dict comprehension; o0: the empty dict of its kind -/
def tDcA (X : Cx) (o0 : Addr → HO) (wi : TI) (g : TG) (tt : TT) (tk tv : TE) (vs : List Nat) : TE := fun σ H Q => wi σ H fun J H1 => ∀ C, H1 C = none → ∃ W : Nat → Nat → Hp → Prop, (∃ m, W 0 m (upd H1 C (o0 C))) ∧ ∀ i m H, W i m H →
  (J.stop i H ∧ Q (.ref C) H) ∨ (J.go i H ∧ ∃ On : Hp → Prop, (∀ H', On H' → ∃ m', m' < m ∧ W (i + 1) m' H') ∧ ∀ x H', J.yld i H x H' → g x (wipe σ vs) H' fun σ2 H2 => wipe σ2 vs = wipe σ vs ∧ tt σ2 H2 fun b H3 =>
    if b = true then tk σ2 H3 fun y H4 => tv σ2 H4 fun z H5 => ∃ H6, PutA X.K H5 C y z H6 ∧ On H6 else On H3)
structure Empty0 (o0 : Addr → HO) : Prop where
  ok : ∀ {P : Program} {w : World} {H : Hp} (h : Heap), sysModules < h.objs.size → ObjOk P w H (h.push { cls := .type "dict", data := .dict #[] }) h.objs.size (o0 h.objs.size)
theorem empty0K : Empty0 fun _ => .dK [] := ⟨fun h b => dk_empty h b⟩
theorem empty0X : Empty0 fun a => dXo a [] := ⟨fun h b => dX_empty h b⟩
theorem dc_core {pins : List (Addr × Obj)} {s : Shared} {σ : L2.St} {H : Hp} {Q : VK} {kx vx tg iter : Expr} {ifs : List Expr} {scope : Scope} {own : List (Str × Nat)} {pos pos' : Pos} {wi : TI} {g : TG} {tt : TT} {tk tv : TE} {o0 : Addr → HO} {use : Option (Value → Sem Unit)} {Qf : Value → Shared → Prop} (e0 : Empty0 o0) (room : X.A.units < cLine) (calm : X.calm = true) (nd : X.N.Nodup) (I : Inv X pins σ H s) (hi : PI X tg iter wi) (blk : BlkOk X.N X.env.scope scope own)
    (hg : ∀ (s : Shared) (H : Hp) (C : Addr) (cl : List (Str × Addr)) (fp : List Addr), PG (cX X scope s H C cl fp) tg g) (ht : ∀ (s : Shared) (H : Hp) (C : Addr) (cl : List (Str × Addr)) (fp : List Addr), PTs (cX X scope s H C cl fp) ifs tt)
    (hk : ∀ (s : Shared) (H : Hp) (C : Addr) (cl : List (Str × Addr)) (fp : List Addr), PE (cX X scope s H C cl fp) kx tk)
    (hv : ∀ (s : Shared) (H : Hp) (C : Addr) (cl : List (Str × Addr)) (fp : List Addr), PE (cX X scope s H C cl fp) vx tv) (fold : ∀ x, foldedSetIterable iter X.env x = pure x)
    (goal : tDcA X o0 wi g tt tk tv (own.map (·.2)) σ H Q)
    (hRR : ∀ D C s' m H', Inv X pins σ H' s' → Q (.ref D) H' → s'.heap.Ns C m → FpOk X pins H' C → compPost (model X.prog X.w) X.A X.xe use Qf (.ref D) C (.ok .next) s') :
    wpAny (model X.prog X.w) X.A (comprehension (.DictComp kx vx [⟨tg, iter, ifs, 0⟩] scope pos) scope X.env pos' newDict false (eval iter X.env) use) Qf X.xe s := by
  have known : ∀ y ∈ scope.names, y.2 = .free → ∃ c, X.env.cells.lookup y.1 = some c := fun y hy e => (blk.free y hy e).elim (fun k => I.ok.has _ (.inl k)) fun k => I.ok.has _ (.inr k)
  refine wpAny_comprehension_free (use := use) rfl fold (closure_ok known) blk.kind (fun y hy e => by rw [blk.uniq y hy, e]) (thn (hi.run pins s σ H _ I goal) fun _ _ got => thn got fun _ sa walk => ?_)
  obtain ⟨itA, fp, at_, J, Ha, rfl, Ia, T, now, free, turns⟩ := walk
  refine wpAny_newObj_type (newEnv_comp ?_)
  generalize hC : sa.heap.objs.size = C
  have noneC : Ha C = none := Ia.hok.fresh (Nat.le_of_eq hC)
  obtain ⟨W, ⟨m0, w0⟩, turn⟩ := turns C noneC
  generalize hsb : ({ sa with heap := sa.heap.push { cls := .type "dict", data := .dict #[] } } : Shared) = sb
  have Ib : Inv X pins σ (upd Ha C (o0 C)) sb := by
    subst hsb hC
    exact Ia.laid (t' := sa.toks) (fun _ _ e => Heap.get?_push_of_some _ e) (Nat.le_refl _) (e0.ok sa.heap Ia.big)
  have hb : sb.heap = sa.heap.push { cls := .type "dict", data := .dict #[] } := by subst hsb; rfl
  have freeB : ∀ b ∈ fp, FpOk X pins (upd Ha C (o0 C)) b ∧ b < sb.heap.objs.size := fun b hbm => by
    obtain ⟨o, eo, _⟩ := T.obj _ _ now b hbm
    have lt := Heap.lt_size eo
    exact ⟨⟨(upd_ne (hC ▸ Nat.ne_of_lt lt)).trans (free b hbm).1, (free b hbm).2⟩, by rw [hb, Heap.size_push]; exact Nat.lt_succ_of_lt lt⟩
  have nowB : at_ 0 sb.heap := T.keep _ _ _ now fun b _ o e => by rw [hb]; exact Heap.get?_push_of_some _ e
  have Ic := block_start Ib blk nd freeB
  have none_ : ∀ b ∈ fp, (upd Ha C (o0 C)) b = none := fun b hbm => (freeB b hbm).1.1
  let cs := cellsFrom (sb.heap.objs.size + 1) scope.names (cloFrom X.env.cells scope.names [])
  have kg := hg sb (upd Ha C (o0 C)) sb.heap.objs.size cs fp
  have kt := ht sb (upd Ha C (o0 C)) sb.heap.objs.size cs fp
  have kk := hk sb (upd Ha C (o0 C)) sb.heap.objs.size cs fp
  have kv := hv sb (upd Ha C (o0 C)) sb.heap.objs.size cs fp
  have hcs : cs = cellsFrom (sb.heap.objs.size + 1) scope.names (cloFrom X.env.cells scope.names []) := rfl
  show codeAny _ _ (.compStart _ 0 (.ref itA) (.ref C) (compEnvC scope cs sb.heap.objs.size X.env)) _ _
  unfold cX at kg kt kk kv
  rw [← hcs] at Ic
  clear_value cs
  generalize hce : compEnvC scope cs sb.heap.objs.size X.env = ce at Ic kg kt kk kv ⊢
  have loc : ce.locals = sb.heap.objs.size := by subst hce; rfl
  generalize hHb : upd Ha C (o0 C) = Hb at Ib Ic kg kt kk kv w0 none_ freeB
  generalize hsc : ({ sb with heap := pushCells (sb.heap.push { cls := .type "dict", data := .dict #[] }) scope.names } : Shared) = sc at Ic ⊢
  have nowC : at_ 0 sc.heap := T.keep _ _ _ nowB fun b _ o e => by subst hsc; exact pushCells_keeps _ _ _ _ (Heap.get?_push_of_some _ e)
  have inner : ∀ {ρ : L2.St} {Hx : Hp} {sx : Shared}, Inv (X.blk sb Hb scope ce fp) [] ρ Hx sx → (∀ b ∈ fp, Hx b = none) → ∀ b ∈ fp, FpOk (X.blk sb Hb scope ce fp) [] Hx b := fun {ρ Hx sx} Ix nx b hbm =>
    ⟨nx b hbm, (Ix.ok.exf b hbm).1, Ix.ok.exfs b hbm, .inl hbm, fun _ _ e => (Ix.ok.exf b hbm).2 _ _ e, fun p hp => absurd (show p ∈ ([] : List (Addr × Obj)) ++ [] from hp) (by simp)⟩
  let us := own.map (·.2)
  have run : codeAny (model X.prog X.w) X.A (.compLoop (.DictComp kx vx [⟨tg, iter, ifs, 0⟩] scope pos) 0 (.ref itA) (.ref C) ce) (compPost (model X.prog X.w) X.A X.xe use Qf (.ref C) sb.heap.objs.size) sc := by
    refine compLoop_anyD (fun m sx => ∃ i Hx, Inv (X.blk sb Hb scope ce fp) [] (wipe σ us) Hx sx ∧ at_ i sx.heap ∧ (∀ b ∈ fp, Hx b = none) ∧ W i m Hx) ?_ m0 ⟨0, Hb, Ic, nowC, none_, w0⟩
    rintro m sd ⟨i, Hd, Id, nowD, nD, wD⟩
    rcases turn i m Hd wD with ⟨stop, result⟩ | ⟨go, On, less, step⟩
    · refine thnF (T.done (X.blk sb Hb scope ce fp) rfl rfl rfl calm i [] sd _ Hd (fun _ _ => False) Id (inner Id nD) nowD stop) ?_
      rintro _ se ⟨rfl, Ie⟩
      have back : Inv X pins σ Hd se := Ib.call' (ch := fp) Ie.os Ie.base Ie.hok Ie.bare fun b hbm => ⟨(freeB b hbm).1.2.2.2.1, (freeB b hbm).1.2.1, (freeB b hbm).1.2.2.2.2.1, (freeB b hbm).1.2.2.2.2.2⟩
      have nL : Hd sb.heap.objs.size = none := loc ▸ (show Hd ce.locals = none from Ie.free)
      obtain ⟨mm, nsE, _⟩ := Ie.loc
      have nsE : se.heap.Ns ce.locals mm := nsE
      rw [loc] at nsE
      exact hRR C sb.heap.objs.size se mm Hd back result nsE (Ib.fpOk (Nat.le_refl _) nL)
    · refine thnF (T.item (X.blk sb Hb scope ce fp) rfl rfl rfl calm i [] sd _ Hd (fun _ _ => False) Id (inner Id nD) nowD go) ?_
      rintro _ se ⟨u, rfl, item⟩
      refine thnF item fun _ sf ⟨x, Hf, If, rx, yl, nowF, nF⟩ => ?_
      have Ip := If.pinned (inner If nF) (T.obj _ _ nowF)
      refine thnF (kg.run _ sf _ Hf x u _ Ip rx (step x Hf yl)) fun _ sg ⟨σg, Hg, Ig, wipeG_, qg⟩ => ?_
      refine thnF (kt.run _ sg σg Hg _ Ig qg) fun b sh ⟨Hh, Ih, qh⟩ => ?_
      have onward : ∀ {sx : Shared} {Hx : Hp}, Inv (X.blk sb Hb scope ce fp) ([] ++ pinsAt fp sf.heap) σg Hx sx → On Hx → ∃ m', m' < m ∧ ∃ i Hx, Inv (X.blk sb Hb scope ce fp) [] (wipe σ us) Hx sx ∧ at_ i sx.heap ∧ (∀ b ∈ fp, Hx b = none) ∧ W i m' Hx := fun {sx Hx} Ix on => by
        obtain ⟨m', lt, wx⟩ := less Hx on
        have pin : ∀ b ∈ fp, ∀ o, sf.heap.get? b = some o → sx.heap.get? b = some o ∧ Hx b = none := fun b hbm o e =>
          have z := Ix.pin (b, o) (List.mem_append_right _ (List.mem_append_right _ (mem_pinsAt hbm e)))
          ⟨z.1, z.2.1⟩
        refine ⟨m', lt, i + 1, Hx, (Ix.unpinned (pins := [])).weak (by rw [← show wipe σg us = wipe σ us from wipeG_, wipe_length]) (fun j v e => ?_), T.keep _ _ _ nowF fun b hbm o e => (pin b hbm o e).1, fun b hbm => ?_, wx⟩
        · rw [← show wipe σg us = wipe σ us from wipeG_] at e
          exact (wipe_some e).1
        · obtain ⟨o, eo, _⟩ := T.obj _ _ nowF b hbm
          exact (pin b hbm o eo).2
      cases b with
      | false => exact onward Ih qh
      | true =>
        refine thnF (kk.run _ sh σg Hh _ Ih qh) fun z1 si ⟨yk, Hi, Ii, ry, qi⟩ => ?_
        refine thnF (kv.run _ si σg Hi _ Ii qi) fun z2 sj ⟨yv, Hj, Ij, rz, Hk, put, on⟩ => ?_
        exact putA_set (X := X.blk sb Hb scope ce fp) room Ij put ry rz fun _ Ik => onward Ik on
  exact codeAny_compStart_dict run (T.self X.A 0 _ _ _ nowC run)
theorem pe_dcA {kx vx tg iter : Expr} {ifs : List Expr} {scope : Scope} {own : List (Str × Nat)} {pos : Pos} {wi : TI} {g : TG} {tt : TT} {tk tv : TE} {o0 : Addr → HO} (e0 : Empty0 o0) (room : X.A.units < cLine) (calm : X.calm = true) (nd : X.N.Nodup) (hi : PI X tg iter wi) (blk : BlkOk X.N X.env.scope scope own)
    (hg : ∀ (s : Shared) (H : Hp) (C : Addr) (cl : List (Str × Addr)) (fp : List Addr), PG (cX X scope s H C cl fp) tg g) (ht : ∀ (s : Shared) (H : Hp) (C : Addr) (cl : List (Str × Addr)) (fp : List Addr), PTs (cX X scope s H C cl fp) ifs tt)
    (hk : ∀ (s : Shared) (H : Hp) (C : Addr) (cl : List (Str × Addr)) (fp : List Addr), PE (cX X scope s H C cl fp) kx tk)
    (hv : ∀ (s : Shared) (H : Hp) (C : Addr) (cl : List (Str × Addr)) (fp : List Addr), PE (cX X scope s H C cl fp) vx tv) (fold : ∀ x, foldedSetIterable iter X.env x = pure x := by intro _; rfl) :
    PE X (.DictComp kx vx [⟨tg, iter, ifs, 0⟩] scope pos) (tDcA X o0 wi g tt tk tv (own.map (·.2))) := by
  refine ⟨fun pins s σ H Q I goal => ?_⟩
  rw [arm_eval_DictComp]
  refine dc_core e0 room calm nd I hi blk hg ht hk hv fold goal fun D C s' m H' I' q hn f => ⟨m, hn, fun h'' same => ?_⟩
  obtain ⟨f0, f1, f2, f3, f4, f5⟩ := f
  exact ⟨.ref D, H', I'.turned (t' := s'.toks) (fun b o nb e => (same.2 b nb).trans e) f0 f1 f3 f4 f5, rfl, q⟩
/-- name = {..} on one line, the name a local -/
theorem ps_setDc {i : Nat} {y : Str} {py : Pos} {kx vx tg iter : Expr} {ifs : List Expr} {scope : Scope} {own : List (Str × Nat)} {pos spos : Pos} {wi : TI} {g : TG} {tt : TT} {tk tv : TE} {o0 : Addr → HO} (e0 : Empty0 o0) (room : X.A.units < cLine) (hc : X.calm = true) (hN : X.N.Nodup) (hy : X.N[i]? = some y) (hyl : X.env.scope.names.lookup y = some .local)
    (hsw : swapsWith (.DictComp kx vx [⟨tg, iter, ifs, 0⟩] scope pos) (some (.Name y py)) spos.line X.env = pure true) (hi : PI X tg iter wi) (blk : BlkOk X.N X.env.scope scope own)
    (hg : ∀ (s : Shared) (H : Hp) (C : Addr) (cl : List (Str × Addr)) (fp : List Addr), PG (cX X scope s H C cl fp) tg g) (ht : ∀ (s : Shared) (H : Hp) (C : Addr) (cl : List (Str × Addr)) (fp : List Addr), PTs (cX X scope s H C cl fp) ifs tt)
    (hk : ∀ (s : Shared) (H : Hp) (C : Addr) (cl : List (Str × Addr)) (fp : List Addr), PE (cX X scope s H C cl fp) kx tk)
    (hv : ∀ (s : Shared) (H : Hp) (C : Addr) (cl : List (Str × Addr)) (fp : List Addr), PE (cX X scope s H C cl fp) vx tv) (fold : ∀ x, foldedSetIterable iter X.env x = pure x := by intro _; rfl) :
    PS X (.Assign [.Name y py] (.DictComp kx vx [⟨tg, iter, ifs, 0⟩] scope pos) spos) (tAsg (tDcA X o0 wi g tt tk tv (own.map (·.2))) (gName i)) := by
  refine ⟨fun pins s σ H D I h => ?_⟩
  rw [exec_Assign_Name_used _ _ _ _ hsw]
  refine wpAny_bind (wpAny_standAt (wpAny_bind ?_))
  show wpAny _ X.A (do let _ ← comprehension (.DictComp kx vx [⟨tg, iter, ifs, 0⟩] scope pos) scope X.env (firstIterPos [⟨tg, iter, ifs, 0⟩] pos) newDict false (eval iter X.env) (some (assign (.Name y py) X.env))) _ _ s
  have h : tDcA X o0 wi g tt tk tv (own.map (·.2)) σ H (fun x H1 => gName i x σ H1 D.nx) := h
  refine wpAny_bind (thn (dc_core (Qf := fun _ s' => SP X pins D .next s') e0 room hc hN I hi blk hg ht hk hv fold h fun L C s' m H' I' q hn f => ?_) fun _ s' hq => wpAny_pure (wpAny_pure hq))
  show wpAny _ _ (assign (.Name y py) X.env (.ref L)) _ _ _
  refine wpAny_assign_Name (store_ok2 (v := V.ref L) I' hN hy (.inl hyl) rfl (fun s2 I2 ⟨a, sb, ha⟩ => ?_) (.inr hyl))
  obtain ⟨f0, f1, f2, f3, f4, f5⟩ := f
  have haC : C ≠ a := by
    rcases ha with z | z
    · rw [z]; exact f1
    · exact fun e => f4 y a z e.symm
  refine ⟨m, hn.sameBut sb haC, fun h3 sb3 => ?_⟩
  exact ⟨_, H', I2.turned (t' := s2.toks) (fun b o hb e => (sb3.2 b hb).trans e) f0 f1 f3 f4 f5, q⟩
theorem sw_trueD {kx vx : Expr} {gs : List Comprehension} {scope : Scope} {pos py : Pos} {y : Str} {l : Nat} {env : Env} (hk : env.scope.kind = .function) (hy : env.scope.names.lookup y = some .local) (hl : (py.line == pos.line) = true)
    (ha : (scope.names.any fun (n, k) => n == y && (k == .local || k == .cell)) = false) : swapsWith (.DictComp kx vx gs scope pos) (some (.Name y py)) l env = pure true := by
  have ky : env.kindOf y = some .local := hy
  have hb : env.blockKind = .function := by unfold Env.blockKind; rw [hk]; rfl
  unfold swapsWith
  simp only [hb, ky, ha, Expr.pos, hl]
  rfl
end
end
end VL
/-! Dicts by data: asked, stored. -/
namespace VL
open PySem PySem.Spec PyProof.Rows L2
noncomputable section
def keyOf : D → Option Key
  | .int i => some (.inl i)
  | .str x => some (.inr x)
  | _ => none
def keyList : List D → Option (List Key)
  | [] => some []
  | d :: r => match keyOf d, keyList r with
    | some k, some ks => some (k :: ks)
    | _, _ => none
def keysOf : D → Option (List Key)
  | .tuple ks => keyList ks
  | _ => none
@[simp] theorem keyOf_keyD (k : Key) : keyOf (keyD k) = some k := by cases k <;> rfl
@[simp] theorem keyList_map (ks : List Key) : keyList (ks.map keyD) = some ks := by
  induction ks with
  | nil => rfl
  | cons k r ih => simp [keyList, ih]
@[simp] theorem keysOf_tupD (k : List Key) : keysOf (tupD k) = some k := keyList_map k
@[simp] theorem keyOf_tupD (k : List Key) : keyOf (tupD k) = none := rfl
theorem keysOf_keyD (k : Key) : keysOf (keyD k) = none := by cases k <;> rfl
theorem keyOf_is {d : D} {k : Key} (h : keyOf d = some k) : d = keyD k := by
  cases d <;> simp [keyOf] at h <;> subst h <;> rfl
theorem keyList_is : ∀ {ds : List D} {ks : List Key}, keyList ds = some ks → ds = ks.map keyD
  | [], _, h => by cases h; rfl
  | d :: r, ks, h => by
    unfold keyList at h
    cases h1 : keyOf d with
    | none => rw [h1] at h; cases h
    | some k =>
      rw [h1] at h
      cases h2 : keyList r with
      | none => rw [h2] at h; cases h
      | some rs => rw [h2] at h; cases h; rw [List.map_cons, ← keyOf_is h1, ← keyList_is h2]
theorem keysOf_is {d : D} {k : List Key} (h : keysOf d = some k) : d = tupD k := by
  cases d <;> simp [keysOf] at h
  rw [keyList_is h]; rfl
/-! ### on typed keys -/
section
variable {κ : Type} [DecidableEq κ]
def valP (kvs : List (κ × D)) (k : κ) : Option D := (kvs.find? fun p => decide (p.1 = k)).map (·.2)
def putP (kvs : List (κ × D)) (k : κ) (v : D) : List (κ × D) :=
  if (kvs.any fun p => decide (p.1 = k)) = true then kvs.map (fun p => if p.1 = k then (p.1, v) else p) else kvs ++ [(k, v)]
end
section
variable {K : Fg} {Z : Hp}
theorem dkR.val : ∀ {es : List (Key × V)} {ds : List (Key × D)}, dkR K Z es ds → ∀ k, (∃ v d, valV es k = some v ∧ valP ds k = some d ∧ DR K Z v d) ∨ (valV es k = none ∧ valP ds k = none)
  | _, _, .nil, k => .inr ⟨rfl, rfl⟩
  | p :: es, q :: ds, .cons ⟨e1, e2⟩ t, k => by
    have ih := dkR.val t k
    unfold valV valP at ih ⊢
    rw [List.find?_cons, List.find?_cons, ← e1]
    by_cases c : p.1 = k
    · rw [decide_eq_true c]; exact .inl ⟨_, _, rfl, rfl, e2⟩
    · rw [decide_eq_false c]; exact ih
theorem dtR.val : ∀ {es : List TKey} {ds : List (List Key × D)}, dtR K Z es ds → ∀ k, (∃ v d, valX es k = some v ∧ valP ds k = some d ∧ DR K Z v d) ∨ (valX es k = none ∧ valP ds k = none)
  | _, _, .nil, k => .inr ⟨rfl, rfl⟩
  | p :: es, q :: ds, .cons ⟨e1, _, e2⟩ t, k => by
    have ih := dtR.val t k
    unfold valX valP at ih ⊢
    rw [List.find?_cons, List.find?_cons, ← e1]
    by_cases c : p.1 = k
    · rw [decide_eq_true c]; exact .inl ⟨_, _, rfl, rfl, e2⟩
    · rw [decide_eq_false c]; exact ih
theorem dkR.any {es : List (Key × V)} {ds : List (Key × D)} (h : dkR K Z es ds) (k : Key) : (es.any fun p => decide (p.1 = k)) = ds.any fun p => decide (p.1 = k) := by
  induction h with
  | nil => rfl
  | cons q t ih => rw [List.any_cons, List.any_cons, ih, q.1]
theorem dtR.any {es : List TKey} {ds : List (List Key × D)} (h : dtR K Z es ds) (k : List Key) : (es.any fun p => decide (p.1 = k)) = ds.any fun p => decide (p.1 = k) := by
  induction h with
  | nil => rfl
  | cons q t ih => rw [List.any_cons, List.any_cons, ih, q.1]
theorem dkR.put {es : List (Key × V)} {ds : List (Key × D)} {v : V} {d : D} (h : dkR K Z es ds) (k : Key) (hv : DR K Z v d) : dkR K Z (putK es k v) (putP ds k d) := by
  unfold putK putP
  rw [h.any k]
  split
  · rename_i c
    clear c
    induction h with
    | nil => exact .nil
    | @cons p q ps qs hq t ih =>
      refine .cons ?_ ih
      dsimp only
      by_cases c : p.1 = k
      · rw [if_pos c, if_pos (hq.1 ▸ c)]; exact ⟨hq.1, hv⟩
      · rw [if_neg c, if_neg (hq.1 ▸ c)]; exact hq
  · exact Paired.snoc h ⟨rfl, hv⟩
theorem dtR.put {es : List TKey} {ds : List (List Key × D)} {b : Addr} {v : V} {d : D} (h : dtR K Z es ds) (k : List Key) (hb : SqT K Z b (k.map kV)) (hv : DR K Z v d) : dtR K Z (putX es k b v) (putP ds k d) := by
  unfold putX putP
  rw [h.any k]
  split
  · rename_i c
    clear c
    induction h with
    | nil => exact .nil
    | @cons p q ps qs hq t ih =>
      refine .cons ?_ ih
      dsimp only
      by_cases c : p.1 = k
      · rw [if_pos c, if_pos (hq.1 ▸ c)]; exact ⟨hq.1, hq.2.1, hv⟩
      · rw [if_neg c, if_neg (hq.1 ▸ c)]; exact hq
  · exact Paired.snoc h ⟨rfl, hb, hv⟩
theorem dtR.keys {H : Hp} (s : Sub Z H) {es : List TKey} {ds : List (List Key × D)} (h : dtR K Z es ds) : KeysX K H es := by
  intro p hp
  induction h with
  | nil => cases hp
  | cons q t ih =>
    rcases List.mem_cons.mp hp with rfl | hp
    · exact s.sqT q.2.1
    · exact ih hp
/-- frozen pairs are typed ones -/
theorem drk_typed : ∀ {es : List (Key × V)} {ds : List (D × D)}, DRk K Z es ds → ∃ ts : List (Key × D), dkR K Z es ts ∧ ds = ts.map fun p => (keyD p.1, p.2)
  | _, _, .nil => ⟨[], .nil, rfl⟩
  | _, _, .cons (k := k) (d := d) h t => by
    obtain ⟨ts, a, rfl⟩ := drk_typed t
    exact ⟨(k, d) :: ts, .cons ⟨rfl, h⟩ a, rfl⟩
theorem drt_typed : ∀ {es : List TKey} {ds : List (D × D)}, DRt K Z es ds → ∃ ts : List (List Key × D), dtR K Z es ts ∧ ds = ts.map fun p => (tupD p.1, p.2)
  | _, _, .nil => ⟨[], .nil, rfl⟩
  | _, _, .cons (k := k) (d := d) q h t => by
    obtain ⟨ts, a, rfl⟩ := drt_typed t
    exact ⟨(k, d) :: ts, .cons ⟨rfl, q, h⟩ a, rfl⟩
/-- a dict by its reading -/
theorem BR.dictI {PN : Addr → Prop} {H : Hp} (s : Sub Z H) {v : V} {ds : List (D × D)} (b : BR K PN Z H v (.dict ds)) :
    ∃ a, v = .ref a ∧ ((∃ es ts, Rd H a (.dK es) ∧ dkR K Z es ts ∧ ds = ts.map fun p => (keyD p.1, p.2)) ∨ ∃ es ts, Rd H a (dXo a es) ∧ dtR K Z es ts ∧ ds = ts.map fun p => (tupD p.1, p.2)) := by
  cases b with
  | z b => cases b with
    | dk h t => obtain ⟨ts, a, e⟩ := drk_typed t; exact ⟨_, rfl, .inl ⟨_, ts, .inr ⟨_, s _ _ h⟩, a, e⟩⟩
    | dt h t => obtain ⟨ts, a, e⟩ := drt_typed t; exact ⟨_, rfl, .inr ⟨_, ts, .inr ⟨_, s _ _ h⟩, a, e⟩⟩
  | dk _ h t => obtain ⟨ts, a, e⟩ := drk_typed t; exact ⟨_, rfl, .inl ⟨_, ts, .inl h, a, e⟩⟩
  | dt _ h t => obtain ⟨ts, a, e⟩ := drt_typed t; exact ⟨_, rfl, .inr ⟨_, ts, .inl h, a, e⟩⟩
end
/-! ### asked by data: keys of one kind, the dict not an empty one of another kind -/
/-- what d holds at k; none outside: not told -/
def lookD (ds : List (D × D)) (k : D) : Option (Option D) := match ds with
  | [] => match keyOf k, keysOf k with
    | none, none => none
    | _, _ => some none
  | p :: r => match keyOf p.1, keyOf k with
    | some _, some q => some (((p :: r).find? fun x => decide (keyOf x.1 = some q)).map (·.2))
    | none, none => match keysOf k with
      | some q => some (((p :: r).find? fun x => decide (keysOf x.1 = some q)).map (·.2))
      | none => none
    | _, _ => none
theorem find_key (ts : List (Key × D)) (k : Key) : ((ts.map fun p => (keyD p.1, p.2)).find? fun x : D × D => decide (keyOf x.1 = some k)).map (·.2) = valP ts k := by
  unfold valP
  induction ts with
  | nil => rfl
  | cons p r ih =>
    rw [List.map_cons, List.find?_cons, List.find?_cons, keyOf_keyD]
    by_cases c : p.1 = k
    · rw [decide_eq_true c, decide_eq_true (congrArg some c)]; rfl
    · rw [decide_eq_false c, decide_eq_false (fun q => c (Option.some.inj q))]; exact ih
theorem find_keys (ts : List (List Key × D)) (k : List Key) : ((ts.map fun p => (tupD p.1, p.2)).find? fun x : D × D => decide (keysOf x.1 = some k)).map (·.2) = valP ts k := by
  unfold valP
  induction ts with
  | nil => rfl
  | cons p r ih =>
    rw [List.map_cons, List.find?_cons, List.find?_cons, keysOf_tupD]
    by_cases c : p.1 = k
    · rw [decide_eq_true c, decide_eq_true (congrArg some c)]; rfl
    · rw [decide_eq_false c, decide_eq_false (fun q => c (Option.some.inj q))]; exact ih
section
variable {K : Fg} {PN : Addr → Prop} {Z H : Hp}
theorem keysV : ∀ {vs : List V} {ks : List Key}, DRs K Z vs (ks.map keyD) → vs = ks.map kV
  | _, [], h => by cases h; rfl
  | _, k :: ks, h => by
    rw [List.map_cons] at h
    cases h with
    | cons h1 h2 =>
      rw [List.map_cons, keysV h2]
      cases k with
      | inl i => cases h1; rfl
      | inr i => cases h1; rfl
theorem look_get {x y : V} {ds : List (D × D)} {k : D} {r : Option D} (C : Ctx PN Z H) (bx : BR K PN Z H x (.dict ds)) (bk : BR K PN Z H y k) (h : lookD ds k = some r) :
    ∃ a, x = .ref a ∧ ((r = none ∧ GetA K H a y none) ∨ ∃ v d, r = some d ∧ GetA K H a y (some v) ∧ DR K Z v d) := by
  obtain ⟨a, rfl, q | q⟩ := bx.dictI C.sub
  · obtain ⟨es, ts, rd, rel, rfl⟩ := q
    cases ts with
    | nil =>
      cases rel
      simp only [List.map_nil, lookD] at h
      cases hk : keyOf k with
      | some kk =>
        rw [hk] at h; cases h
        have ey : y = kV kk := by
          have := keyOf_is hk
          subst this
          cases kk with
          | inl i => exact bk.intI
          | inr i => exact bk.strI
        exact ⟨a, rfl, .inl ⟨rfl, .inl ⟨[], kk, .inl rd, ey, rfl⟩⟩⟩
      | none =>
        rw [hk] at h
        cases hks : keysOf k with
        | none => rw [hks] at h; cases h
        | some kk =>
          rw [hks] at h; cases h
          have := keysOf_is hks
          subst this
          obtain ⟨b, vs, rfl, hb, _, tv⟩ := bk.tupI C.sub
          obtain rfl := keysV tv
          exact ⟨a, rfl, .inl ⟨rfl, .inr ⟨[], kk, b, .inr ⟨rfl, rd⟩, (fun _ hp => nomatch hp), rfl, hb, rfl⟩⟩⟩
    | cons t ts =>
      simp only [List.map_cons, lookD, keyOf_keyD] at h
      cases hk : keyOf k with
      | none => rw [hk] at h; cases h
      | some kk =>
        rw [hk] at h
        have e := find_key (t :: ts) kk
        rw [List.map_cons] at e
        simp only [e, Option.some.injEq] at h
        have ek := keyOf_is hk
        have ey : y = kV kk := by
          subst ek
          cases kk with
          | inl i => exact bk.intI
          | inr i => exact bk.strI
        refine ⟨a, rfl, ?_⟩
        rcases rel.val kk with ⟨v, d, e1, e2, e3⟩ | ⟨e1, e2⟩
        · exact .inr ⟨v, d, by rw [← h, e2], .inl ⟨es, kk, .inl rd, ey, e1.symm⟩, e3⟩
        · exact .inl ⟨by rw [← h, e2], .inl ⟨es, kk, .inl rd, ey, e1.symm⟩⟩
  · obtain ⟨es, ts, rd, rel, rfl⟩ := q
    cases ts with
    | nil =>
      cases rel
      simp only [List.map_nil, lookD] at h
      cases hk : keyOf k with
      | some kk =>
        rw [hk] at h; cases h
        have ey : y = kV kk := by
          have := keyOf_is hk
          subst this
          cases kk with
          | inl i => exact bk.intI
          | inr i => exact bk.strI
        exact ⟨a, rfl, .inl ⟨rfl, .inl ⟨[], kk, .inr ⟨rfl, rd⟩, ey, rfl⟩⟩⟩
      | none =>
        rw [hk] at h
        cases hks : keysOf k with
        | none => rw [hks] at h; cases h
        | some kk =>
          rw [hks] at h; cases h
          have := keysOf_is hks
          subst this
          obtain ⟨b, vs, rfl, hb, _, tv⟩ := bk.tupI C.sub
          obtain rfl := keysV tv
          exact ⟨a, rfl, .inl ⟨rfl, .inr ⟨[], kk, b, .inl rd, (fun _ hp => nomatch hp), rfl, hb, rfl⟩⟩⟩
    | cons t ts =>
      simp only [List.map_cons, lookD, keyOf_tupD] at h
      cases hk : keyOf k with
      | some kk => rw [hk] at h; cases h
      | none =>
        rw [hk] at h
        cases hks : keysOf k with
        | none => rw [hks] at h; cases h
        | some kk =>
          rw [hks] at h
          have e := find_keys (t :: ts) kk
          rw [List.map_cons] at e
          simp only [e, Option.some.injEq] at h
          have ek := keysOf_is hks
          subst ek
          obtain ⟨b, vs, rfl, hb, _, tv⟩ := bk.tupI C.sub
          have ev : vs = kk.map kV := keysV tv
          subst ev
          refine ⟨a, rfl, ?_⟩
          rcases rel.val kk with ⟨v, d, e1, e2, e3⟩ | ⟨e1, e2⟩
          · exact .inr ⟨v, d, by rw [← h, e2], .inr ⟨es, kk, b, .inl rd, rel.keys C.sub, rfl, hb, e1.symm⟩, e3⟩
          · exact .inl ⟨by rw [← h, e2], .inr ⟨es, kk, b, .inl rd, rel.keys C.sub, rfl, hb, e1.symm⟩⟩
/-! subscripts of dicts, texts too -/
def sIxA : Sem2 := fun d e P => match d with
  | .dict ds => ∃ v, lookD ds e = some (some v) ∧ P (.v (.dat v))
  | .str z => ∃ i c, e = .int i ∧ z.length ≤ 16777216 ∧ atI z.cps.toList i = some c ∧ P (.v (.dat (.str ⟨#[c]⟩)))
  | d => sIx d e P
abbrev rIxAll (K : Fg) : R2 := fun x y H Q => rIx K x y H Q ∨ rIxA K x y H Q ∨ rIxS x y H Q
theorem p_ixA : Pure2 K (rIxAll K) sIxA := by
  intro PN Z H x y d e P Q C bx bz s k
  unfold sIxA at s
  split at s
  · obtain ⟨v, h, p⟩ := s
    obtain ⟨a, rfl, q | ⟨u, d, e1, g, r⟩⟩ := look_get C bx bz h
    · cases q.1
    · cases e1
      exact .inr (.inl ⟨a, u, rfl, g, keepS C k p r⟩)
  · obtain ⟨i, c, rfl, h1, h2, p⟩ := s
    obtain rfl := bx.strI
    obtain rfl := bz.intI
    exact .inr (.inr ⟨_, i, c, rfl, rfl, by rw [← line_is]; exact h1, h2, keepS C k p (.str _)⟩)
  · exact .inl (p_ix PN Z H x y _ e P Q C bx bz s k)
theorem az_ixA {X : Cx} {G : Gh} {a b : Expr} {pos : Pos} {wa wb : WE D} (hu : X.A.units + 1 < cLine) (ha : AB X G a wa) (hb : AB X G b wb) (hs : PlainIx b := by exact fun _ _ => rfl) : AZ X G (.Subscript a b pos) (w2 sIxA wa wb) :=
  PEi (pe_ix (ix_seq.or ((ix_dictA hu).or ix_str)) ha hb hs) fun _ _ _ h => tOp_of p_ixA h
/-! y in x: lists, tuples, dicts, texts -/
def occD (i j : Str) : Bool := !(Builtin.Str.occurrences j i 0 j.length 1).isEmpty
def inD (d e : D) (P : Bool → Prop) : Prop := match e with
  | .list ds => okD d ∧ okD (.list ds) ∧ P (ds.any fun z => PyData.eqv z d)
  | .tuple ds => okD d ∧ okD (.tuple ds) ∧ P (ds.any fun z => PyData.eqv z d)
  | .dict ds => ∃ r, lookD ds d = some r ∧ P r.isSome
  | .str z => ∃ i, d = .str i ∧ P (occD i z)
  | _ => False
def sInA : Sem2 := fun d e P => inD d e fun b => P (vB b)
def sNotInA : Sem2 := fun d e P => inD d e fun b => P (vB (!b))
def rInT (K : Fg) : R2 := fun x y H Q => ∃ d ds, Dp K H x d ∧ Dp K H y (.tuple ds) ∧ SeqAt.shaped d = true ∧ SeqAt.shaped (.tuple ds) = true ∧ Q (.bl (ds.any fun z => PyData.eqv z d)) H
def rNotInT (K : Fg) : R2 := fun x y H Q => ∃ d ds, Dp K H x d ∧ Dp K H y (.tuple ds) ∧ SeqAt.shaped d = true ∧ SeqAt.shaped (.tuple ds) = true ∧ Q (.bl (!ds.any fun z => PyData.eqv z d)) H
theorem op_inT {X : Cx} (hu : X.A.units + 65 < cLine) : OpR X (compareOp .In) (rInT X.K) := by
  intro pins s σ H x y v u Q I rx ry h
  obtain ⟨d, ds, hd, he, sd, se, q⟩ := h
  obtain ⟨as1, r1⟩ := Dp.reads I d x v hd rx
  obtain ⟨as2, r2⟩ := Dp.reads I (.tuple ds) y u he ry
  exact SeqAt.in_tuple_reads r2 r1 (SeqAt.canLay_of_shaped se) (SeqAt.canLay_of_shaped sd) (room_in_shaped sd hu) ⟨.bl _, H, I, rfl, q⟩
theorem op_notInT {X : Cx} (hu : X.A.units + 65 < cLine) : OpR X (compareOp .NotIn) (rNotInT X.K) := by
  intro pins s σ H x y v u Q I rx ry h
  obtain ⟨d, ds, hd, he, sd, se, q⟩ := h
  obtain ⟨as1, r1⟩ := Dp.reads I d x v hd rx
  obtain ⟨as2, r2⟩ := Dp.reads I (.tuple ds) y u he ry
  exact SeqAt.notIn_tuple_reads r2 r1 (SeqAt.canLay_of_shaped se) (SeqAt.canLay_of_shaped sd) (room_in_shaped sd hu) ⟨.bl _, H, I, rfl, q⟩
abbrev rInAll (K : Fg) : R2 := fun x y H Q => rInD K x y H Q ∨ rInT K x y H Q ∨ rInA K x y H Q ∨ (∃ i j, x = .str i ∧ y = .str j ∧ Q (.bl (!(Builtin.Str.occurrences j i 0 j.length 1).isEmpty)) H)
theorem p_inA : Pure2 K (rInAll K) sInA := by
  intro PN Z H x y d e P Q C bx bz s k
  unfold sInA inD at s
  split at s
  · exact .inl ⟨_, _, bx.dp C.sub s.1.1, bz.dp C.sub s.2.1.1, s.1.2, s.2.1.2, keepS C k s.2.2 (.bl _)⟩
  · exact .inr (.inl ⟨_, _, bx.dp C.sub s.1.1, bz.dp C.sub s.2.1.1, s.1.2, s.2.1.2, keepS C k s.2.2 (.bl _)⟩)
  · obtain ⟨r, h, p⟩ := s
    obtain ⟨a, rfl, ⟨rfl, g⟩ | ⟨u, d, rfl, g, _⟩⟩ := look_get C bz bx h
    · exact .inr (.inr (.inl ⟨a, none, rfl, g, keepS C k p (.bl _)⟩))
    · exact .inr (.inr (.inl ⟨a, some u, rfl, g, keepS C k p (.bl _)⟩))
  · obtain ⟨i, rfl, p⟩ := s
    obtain rfl := bx.strI
    obtain rfl := bz.strI
    exact .inr (.inr (.inr ⟨_, _, rfl, rfl, keepS C k p (.bl _)⟩))
  · exact s.elim
abbrev rNotInAll (K : Fg) : R2 := fun x y H Q => rNotInD K x y H Q ∨ rNotInT K x y H Q ∨ rNotInA K x y H Q ∨ (∃ i j, x = .str i ∧ y = .str j ∧ Q (.bl (!(!(Builtin.Str.occurrences j i 0 j.length 1).isEmpty))) H)
theorem p_notInA : Pure2 K (rNotInAll K) sNotInA := by
  intro PN Z H x y d e P Q C bx bz s k
  unfold sNotInA inD at s
  split at s
  · exact .inl ⟨_, _, bx.dp C.sub s.1.1, bz.dp C.sub s.2.1.1, s.1.2, s.2.1.2, keepS C k s.2.2 (.bl _)⟩
  · exact .inr (.inl ⟨_, _, bx.dp C.sub s.1.1, bz.dp C.sub s.2.1.1, s.1.2, s.2.1.2, keepS C k s.2.2 (.bl _)⟩)
  · obtain ⟨r, h, p⟩ := s
    obtain ⟨a, rfl, ⟨rfl, g⟩ | ⟨u, d, rfl, g, _⟩⟩ := look_get C bz bx h
    · exact .inr (.inr (.inl ⟨a, none, rfl, g, keepS C k p (.bl _)⟩))
    · exact .inr (.inr (.inl ⟨a, some u, rfl, g, keepS C k p (.bl _)⟩))
  · obtain ⟨i, rfl, p⟩ := s
    obtain rfl := bx.strI
    obtain rfl := bz.strI
    exact .inr (.inr (.inr ⟨_, _, rfl, rfl, keepS C k p (.bl _)⟩))
  · exact s.elim
theorem o_in {X : Cx} (hu : X.A.units + 65 < cLine) : OpR X (compareOp .In) (rInAll X.K) := (op_inD hu).or ((op_inT hu).or ((op_inA (by omega)).or op_in_str))
theorem o_notIn {X : Cx} (hu : X.A.units + 65 < cLine) : OpR X (compareOp .NotIn) (rNotInAll X.K) := (op_notInD hu).or ((op_notInT hu).or ((op_notInA (by omega)).or op_notIn_str))
end
end
end VL
/-! x[k] = v, x[k] += v: x a list or a dict of the body's own. -/
namespace VL
open PySem PySem.Spec PyProof.Rows L2
noncomputable section
instance (n : Nat) (i : Int) : Decidable (∃ j, ixN n i = some j) := by
  cases h : ixN n i with
  | none => exact isFalse (fun ⟨j, e⟩ => by cases e)
  | some j => exact isTrue ⟨j, rfl⟩
def putS (x : Sl) (k d : D) (P : Sl → Prop) : Prop := match x with
  | .lst ds => ∃ n j, k = .int n ∧ ixN ds.length n = some j ∧ P (.lst (ds.set j d))
  | .dk kvs => ∃ q, keyOf k = some q ∧ kvs.length < 16777216 ∧ P (.dk (putP kvs q d))
  | .dt kvs => ∃ q, keysOf k = some q ∧ q.all isIK = true ∧ kvs.length < 16777216 ∧ P (.dt (putP kvs q d))
  | _ => False
def getS (x : Sl) (k : D) (P : D → Prop) : Prop := match x with
  | .lst ds => ∃ n v, k = .int n ∧ atI ds n = some v ∧ P v
  | .dk kvs => ∃ q v, keyOf k = some q ∧ valP kvs q = some v ∧ P v
  | .dt kvs => ∃ q v, keysOf k = some q ∧ valP kvs q = some v ∧ P v
  | _ => False
def ownSl : Sl → Prop
  | .lst _ => True
  | .dk _ => True
  | .dt _ => True
  | _ => False
section
variable {X : Cx}
theorem get_list : PGet X fun o i H Q => ∃ p xs n v, o = .ref p ∧ i = .int n ∧ H p = some (.lst xs) ∧ atI xs n = some v ∧ Q v H := by
  intro pins s σ H o i ov iv Q I ro ri h
  obtain ⟨p, xs, n, z, rfl, rfl, hp, he, q⟩ := h
  cases ro
  obtain ⟨t, rfl⟩ := ri
  obtain ⟨its, r, pl, hz⟩ := I.list (SqL.of hp)
  obtain ⟨j, h1, h2, h3, h4, h5⟩ := atI_get he
  obtain ⟨w, ew, rw'⟩ := r.get h2
  have hl := r.length
  have hn := line63
  have fin : EP X pins σ Q w s := ⟨z, H, I, rw', q⟩
  by_cases h0 : 0 ≤ n
  · have hj : n.toNat = j := by
      rw [seqIndex_of h0 h5] at h1
      exact Option.some.inj h1
    exact wpAny_getItem_list pl.isList h0 (by omega) (by rw [hj]; simpa using ew) fin
  · have hj : (n + (its.toArray.size : Int)).toNat = j := by
      rw [seqIndex_neg (by omega) h4] at h1
      rw [List.size_toArray, ← hl]
      exact Option.some.inj h1
    exact wpAny_getItem_list_neg pl.isList (by omega) (by rw [List.size_toArray] <;> omega) (by omega) (by rw [hj]; simpa using ew) fin
theorem PGet.or {t t' : V → V → Hp → VK → Prop} (h : PGet X t) (h' : PGet X t') : PGet X fun o i H Q => t o i H Q ∨ t' o i H Q := by
  intro pins s σ H o i ov iv Q I ro ri q
  rcases q with q | q
  · exact h pins s σ H o i ov iv Q I ro ri q
  · exact h' pins s σ H o i ov iv Q I ro ri q
abbrev rSetAll (K : Fg) : V → V → V → Hp → (Hp → Prop) → Prop := fun o i v H Q => rSetL o i v H Q ∨ rSetA K o i v H Q
theorem set_all (hu : X.A.units + 1 < cLine) : PSet X (rSetAll X.K) := PSet.or set_list (set_dictA hu)
abbrev rGetAll (K : Fg) : V → V → Hp → VK → Prop := fun o i H Q => (∃ p xs n v, o = .ref p ∧ i = .int n ∧ H p = some (.lst xs) ∧ atI xs n = some v ∧ Q v H) ∨ rGetItA K o i H Q
theorem get_all (hu : X.A.units + 1 < cLine) : PGet X (rGetAll X.K) := PGet.or get_list (get_dictA hu)
end
section
variable {K : Fg} {G : Gh} {Γ : Ga} {Z H : Hp} {O : Ow} {σ : L2.St}
theorem own_ref (R : Rel K G Γ Z O σ H) {i : Nat} (h : ownSl (Γ.at i)) : ∃ a, σ[i]? = some (some (.ref a)) := by
  have q := R.sl i
  cases e : Γ.at i <;> rw [e] at h q <;> first | exact h.elim | (obtain ⟨a, vs, e1, _⟩ := q; exact ⟨a, getD_some e1⟩)
theorem DRs.setI : ∀ {vs : List V} {ds : List D} {j : Nat} {u : V} {d : D}, DRs K Z vs ds → DR K Z u d → DRs K Z (vs.set j u) (ds.set j d) := fun h q => DRs.set _ h q
theorem putS_set (R : Rel K G Γ Z O σ H) {i : Nat} {a : Addr} {k d : D} {y v : V} {P : Sl → Prop} {Q : Hp → Prop} (ha : σ[i]? = some (some (.ref a))) (bk : BR K G.PN Z H y k) (hd : DR K Z v d) (h : putS (Γ.at i) k d P)
    (q : ∀ x H', P x → Rel K G (Γ.set i x) Z O σ H' → Q H') : rSetAll K (.ref a) y v H Q := by
  have sl := R.sl i
  have ea : ∀ {b : Addr}, σ.getD i none = some (.ref b) → b = a := fun {b} e => by
    have e' := getD_some e
    rw [ha] at e'
    cases e'; rfl
  cases e : Γ.at i <;> rw [e] at h sl <;> try exact h.elim
  · rename_i ds
    obtain ⟨b, vs, e1, o1, h1, t⟩ := sl
    obtain rfl := ea e1
    obtain ⟨n, j, rfl, hj, p⟩ := h
    obtain rfl := bk.intI
    refine .inl ⟨b, vs, n, j, rfl, rfl, h1, by rw [t.length]; exact hj, q _ _ p (R.updOwn o1 ⟨b, _, e1, o1, upd_same, t.setI hd⟩)⟩
  · rename_i kvs
    obtain ⟨b, vs, e1, o1, h1, t⟩ := sl
    obtain rfl := ea e1
    obtain ⟨kk, hk, lt, p⟩ := h
    have ey : y = kV kk := by
      have := keyOf_is hk
      subst this
      cases kk with
      | inl i => exact bk.intI
      | inr i => exact bk.strI
    have len : vs.length = kvs.length := Paired.length t
    refine .inr ⟨b, _, rfl, .inl ⟨vs, kk, h1, ey, by rw [len, ← line_is]; exact lt, rfl⟩, q _ _ p (R.updOwn o1 ⟨b, _, e1, o1, upd_same, t.put kk hd⟩)⟩
  · rename_i kvs
    obtain ⟨b, vs, e1, o1, h1, t⟩ := sl
    obtain rfl := ea e1
    obtain ⟨kk, hk, ik, lt, p⟩ := h
    have := keysOf_is hk
    subst this
    obtain ⟨c, us, rfl, hc, hcz, tv⟩ := bk.tupI R.sub
    obtain rfl := keysV tv
    have len : vs.length = kvs.length := Paired.length t
    refine .inr ⟨b, _, rfl, .inr ⟨vs, kk, c, h1, t.keys R.sub, rfl, hc, ik, by rw [len, ← line_is]; exact lt, rfl⟩, q _ _ p (R.updOwn o1 ⟨b, _, e1, o1, upd_same, t.put kk hcz hd⟩)⟩
theorem getS_get (R : Rel K G Γ Z O σ H) {i : Nat} {a : Addr} {k : D} {y : V} {P : D → Prop} {Q : VK} (ha : σ[i]? = some (some (.ref a))) (bk : BR K G.PN Z H y k) (h : getS (Γ.at i) k P)
    (q : ∀ v d, P d → DR K Z v d → Q v H) : rGetAll K (.ref a) y H Q := by
  have sl := R.sl i
  have ea : ∀ {b : Addr}, σ.getD i none = some (.ref b) → b = a := fun {b} e => by
    have e' := getD_some e
    rw [ha] at e'
    cases e'; rfl
  cases e : Γ.at i <;> rw [e] at h sl <;> try exact h.elim
  · rename_i ds
    obtain ⟨b, vs, e1, o1, h1, t⟩ := sl
    obtain rfl := ea e1
    obtain ⟨n, v, rfl, hv, p⟩ := h
    obtain rfl := bk.intI
    obtain ⟨u, hu, hr⟩ := t.atI hv
    exact .inl ⟨b, vs, n, u, rfl, rfl, h1, hu, q _ _ p hr⟩
  · rename_i kvs
    obtain ⟨b, vs, e1, o1, h1, t⟩ := sl
    obtain rfl := ea e1
    obtain ⟨kk, v, hk, hv, p⟩ := h
    have ey : y = kV kk := by
      have := keyOf_is hk
      subst this
      cases kk with
      | inl i => exact bk.intI
      | inr i => exact bk.strI
    rcases t.val kk with ⟨u, d, q1, q2, q3⟩ | ⟨_, q2⟩
    · rw [hv] at q2; cases q2
      exact .inr ⟨b, u, rfl, .inl ⟨vs, kk, .inl (.inl h1), ey, q1.symm⟩, q _ _ p q3⟩
    · rw [hv] at q2; cases q2
  · rename_i kvs
    obtain ⟨b, vs, e1, o1, h1, t⟩ := sl
    obtain rfl := ea e1
    obtain ⟨kk, v, hk, hv, p⟩ := h
    have := keysOf_is hk
    subst this
    obtain ⟨c, us, rfl, hc, hcz, tv⟩ := bk.tupI R.sub
    obtain rfl := keysV tv
    rcases t.val kk with ⟨u, d, q1, q2, q3⟩ | ⟨_, q2⟩
    · rw [hv] at q2; cases q2
      exact .inr ⟨b, u, rfl, .inr ⟨vs, kk, c, .inl (.inl h1), t.keys R.sub, rfl, hc, q1.symm⟩, q _ _ p q3⟩
    · rw [hv] at q2; cases q2
end
section
variable {X : Cx} {G : Gh} {e ix : Expr} {x : Str} {px pos pos' : Pos}
def wSub (i : Nat) (we : WE Rv) (wi : WE D) : WS := fun E Γ => we Γ fun r Γ1 => ownSl (Γ1.at i) ∧ wi Γ1 fun k Γ2 => match r with
  | .dat d => putS (Γ2.at i) k d fun x => E.nx (Γ2.set i x)
  | .pen => False
theorem as_sub (i : Nat) {we : WE Rv} {wi : WE D} (hu : X.A.units + 1 < cLine) (he : AE X G e we) (hi : AB X G ix wi) (hN : X.N[i]? = some x := by rfl) (hv : Vis X.env.scope x := by first | exact Or.inl rfl | exact Or.inr (Or.inl rfl) | exact Or.inr (Or.inr rfl)) (hd : (x == ("__debug__" : Str)) = false := by decide) (hcd : (x == ("__classdict__" : Str)) = false := by decide)
    (hs : swapsWithSole [.Subscript (.Name x px) ix pos'] e pos.line X.env = pure false := by rfl) (hw : swappedStores [.Subscript (.Name x px) ix pos'] e X.env = pure none := by rfl) (h1 : (assignEach [.Subscript (.Name x px) ix pos'] X.env).map (·.2) = [assign (.Subscript (.Name x px) ix pos') X.env] := by rfl)
    (ha : ∀ v, assign (.Subscript (.Name x px) ix pos') X.env v = (do
      let ov ← holding [v] (eval (.Name x px) X.env)
      let iv ← holding [v, ov] (eval ix X.env)
      standAt pos'
      holding [v, ov, iv] (setItem ov iv v)
      release [v, ov, iv] []) := by intro _; rfl) :
    AS X G (.Assign [.Subscript (.Name x px) ix pos'] e pos) (wSub i we wi) :=
  PSi (ps_asg he (pg_sub (pe_var hN hv hd hcd) hi (set_all hu) ha) hs hw h1) fun T σ H ⟨Γ, Z, O, E, R, w, k⟩ => ⟨Γ, Z, O, _, R, w, fun r Γ1 v Z1 O1 H1 p1 R1 S1 b1 => by
    obtain ⟨hown, p1⟩ := p1
    obtain ⟨a, hσ⟩ := own_ref R1 hown
    refine ⟨_, hσ, Γ1, Z1, O1, _, R1, p1, fun kd Γ2 y Z2 O2 H2 p2 R2 S2 b2 => ?_⟩
    cases r with
    | pen => exact p2.elim
    | dat d => exact putS_set R2 hσ b2 (DR.mono S2.zZ b1) p2 fun x H' px R' => k.nx _ _ _ _ _ px R'⟩
/-- x[k] += v, of ints -/
def wAugSub (i : Nat) (f : Int → Int → Int) (wi : WE D) (we : WE D) : WS := fun E Γ => ownSl (Γ.at i) ∧ wi Γ fun k Γ1 => getS (Γ1.at i) k fun a => match a with
  | .int a => we Γ1 fun b Γ2 => match b with
    | .int b => putS (Γ2.at i) k (.int (f a b)) fun x => E.nx (Γ2.set i x)
    | _ => False
  | _ => False
theorem as_augSub (i : Nat) {op : Operator} {f : Int → Int → Int} {we wi : WE D} (hp : PIp X op (ipI f)) (hu : X.A.units + 1 < cLine) (hi : AB X G ix wi) (he : AB X G e we) (hN : X.N[i]? = some x := by rfl) (hv : Vis X.env.scope x := by first | exact Or.inl rfl | exact Or.inr (Or.inl rfl) | exact Or.inr (Or.inr rfl)) (hd : (x == ("__debug__" : Str)) = false := by decide) (hcd : (x == ("__classdict__" : Str)) = false := by decide)
    (ha : ∀ ov iv new, augStore ix ov iv new = (do holding [new, ov, iv] (setItem ov iv new); release [new, ov, iv] []; pure .next) := by intros; rfl) :
    AS X G (.AugAssign (.Subscript (.Name x px) ix pos') op e pos) (wAugSub i f wi we) :=
  PSi (ps_augS (pe_var hN hv hd hcd) hi (get_all hu) he hp (set_all hu) ha) fun T σ H ⟨Γ, Z, O, E, R, ⟨hown, w⟩, k⟩ => by
    obtain ⟨a, hσ⟩ := own_ref R hown
    refine ⟨_, hσ, Γ, Z, O, _, R, w, fun kd Γ1 y Z1 O1 H1 p1 R1 S1 b1 => ?_⟩
    refine getS_get R1 hσ b1 p1 fun v d p hr => ?_
    cases d with
    | int n =>
      cases hr
      refine ⟨Γ1, Z1, O1, _, R1, p, fun b Γ2 u Z2 O2 H2 p2 R2 S2 b2 => ?_⟩
      cases b with
      | int m =>
        obtain rfl := b2.intI
        exact ⟨n, m, rfl, rfl, putS_set R2 hσ (b1.grow S2.zZ S2.hH) (.int _) p2 fun x H' px R' => k.nx _ _ _ _ _ px R'⟩
      | _ => exact p2.elim
    | _ => exact p.elim
end
end
end VL
/-! {k: v for x in xs if ..}, by data. -/
namespace VL
open PySem PySem.Spec PyProof.Rows L2
noncomputable section
/-- a kind of dicts: keys ints and texts; keys tuples of ints -/
structure DKind (κ : Type) [DecidableEq κ] where
  E : Type
  obj : Addr → List E → HO
  emp : Empty0 fun a => obj a []
  kf : D → Option κ
  kok : κ → Bool
  rel : Fg → Hp → List E → List (κ × D) → Prop
  nil : ∀ {K Z}, rel K Z [] []
  mono : ∀ {K Z Z'}, Sub Z Z' → ∀ {es ds}, rel K Z es ds → rel K Z' es ds
  put : ∀ {K Z H C es ds y k q v d}, Sub Z H → H C = some (obj C es) → rel K Z es ds → kf k = some q → kok q = true → DR K Z y k → DR K Z v d → ds.length < 16777216 →
    ∃ es', PutA K H C y v (upd H C (obj C es')) ∧ rel K Z es' (putP ds q d)
  rz : List (κ × D) → Rz
  rzR : ∀ {K G Hs Z O H a es ds}, Fresh G Hs Z O a → H a = some (obj a es) → rel K Z es ds → RzR K G Hs Z O H (rz ds) (.ref a)
def DKk : DKind Key where
  E := Key × V
  obj := fun _ es => .dK es
  emp := empty0K
  kf := keyOf
  kok := fun _ => true
  rel := dkR
  nil := .nil
  mono := fun s _ _ h => h.mono s
  put := fun {K Z H C es ds y k q v d} s hC hr hk _ hy hv lt => by
    have ey : y = kV q := by
      have := keyOf_is hk
      subst this
      cases q with
      | inl i => cases hy; rfl
      | inr i => cases hy; rfl
    exact ⟨_, .inl ⟨es, q, hC, ey, by rw [Paired.length hr, ← line_is]; exact lt, rfl⟩, hr.put q hv⟩
  rz := .dk
  rzR := fun f h r => ⟨_, _, rfl, f, h, r⟩
def DKt : DKind (List Key) where
  E := TKey
  obj := dXo
  emp := empty0X
  kf := keysOf
  kok := fun q => q.all isIK
  rel := dtR
  nil := .nil
  mono := fun s _ _ h => h.mono s
  put := fun {K Z H C es ds y k q v d} s hC hr hk ok hy hv lt => by
    have := keysOf_is hk
    subst this
    cases hy with
    | tup hb tv =>
      obtain rfl := keysV tv
      exact ⟨_, .inr ⟨es, q, _, hC, hr.keys s, rfl, s.sqT hb, ok, by rw [Paired.length hr, ← line_is]; exact lt, rfl⟩, hr.put q hb hv⟩
  rz := .dt
  rzR := fun f h r => ⟨_, _, rfl, f, h, r⟩
section
variable {κ : Type} [DecidableEq κ]
def dcompW (B : DKind κ) (vs : List Nat) (g : WG) (t : WE Bool) (wk wv : WE Rv) : List D → List (κ × D) → Ga → (List (κ × D) → Ga → Prop) → Prop
  | [], acc, Γ, P => P acc Γ
  | d :: r, acc, Γ, P => g d Γ fun Γ1 => t Γ1 fun b Γ2 => if b = true then wk Γ2 fun rk Γ3 => wv Γ3 fun rv Γ4 => match rk, rv with
      | .dat k, .dat e => ∃ q, B.kf k = some q ∧ B.kok q = true ∧ acc.length < 16777216 ∧ dcompW B vs g t wk wv r (putP acc q e) (wipeG Γ4 vs) P
      | _, _ => False
    else dcompW B vs g t wk wv r acc (wipeG Γ2 vs) P
def wDComp (B : DKind κ) (vs : List Nat) (wi : WE (List D)) (g : WG) (t : WE Bool) (wk wv : WE Rv) : WE Rz := fun Γ P => (∀ v ∈ vs, plainSl (Γ.at v)) ∧ wi Γ fun items Γ1 => dcompW B vs g t wk wv items [] (wipeG Γ1 vs) fun acc Γ2 => P (B.rz acc) (backG Γ2 Γ vs)
def DCompJ (B : DKind κ) (K : Fg) (G : Gh) (Zb : Hp) (us : List Nat) (σ : L2.St) (Z1 : Hp) (O1 : Ow) (H1 : Hp) (C : Addr) (w : List (κ × D) → Ga → Prop) (H : Hp) : Prop :=
  ∃ Γ Z O es ds, Rel K (G.wb Zb) Γ Z O (wipe σ us) H ∧ Step G.PN Z1 O1 H1 Z O H ∧ H C = some (B.obj C es) ∧ Z C = none ∧ O C = none ∧ B.rel K Z es ds ∧ w ds Γ
variable {X : Cx} {G : Gh} {tg iter kx vx : Expr} {ifs : List Expr} {pos : Pos} {vs : List Nat}
theorem dcomp_of (B : DKind κ) {wi : WE (List D)} {g : WG} {t : WE Bool} {wk wv : WE Rv} (own : List (Str × Nat)) (hv : ∀ i ∈ vs, i ∈ own.map (·.2)) {σ : L2.St} {H : Hp} {Q : VK} (h : lift X.K G (RzR X.K G) (wDComp B (own.map (·.2)) wi g t wk wv) σ H Q) :
    tDcA X (fun a => B.obj a []) (liftI X.K G wi) (fun v σ H Q => ∃ i, liftG X.K (G.wb i) vs g v σ H Q) (fun σ H1 Q => ∃ Zb, lift X.K (G.wb Zb) (fun _ _ _ _ (a b : Bool) => a = b) t σ H1 Q) (fun σ H Q => ∃ Zb, lift X.K (G.wb Zb) (fun _ Z _ _ r v => RvR X.K G.PN Z r v) wk σ H Q) (fun σ H Q => ∃ Zb, lift X.K (G.wb Zb) (fun _ Z _ _ r v => RvR X.K G.PN Z r v) wv σ H Q) (own.map (·.2)) σ H Q := by
  obtain ⟨Γ, Z, O, P, R, ⟨hp, q⟩, k⟩ := h
  refine ⟨Γ, Z, O, _, R, q, fun items Γ1 J Z1 O1 H1 p1 R1 S1 ⟨Gp, Y, wk', hz, hG, hY⟩ C hC => ?_⟩
  have sB : Sub G.Zb Z1 := R1.fB
  have h0 : G.H0 C = none := R1.H0free hC
  have hPN : ¬ G.PN C := R1.pfree hC
  obtain ⟨Ow', Rw, hO⟩ := R1.wipeR (own.map (·.2))
  refine turns_it wk' (σ := σ) (us := own.map (·.2)) (g := fun v σ H Q => ∃ i, liftG X.K (G.wb i) vs g v σ H Q) (tb := fun σ2 H2 On => ∃ Zb, lift X.K (G.wb Zb) (fun _ _ _ _ (a b : Bool) => a = b) t σ2 H2 fun b H3 =>
      if b = true then (∃ Zb, lift X.K (G.wb Zb) (fun _ Z _ _ r v => RvR X.K G.PN Z r v) wk σ2 H3 fun y H4 => ∃ Zb, lift X.K (G.wb Zb) (fun _ Z _ _ r v => RvR X.K G.PN Z r v) wv σ2 H4 fun z H5 => ∃ H6, PutA X.K H5 C y z H6 ∧ On H6) else On H3)
    (fun i H => DCompJ B X.K G Z1 (own.map (·.2)) σ Z1 O1 H1 C (fun ds Γ' => dcompW B (own.map (·.2)) g t wk wv (items.drop i) ds Γ' fun acc Γ2 => P (B.rz acc) (backG Γ2 Γ (own.map (·.2)))) H) ?_ (fun i H _ ⟨Γ, Z, O, es, ds, R, _⟩ => hG H (R.fB.trans R.sub)) ?_ ?_
  · exact ⟨_, Z1, Ow', [], [], (Rw.wb Sub.refl).updL (R1.sub.free hC) (Rw.ofree hC) h0, ⟨fun a u e n => by rw [upd_ne (fun q => by rw [q, hC] at e; cases e)]; exact e, fun a e => by
      by_cases q : a = C
      · rw [q]; exact hC
      · rw [upd_ne q] at e; exact e, Sub.refl, fun a e => .inl e, hO⟩, upd_same, R1.sub.free hC, Rw.ofree hC, B.nil, by simpa using p1⟩
  · rintro i x H H' hi ⟨Γ2, Z2, O2, es, ds, R2, S2, hl, hzl, hol, hds, q2⟩ hy
    obtain ⟨d, Z3, hd, gr, hr⟩ := hY i H x H' Z2 R2.fB R2.ctx hy
    have hdrop : items.drop i = d :: items.drop (i + 1) := by
      obtain ⟨h1, h2⟩ := List.getElem?_eq_some_iff.mp hd
      rw [← h2]; exact List.drop_eq_getElem_cons h1
    rw [hdrop] at q2
    have R3 := R2.grow gr
    have Sg : Step G.PN Z2 O2 H Z3 O2 H' := gr.step
    refine ⟨Z1, Γ2, Z3, O2, d, _, R3, hr, q2, fun Γ4 O4 σ4 p4 R4 z4 o4 => ⟨(z4 _ hv).trans wipe_wipe, Z1, Γ4, Z3, O4, _, R4, p4, fun r Γ5 v Z5 O5 H5 p5 R5 S5 b5 => ?_⟩⟩
    subst b5
    have S4 : Step G.PN Z2 O2 H Z3 O4 H' := ⟨Sg.hH, Sg.hN, Sg.zZ, Sg.zN, fun a j h => Sg.oO a j (o4 a j h)⟩
    have S5' : Step G.PN Z2 O2 H Z5 O5 H5 := S4.trans S5
    cases r with
    | false =>
      refine iteF ?_
      obtain ⟨O6, R6, hO6⟩ := R5.wipeR (own.map (·.2))
      rw [z4 _ hv] at R6
      obtain ⟨l1, l2, l3⟩ := S5'.keepL hl hzl hol hPN
      refine ⟨_, Z5, O6, es, ds, by rw [← wipe_wipe]; exact R6, ?_, l1, l2, ?_, B.mono S5'.zZ hds, p5⟩
      · have S6 := S2.trans S5'
        exact ⟨S6.hH, S6.hN, S6.zZ, S6.zN, fun a j h => S6.oO a j (hO6 a j h)⟩
      · cases e : O6 C with
        | none => rfl
        | some j => rw [hO6 C j e] at l3; cases l3
    | true =>
      refine iteT ⟨Z1, Γ5, Z5, O5, _, R5, p5, fun rk Γ6 y Z6 O6 H6 p6 R6 S6 b6 => ⟨Z1, Γ6, Z6, O6, _, R6, p6, fun rv Γ7 z Z7 O7 H7 p7 R7 S7 b7 => ?_⟩⟩
      have S8 : Step G.PN Z2 O2 H Z7 O7 H7 := (S5'.trans S6).trans S7
      obtain ⟨l1, l2, l3⟩ := S8.keepL hl hzl hol hPN
      cases rk with
      | pen => cases rv <;> exact p7.elim
      | dat kd => cases rv with
        | pen => exact p7.elim
        | dat dd =>
          obtain ⟨q, hq, hok, lt, p7⟩ := p7
          obtain ⟨es', put, rel'⟩ := B.put R7.sub l1 (B.mono S8.zZ hds) hq hok (DR.mono S7.zZ b6) b7 lt
          refine ⟨_, put, ?_⟩
          obtain ⟨O9, R9, hO9⟩ := R7.wipeR (own.map (·.2))
          rw [z4 _ hv] at R9
          have l9 : O9 C = none := by
            cases e : O9 C with
            | none => rfl
            | some j => rw [hO9 C j e] at l3; cases l3
          refine ⟨_, Z7, O9, es', _, by rw [← wipe_wipe]; exact R9.updL l2 l9 h0, ?_, upd_same, l2, l9, rel', p7⟩
          have S10 := S2.trans S8
          have S11 : Step G.PN Z1 O1 H1 Z7 O9 H7 := ⟨S10.hH, S10.hN, S10.zZ, S10.zN, fun a j h => S10.oO a j (hO9 a j h)⟩
          exact S11.updL hC
  · rintro H ⟨Γ2, Z2, O2, es, ds, R2, S2, hl, hzl, hol, hds, q2⟩
    rw [List.drop_length] at q2
    exact k _ _ _ _ _ _ q2 (Rel.back R ((S1.trans S2).zZ) (R2.unwb sB) hp) (S1.trans S2) (B.rzR ⟨S1.hN C hC, hzl, hol⟩ hl hds)
theorem az_dcomp (B : DKind κ) {wi : WE (List D)} {g : WG} {t : WE Bool} {wk wv : WE Rv} {scope : Scope} (own : List (Str × Nat)) (room : X.A.units < cLine) (nd : X.N.Nodup) (hi : AI X G tg iter wi) (blk : BlkOk X.N X.env.scope scope own)
    (hg : ∀ (Zb : Hp) (s : Shared) (H : Hp) (C : Addr) (cl : List (Str × Addr)) (fp : List Addr), AG (cX X scope s H C cl fp) (G.wb Zb) tg vs g)
    (ht : ∀ (Zb : Hp) (s : Shared) (H : Hp) (C : Addr) (cl : List (Str × Addr)) (fp : List Addr), ATs (cX X scope s H C cl fp) (G.wb Zb) ifs t)
    (hk : ∀ (Zb : Hp) (s : Shared) (H : Hp) (C : Addr) (cl : List (Str × Addr)) (fp : List Addr), AE (cX X scope s H C cl fp) (G.wb Zb) kx wk)
    (hw : ∀ (Zb : Hp) (s : Shared) (H : Hp) (C : Addr) (cl : List (Str × Addr)) (fp : List Addr), AE (cX X scope s H C cl fp) (G.wb Zb) vx wv)
    (hv : ∀ i ∈ vs, i ∈ own.map (·.2) := by decide) (calm : X.calm = true := by rfl) (fold : ∀ x, foldedSetIterable iter X.env x = pure x := by intro _; rfl) : AZ X G (.DictComp kx vx [⟨tg, iter, ifs, 0⟩] scope pos) (wDComp B (own.map (·.2)) wi g t wk wv) := by
  have tests : ∀ (s : Shared) (H : Hp) (C : Addr) (cl : List (Str × Addr)) (fp : List Addr), PTs (cX X scope s H C cl fp) ifs (fun σ H1 Q => ∃ Zb, lift X.K (G.wb Zb) (fun _ _ _ _ (a b : Bool) => a = b) t σ H1 Q) := fun s H C cl fp => ⟨fun pins s1 σ H1 Q I ⟨Zb, q⟩ => (ht Zb s H C cl fp).run pins s1 σ H1 Q I q⟩
  refine PEi (pe_dcA B.emp room calm nd hi blk (fun s H C cl fp => exG (t := fun Zb => liftG X.K (G.wb Zb) vs g) fun Zb => hg Zb s H C cl fp) tests (fun s H C cl fp => exE (t := fun Zb => lift X.K (G.wb Zb) (fun _ Z _ _ r v => RvR X.K G.PN Z r v) wk) fun Zb => hk Zb s H C cl fp)
    (fun s H C cl fp => exE (t := fun Zb => lift X.K (G.wb Zb) (fun _ Z _ _ r v => RvR X.K G.PN Z r v) wv) fun Zb => hw Zb s H C cl fp) fold) fun σ H Q h => dcomp_of B own hv h
end
/-! ### the plain function -/
variable {α β γ S S' L M ρ : Type} {s s0 s1 s2 s3 : List Sl} {X : Exc → Nat → Prop}
section
variable {κ : Type} [DecidableEq κ]
def dcompO (B : DKind κ) (tg : D → Out β) (t : β → Out Bool) (fk fv : β → Out D) : List D → List (κ × D) → Out (List (κ × D))
  | [], acc => .ok acc
  | d :: r, acc => (tg d).bind fun b => (t b).bind fun c => if c = true then (fk b).bind fun k => (fv b).bind fun e => match B.kf k with
      | some q => if B.kok q = true ∧ acc.length < 16777216 then dcompO B tg t fk fv r (putP acc q e) else .bad
      | none => .bad
    else dcompO B tg t fk fv r acc
theorem r_dcompB (B : DKind κ) {vs : List Nat} {wi : WE (List D)} {g : WG} {tw : WE Bool} {wk wv : WE Rv} {t : Out (List D)} {tg : D → Out β} {tt : β → Out Bool} {fk fv : β → Out D} {sw : List Sl} {sb : β → List Sl} (hp : ∀ v ∈ vs, plainSl (s.getD v .no)) (hi : RO wi s s1 t id X) (hw : ∀ c, wipeG ⟨s1, c⟩ vs = ⟨sw, c⟩)
    (hg : RG g sw tg sb) (ht : ∀ b, RO tw (sb b) (sb b) (tt b) id fun _ _ => False) (hk : ∀ b, RO wk (sb b) (sb b) (fk b) .dat fun _ _ => False) (hf : ∀ b, RO wv (sb b) (sb b) (fv b) .dat fun _ _ => False) (hb : ∀ b c, wipeG ⟨sb b, c⟩ vs = ⟨sw, c⟩) (hs : ∀ c, backG ⟨sw, c⟩ ⟨s, c⟩ vs = ⟨s2, c⟩) :
    RO (wDComp B vs wi g tw wk wv) s s2 (t.bind fun items => (dcompO B tg tt fk fv items []).noer) B.rz X := fun c P q => by
  refine ⟨hp, hi c _ ((Out.post_bind q).imp fun items p => ?_)⟩
  rw [hw]
  have key : ∀ (items : List D) (acc : List (κ × D)), (dcompO B tg tt fk fv items acc).post (fun es => P (B.rz es) ⟨s2, c⟩) (fun _ => False) → dcompW B vs g tw wk wv items acc ⟨sw, c⟩ fun acc Γ2 => P (B.rz acc) (backG Γ2 ⟨s, c⟩ vs) := by
    intro items
    induction items with
    | nil =>
      intro acc h
      show P (B.rz acc) (backG ⟨sw, c⟩ ⟨s, c⟩ vs)
      rw [hs]; exact h
    | cons d r ih =>
      intro acc h
      refine hg d c _ (((Out.post_bind h).imp fun b h => ht b c _ ((Out.post_bind h).imp fun v h => ?_)))
      cases v with
      | true =>
        refine hk b c _ ((Out.post_bind h).imp fun kd h => hf b c _ ((Out.post_bind h).imp fun e h => ?_))
        cases hq : B.kf kd with
        | none => rw [hq] at h; exact h.elim
        | some q =>
          rw [hq] at h
          obtain ⟨⟨h1, h2⟩, h3⟩ := post_if h
          refine ⟨q, hq, h1, h2, ?_⟩
          show dcompW B vs g tw wk wv r (putP acc q e) (wipeG ⟨sb b, c⟩ vs) _
          rw [hb]
          exact ih _ h3
      | false =>
        show dcompW B vs g tw wk wv r acc (wipeG ⟨sb b, c⟩ vs) _
        rw [hb]
        exact ih _ h
  exact key items [] (noer_post p)
end
end
end VL
/-! methods by data: d.get, xs.index, .. -/
namespace VL
open PySem PySem.Spec PyProof.Rows L2
noncomputable section
abbrev SemM := D → List D → (Rz → Prop) → Prop
def PureM (K : Fg) (r : V → List V → Hp → VK → Prop) (sem : SemM) : Prop := ∀ (PN : Addr → Prop) (Z H : Hp) (x : V) (xs : List V) (d : D) (ds : List D) (P : Rz → Prop) (Q : VK), Ctx PN Z H → BR K PN Z H x d → BRs K PN Z H xs ds → sem d ds P →
  (∀ z v Z' H', P z → Grow Z H Z' H' → RzN K H Z' H' z v → Q v H') → r x xs H Q
def tBMA (K : PySem.W.Frag) (T : String) (r : V → List V → Hp → VK → Prop) (to : TE) (t : TA) : TE := fun σ H Q => to σ H fun x H1 => (tyA K T x H1 ∧ T ≠ "tuple") ∧ t σ H1 fun xs H2 => r x xs H2 Q
section
variable {X : Cx} {o e : Expr} {es : List Expr} {to : TE} {t : TA} {name : Str} {apos cpos : Pos} {T id : String} {r : V → List V → Hp → VK → Prop}
theorem pe_bmA (pa : PlainAttrs T) (slot : Slot T name id) (hty : typeOf (.builtin id) = pure (.type "method_descriptor")) (hm : MtR X id r) (ho : PE X o to) (ha : PA X (e :: es) t)
    (base_ : attributeBase o name X.env (eval o X.env) = eval o X.env := by rfl)
    (few_ : ((backTo cpos (starEach (e :: es) X.env)).all (fun x => !x.1) && (backToKw cpos (keywordEach [] X.env)).all (fun x => x.1.isSome) && decide ((e :: es).length + ([] : List Keyword).length + (if ([] : List Keyword).isEmpty then 0 else 1) < 30)) = true := by rfl)
    (line_ : (apos.endLine == cpos.line) = true := by rfl) (star_ : starEach (e :: es) X.env = (false, eval e X.env) :: starEach es X.env := by rfl) (plain_ : (backTo cpos (starEach es X.env)).any (·.1) = false := by rfl) :
    PE X (.Call (.Attribute o name apos) (e :: es) [] cpos) (tBMA X.K T r to t) := by
  refine ⟨fun pins s σ H Q I h => wpAny_Call_method_late base_ few_ line_ rfl (thn (ho.run pins s σ H _ I h) fun v s1 ⟨x, H1, I1, r1, ⟨ty, nt⟩, q1⟩ => ?_)⟩
  obtain ⟨k1, k2⟩ := tyA_is I1 r1 ty
  have args := ha.run cpos pins s1 σ H1 _ I1 q1
  refine ⟨T, id, pa, slot, hty, k1, k2 nt, ?_⟩
  rw [star_] at args ⊢
  refine Calls.callWith_builtin (by show (false || (backTo cpos (starEach es X.env)).any (·.1)) = false; rw [plain_] <;> rfl) (Calls.evalArgs_plain (thn args fun us s2 ⟨ys, H2, I2, r2, q2⟩ => ?_))
  exact hm pins s2 σ H2 x ys v us Q I2 r1 r2 q2
def tBM0A (K : PySem.W.Frag) (T : String) (r : V → List V → Hp → VK → Prop) (to : TE) : TE := fun σ H Q => to σ H fun x H1 => (tyA K T x H1 ∧ T ≠ "tuple") ∧ r x [] H1 Q
theorem pe_bm0A (pa : PlainAttrs T) (slot : Slot T name id) (hty : typeOf (.builtin id) = pure (.type "method_descriptor")) (hm : MtR X id r) (ho : PE X o to)
    (base_ : attributeBase o name X.env (eval o X.env) = eval o X.env := by rfl) (line_ : (apos.endLine == cpos.line) = true := by rfl) : PE X (.Call (.Attribute o name apos) [] [] cpos) (tBM0A X.K T r to) := by
  refine ⟨fun pins s σ H Q I h => wpAny_Call_method0_late base_ line_ (thn (ho.run pins s σ H _ I h) fun v s1 ⟨x, H1, I1, r1, ⟨ty, nt⟩, q1⟩ => ?_)⟩
  obtain ⟨k1, k2⟩ := tyA_is I1 r1 ty
  exact ⟨T, id, pa, slot, hty, k1, k2 nt, Calls.callWith_builtin rfl (PySem.evalArgs_none (hm pins s1 σ H1 x [] v [] Q I1 r1 .nil q1))⟩
end
/-- the type of a receiver, by data -/
def recvT (T : String) : D → Bool
  | .list _ => T == "list"
  | .dict _ => T == "dict"
  | .str _ => T == "str"
  | _ => false
section
variable {K : Fg} {PN : Addr → Prop} {Z H : Hp}
theorem recv_ty {T : String} {d : D} {v : V} (C : Ctx PN Z H) (b : BR K PN Z H v d) (h : recvT T d = true) : tyA K T v H ∧ T ≠ "tuple" := by
  cases d <;> simp [recvT] at h
  · subst h
    obtain rfl := b.strI
    exact ⟨.inl rfl, by decide⟩
  · subst h
    obtain ⟨a, vs, rfl, h, t⟩ := b.listI C.sub
    exact ⟨.inl (.inl ⟨rfl, vs, SqL.of h⟩), by decide⟩
  · subst h
    obtain ⟨a, rfl, ⟨es, ts, rd, rel, _⟩ | ⟨es, ts, rd, rel, _⟩⟩ := b.dictI C.sub
    · exact ⟨.inr (.inr (.inl ⟨rfl, a, es, rfl, rd⟩)), by decide⟩
    · exact ⟨.inr (.inl ⟨rfl, a, es, rfl, rd, rel.keys C.sub⟩), by decide⟩
end
def wM (T : String) (sem : SemM) (wo : WE D) (ws : WE (List D)) : WE Rz := fun Γ P => wo Γ fun d Γ1 => recvT T d = true ∧ ws Γ1 fun ds Γ2 => sem d ds fun z => P z Γ2
section
variable {X : Cx} {G : Gh} {o e : Expr} {es : List Expr} {name : Str} {apos cpos : Pos} {T id : String} {r : V → List V → Hp → VK → Prop} {sem : SemM}
theorem az_meth {wo : WE D} {ws : WE (List D)} (pa : PlainAttrs T) (slot : Slot T name id) (hty : typeOf (.builtin id) = pure (.type "method_descriptor")) (hm : MtR X id r) (hp : PureM X.K r sem) (ho : AB X G o wo) (ha : ABs X G (e :: es) ws)
    (base_ : attributeBase o name X.env (eval o X.env) = eval o X.env := by rfl)
    (few_ : ((backTo cpos (starEach (e :: es) X.env)).all (fun x => !x.1) && (backToKw cpos (keywordEach [] X.env)).all (fun x => x.1.isSome) && decide ((e :: es).length + ([] : List Keyword).length + (if ([] : List Keyword).isEmpty then 0 else 1) < 30)) = true := by rfl)
    (line_ : (apos.endLine == cpos.line) = true := by rfl) (star_ : starEach (e :: es) X.env = (false, eval e X.env) :: starEach es X.env := by rfl) (plain_ : (backTo cpos (starEach es X.env)).any (·.1) = false := by rfl) :
    AZ X G (.Call (.Attribute o name apos) (e :: es) [] cpos) (wM T sem wo ws) :=
  PEi (pe_bmA pa slot hty hm ho ha base_ few_ line_ star_ plain_) fun σ H Q ⟨Γ, Z, O, P, R, w, k⟩ => ⟨Γ, Z, O, _, R, w, fun d Γ1 x Z1 O1 H1 p1 R1 S1 b1 => ⟨recv_ty R1.ctx b1 p1.1, Γ1, Z1, O1, _, R1, p1.2, fun ds Γ2 ys Z2 O2 H2 p2 R2 S2 b2 =>
    hp G.PN Z2 H2 x ys d ds _ _ R2.ctx (b1.grow S2.zZ S2.hH) b2 p2 fun z v Z' H' pz g rz => k _ _ _ _ _ _ pz (R2.grow g) ((S1.trans S2).trans g.step) (rz.up R2 (S1.trans S2).hN)⟩⟩
theorem az_meth0 {wo : WE D} (pa : PlainAttrs T) (slot : Slot T name id) (hty : typeOf (.builtin id) = pure (.type "method_descriptor")) (hm : MtR X id r) (hp : PureM X.K r sem) (ho : AB X G o wo)
    (base_ : attributeBase o name X.env (eval o X.env) = eval o X.env := by rfl) (line_ : (apos.endLine == cpos.line) = true := by rfl) : AZ X G (.Call (.Attribute o name apos) [] [] cpos) (wM T sem wo wNil) :=
  PEi (pe_bm0A pa slot hty hm ho base_ line_) fun σ H Q ⟨Γ, Z, O, P, R, w, k⟩ => ⟨Γ, Z, O, _, R, w, fun d Γ1 x Z1 O1 H1 p1 R1 S1 b1 => ⟨recv_ty R1.ctx b1 p1.1,
    hp G.PN Z1 H1 x [] d [] _ _ R1.ctx b1 .nil p1.2 fun z v Z' H' pz g rz => k _ _ _ _ _ _ pz (R1.grow g) (S1.trans g.step) (rz.up R1 S1.hN)⟩⟩
end
section
variable {K : Fg}
/-- d.get(k), d.get(k, x) -/
def sGet1 : SemM := fun d ds P => match d, ds with
  | .dict kvs, [k] => ∃ r, lookD kvs k = some r ∧ P (.v (.dat (r.getD .none)))
  | _, _ => False
def sGet2 : SemM := fun d ds P => match d, ds with
  | .dict kvs, [k, x] => nodict x = true ∧ ∃ r, lookD kvs k = some r ∧ P (.v (.dat (r.getD x)))
  | _, _ => False
/-- a flat value, or a tuple: it stays -/
def stayD : D → Bool
  | .list _ => false
  | .dict _ => false
  | _ => true
theorem BR.stay {PN : Addr → Prop} {Z H : Hp} {v : V} {d : D} (b : BR K PN Z H v d) (h : stayD d = true) : DR K Z v d := by
  cases b <;> first | assumption | cases h
def sGet2S : SemM := fun d ds P => match d, ds with
  | .dict kvs, [k, x] => stayD x = true ∧ ∃ r, lookD kvs k = some r ∧ P (.v (.dat (r.getD x)))
  | _, _ => False
theorem p_get1 : PureM K (rGet1A K) sGet1 := by
  intro PN Z H x xs d ds P Q C bx bs s k
  unfold sGet1 at s
  split at s
  · obtain ⟨r, h, p⟩ := s
    obtain ⟨y, rfl, by_⟩ := bs.one
    obtain ⟨a, rfl, ⟨rfl, g⟩ | ⟨u, d, rfl, g, hr⟩⟩ := look_get C bx by_ h
    · exact ⟨a, y, none, rfl, rfl, g, keepS C k p .non⟩
    · exact ⟨a, y, some u, rfl, rfl, g, keepS C k p hr⟩
  · exact s.elim
theorem p_get2 : PureM K (rGet2A K) sGet2S := by
  intro PN Z H x xs d ds P Q C bx bs s k
  unfold sGet2S at s
  split at s
  · obtain ⟨st, r, h, p⟩ := s
    obtain ⟨y, z, rfl, by_, bz⟩ := bs.two
    obtain ⟨a, rfl, ⟨rfl, g⟩ | ⟨u, d, rfl, g, hr⟩⟩ := look_get C bx by_ h
    · exact ⟨a, y, z, none, rfl, rfl, g, keepS C k p (bz.stay st)⟩
    · exact ⟨a, y, z, some u, rfl, rfl, g, keepS C k p hr⟩
  · exact s.elim
end
/-! ### len, list of dicts -/
section
variable {K : Fg}
def sLenA : SemN := fun ds P => match ds with
  | [.list a] => P (vI a.length)
  | [.tuple a] => P (vI a.length)
  | [.dict a] => P (vI a.length)
  | [.str a] => P (vI a.length)
  | _ => False
end
end
end VL
/-! dict(pairs): keys tuples of ints, or ints and texts. -/
namespace VL
open PySem PySem.Spec PyProof.Rows L2
noncomputable section
abbrev HKey := List Key × Addr × Value
def mergeH (acc : List HKey) (rest : List HKey) : List HKey := rest.foldl (fun a q => storedH a q.1 q.2.1 q.2.2) acc
theorem storedH_len (xs : List HKey) (k : List Key) (a : Addr) (v : Value) : (storedH xs k a v).length ≤ xs.length + 1 := by
  unfold storedH
  split
  · rw [List.length_map]; exact Nat.le_succ _
  · rw [List.length_append]; exact Nat.le_refl _
section
variable {prog : Program} {w : World} {A : Around} {Er : Value → Shared → Prop}
/-- the pair that stands at b -/
structure PairAt (prog : Program) (w : World) (h : Heap) (D I b : Addr) (q : HKey) : Prop where
  nD : b ≠ D
  nI : b ≠ I
  tup : IsTup h b #[.ref q.2.1, q.2.2]
  kD : q.2.1 ≠ D
  kI : q.2.1 ≠ I
  key : (tupleKind (mixKind prog w)).is h q.1 q.2.1
theorem PairAt.keep {h h' : Heap} {D I b : Addr} {q : HKey} (p : PairAt prog w h D I b q) (k : ∀ c o, c ≠ D → c ≠ I → h.get? c = some o → h'.get? c = some o) : PairAt prog w h' D I b q := by
  obtain ⟨o, g, c, n, dat⟩ := p.tup
  obtain ⟨o2, its, n2, g2, c2, dat2, ok2⟩ := p.key
  exact ⟨p.nD, p.nI, ⟨o, k _ _ p.nD p.nI g, c, n, dat⟩, p.kD, p.kI, ⟨o2, its, n2, k _ _ p.kD p.kI g2, c2, dat2, ok2⟩⟩
theorem pairs_loop {R : Result → Shared → Prop} {D I l : Addr} {items : Array Value} {res : Value} (room : A.units + 1 < cLine) (hh : A.handled = none) (l1 : l ≠ I) (l2 : D ≠ I) (l3 : D ≠ l) :
    ∀ (rest : List HKey) (i : Nat) (acc : List HKey) (ix : Int) (t : Tok) (s : Shared), items.size = i + rest.length → acc.length + rest.length ≤ sizeLine →
      (∀ (j : Nat) (q : HKey), rest[j]? = some q → ∃ b : Addr, items[i + j]? = some (.ref b) ∧ PairAt prog w s.heap D I b q) →
      s.heap.IsListIter I l i → s.heap.IsList l items → s.heap.DictOfH (tupleKind (mixKind prog w)) D acc →
      (∀ h' tk, h'.DictOfH (tupleKind (mixKind prog w)) D (mergeH acc rest) → (∀ b o, b ≠ D → b ≠ I → s.heap.get? b = some o → h'.get? b = some o) → R (.ok (.ret res)) { s with heap := h', toks := tk }) →
      codeAny (model prog w) A (.builtin "dict.update.loop" ⟨[.ref D, .ref I, .int ix t, res], []⟩) R s
  | [], i, acc, ix, t, s, size, _, _, iter, list, dict, done => by
    refine codeAny_builtin ud_entry ?_
    rw [Around.under_plainId ud_plain _]
    refine wpAny_bind (wpAny_pyNext_list_end (A := A.in1) hh iter list (by first | exact Array.getElem?_eq_none (Nat.le_of_eq size) | (simp at size; simp; omega)) fun h' same => ?_)
    show wpAny _ A.in1 (Builtin.Dict.addKeywords D [] >>= _) _ _ _
    have kept : h'.DictOfH (tupleKind (mixKind prog w)) D acc := by
      obtain ⟨o, en, ep, g, r1, r2, r3, r4, r5⟩ := dict
      exact ⟨o, en, ep, same _ _ l2 g, r1, r2, r3, fun x hx => by
        obtain ⟨o2, its, n2, g2, c2, dat2, ok2⟩ := r4 x hx
        have ne : x.2.1 ≠ I := by
          rintro rfl
          obtain ⟨oi, gi, ci, di⟩ := iter
          rw [g2] at gi
          cases gi
          rw [c2] at ci
          exact absurd ci (by simp)
        exact ⟨o2, its, n2, same _ _ ne g2, c2, dat2, ok2⟩, r5⟩
    exact wpAny_bind (wpAny_pure (wpAny_pure (done h' s.toks kept fun b o _ nb e => same b o nb e)))
  | q :: rest, i, acc, ix, t, s, size, line, at_, iter, list, dict, done => by
    obtain ⟨b, hb, pb⟩ := at_ 0 q rfl
    rw [List.length_cons] at size line
    refine codeAny_builtin ud_entry ?_
    rw [Around.under_plainId ud_plain _]
    refine wpAny_bind (wpAny_pyNext_list_item (x := .ref b) iter list (by simpa using hb) fun h1 iter1 same1 => ?_)
    have k1 : ∀ c o, c ≠ D → c ≠ I → s.heap.get? c = some o → h1.get? c = some o := fun c o _ n e => same1.extBut _ _ n e
    have pb1 := pb.keep k1
    have list1 : h1.IsList l items := list.extBut same1.extBut l1
    have noIter : ∀ {x : HKey} {hp : Heap}, hp.IsListIter I l i → (tupleKind (mixKind prog w)).is hp x.1 x.2.1 → x.2.1 ≠ I := fun {x hp} it is => by
      rintro e
      obtain ⟨o2, its, n2, g2, c2, _⟩ := is
      obtain ⟨oi, gi, ci, di⟩ := it
      rw [e, gi] at g2
      cases g2
      rw [c2] at ci
      exact absurd ci (by simp)
    have dict1 : h1.DictOfH (tupleKind (mixKind prog w)) D acc := by
      obtain ⟨o, en, ep, g, r1, r2, r3, r4, r5⟩ := dict
      exact ⟨o, en, ep, same1.extBut _ _ l2 g, r1, r2, r3, fun x hx => by
        have is := r4 x hx
        have ne := noIter (x := x) iter is
        obtain ⟨o2, its, n2, g2, c2, dat2, ok2⟩ := is
        exact ⟨o2, its, n2, same1.extBut _ _ ne g2, c2, dat2, ok2⟩, r5⟩
    obtain ⟨o, go, co, no, dato⟩ := id pb1.tup
    show wpAny _ A.in1 (holding [Value.ref b] _ >>= _) _ _ _
    refine wpAny_bind (wpAny_holding (wpAny_bind (wpAny_tryCatch ?_)))
    unfold Builtin.Dict.pairItems
    refine wpAny_bind (wpAny_typeOf (T := "tuple") ⟨o, go, co⟩ ?_)
    rw [if_pos (by first | decide | rfl | simp)]
    refine wpAny_bind (wpAny_seqItems go dato (wpAny_pure ?_))
    show wpAny _ A.in1 (holding [Value.ref q.2.1, q.2.2] (dictSet D (.ref q.2.1) q.2.2)) _ _ _
    refine wpAny_holding (wpAny_dictSet_heap (hsz := by omega) (show (tupleKind (mixKind prog w)).room A.in1 from room) pb1.key dict1 fun h2 dict2 same2 => ?_)
    have k2 : ∀ c o, c ≠ D → h1.get? c = some o → h2.get? c = some o := fun c o n e => same2.extBut _ _ n e
    have grown := storedH_len acc q.1 q.2.1 q.2.2
    refine wpAny_pure ⟨plainId_quiet ud_plain _, pairs_loop (items := items) room hh l1 l2 l3 rest (i + 1) (storedH acc q.1 q.2.1 q.2.2) (ix + 1) 0 _ (show items.size = i + 1 + rest.length by omega) (by omega) (fun j q' e => ?_) ?_ ?_ dict2 fun h' tk dict' keep' => ?_⟩
    · obtain ⟨b', hb', pb'⟩ := at_ (j + 1) q' (by simpa using e)
      refine ⟨b', ?_, (pb'.keep k1).keep fun c o n _ e => k2 c o n e⟩
      rw [show i + 1 + j = i + (j + 1) by omega]
      exact hb'
    · exact iter1.at fun o' e => k2 I o' (Ne.symm l2) e
    · exact list1.extBut same2.extBut (Ne.symm l3)
    · exact done h' tk dict' fun c oc n1 n2 e => keep' c oc n1 n2 (k2 c oc n1 (k1 c oc n1 n2 e))
theorem dict_pairs {s : Shared} {l : Addr} {ol : Obj} {items : Array Value} {n : Nat} {prs : List HKey} {Q : Value → Shared → Prop} (room : A.units + 2 < cLine) (hh : A.handled = none) (hl : s.heap.get? l = some ol) (hc : ol.cls = .type "list") (hd : ol.dict = none)
    (hdat : ol.data = .seq items n) (hsz : items.size = prs.length) (hln : prs.length ≤ sizeLine)
    (at_ : ∀ (j : Nat) (q : HKey), prs[j]? = some q → ∃ b : Addr, items[j]? = some (.ref b) ∧ IsTup s.heap b #[.ref q.2.1, q.2.2] ∧ (tupleKind (mixKind prog w)).is s.heap q.1 q.2.1)
    (fin : ∀ h' tk, h'.DictOfH (tupleKind (mixKind prog w)) s.heap.objs.size (mergeH [] prs) → (∀ b o, s.heap.get? b = some o → h'.get? b = some o) → Q (.ref s.heap.objs.size) { s with heap := h', toks := tk }) :
    wpAny (model prog w) A (call (.type "dict") [.ref l]) Q Er s := by
  refine callType_codes (Q₁ := fun obj s₁ => obj = .ref s.heap.objs.size ∧ s₁ = { s with heap := s.heap.push { cls := .type "dict", data := .dict #[] } }) PySem.F.kt_called_dict (PySem.F.kt_typeCall_dict_1 _) PySem.F.entry_dict_init (kt_code_dict_new _ ⟨rfl, rfl⟩) ?_
  rintro _ _ ⟨rfl, rfl⟩
  have start : (s.heap.push { cls := .type "dict", data := .dict #[] }).DictOfH (tupleKind (mixKind prog w)) s.heap.objs.size [] := ⟨_, #[], 0, Heap.get?_push_size _ rfl, ⟨rfl, rfl, rfl⟩, rfl, rfl, (fun _ hx => nomatch hx), List.nodup_nil⟩
  have old : ∀ b o, s.heap.get? b = some o → (s.heap.push { cls := .type "dict", data := .dict #[] }).get? b = some o := fun b o e => Heap.get?_push_of_some _ e
  have ty : ({ s with heap := s.heap.push { cls := .type "dict", data := .dict #[] } } : Shared).TypeIs (.ref s.heap.objs.size) "dict" := start.typeIs
  refine ⟨ty, PySem.F.args_dict_init_2 _ _, ?_⟩
  unfold Builtin.«dict.__init__»
  refine wpAny_bind ?_
  unfold Builtin.Dict.selfAndRest
  refine wpAny_bind (wpAny_notOrdered_dict ty ?_)
  show wpAny _ _ (pure (s.heap.objs.size, [Value.ref l])) _ _ _
  refine wpAny_pure ?_
  show wpAny _ _ (Builtin.Dict.updateFrom "dict.__init__" s.heap.objs.size (.ref l) [] .none) _ _ _
  unfold Builtin.Dict.updateFrom
  refine wpAny_bind (wpAny_typeOf (T := "list") ⟨ol, old _ _ hl, hc⟩ ?_)
  rw [if_pos (by first | decide | rfl | simp)]
  refine wpAny_bind (miss_list (old _ _ hl) hc hdat hd hh fun h1 tk1 keep1 => ?_)
  rw [if_pos (show (none : Option Value).isNone = true from rfl)]
  refine wpAny_bind (wpAny_rule ?_)
  have list1 : h1.IsList l items := ⟨ol, keep1 _ _ (old _ _ hl), hc, n, hdat⟩
  have lt1 : s.heap.objs.size < h1.objs.size := by
    have e : (s.heap.push { cls := .type "dict", data := .dict #[] }).get? s.heap.objs.size = some { cls := .type "dict", data := .dict #[] } := Heap.get?_push_size _ rfl
    exact Heap.lt_size (keep1 _ _ e)
  refine wpAny_bind (wpAny_pyIter_list list1 ?_)
  have old2 : ∀ b o, h1.get? b = some o → (h1.push { cls := .type "list_iterator", data := .fields #[.ref l, .int 0 0] }).get? b = some o := fun b o e => Heap.get?_push_of_some _ e
  have all : ∀ b o, s.heap.get? b = some o → (h1.push { cls := .type "list_iterator", data := .fields #[.ref l, .int 0 0] }).get? b = some o := fun b o e => old2 _ _ (keep1 _ _ (old _ _ e))
  have ltl : l < s.heap.objs.size := Heap.lt_size hl
  have loop := pairs_loop (prog := prog) (w := w) (A := A.in1) (R := wants (fun r s₂ => r = .none ∧ Q (.ref s.heap.objs.size) s₂) Er) (D := s.heap.objs.size) (I := h1.objs.size) (l := l) (items := items) (res := Value.none) room hh
    (Nat.ne_of_lt (Nat.lt_trans ltl lt1)) (Nat.ne_of_lt lt1) (Nat.ne_of_gt ltl) prs 0 [] 0 0
    { s with heap := h1.push { cls := .type "list_iterator", data := .fields #[.ref l, .int 0 0] }, toks := tk1 } (by rw [hsz, Nat.zero_add]) (by rw [List.length_nil, Nat.zero_add]; exact hln)
    (fun j q e => by
      obtain ⟨b, e1, ⟨o, g, c, n', dat⟩, ⟨o2, its, n2, g2, c2, dat2, ok2⟩⟩ := at_ j q e
      have hb : b < s.heap.objs.size := Heap.lt_size g
      have hk : q.2.1 < s.heap.objs.size := Heap.lt_size g2
      exact ⟨b, by rw [Nat.zero_add]; exact e1, Nat.ne_of_lt hb, Nat.ne_of_lt (Nat.lt_trans hb lt1), ⟨o, all _ _ g, c, n', dat⟩, Nat.ne_of_lt hk, Nat.ne_of_lt (Nat.lt_trans hk lt1), ⟨o2, its, n2, all _ _ g2, c2, dat2, ok2⟩⟩)
    ⟨_, Heap.get?_push_size _ rfl, rfl, rfl⟩ (list1.at fun o e => old2 _ _ e)
    (by
      obtain ⟨o, en, ep, g, r1, r2, r3, r4, r5⟩ := start
      exact ⟨o, en, ep, old2 _ _ (keep1 _ _ g), r1, r2, r3, (fun _ hx => nomatch hx), r5⟩)
    (fun h' tk dict' keep' => ⟨rfl, fin h' tk dict' fun b o e => keep' b o (Nat.ne_of_lt (Heap.lt_size e)) (Nat.ne_of_lt (Nat.lt_trans (Heap.lt_size e) lt1)) (all _ _ e)⟩)
  first
    | exact wpAny_pure ⟨plainId_quiet ud_plain _, loop⟩
    | exact wpAny_bind (wpAny_pure (wpAny_pure ⟨plainId_quiet ud_plain _, loop⟩))
end
end
end VL
/-! for k in d: d a dict that stays. -/
namespace VL
open PySem PySem.Spec PyProof.Rows L2
noncomputable section
section
variable {X : Cx} {pins : List (Addr × Obj)} {σ : L2.St} {H : Hp} {s : Shared} {d : Addr} {o : Obj} {es : List TKey}
theorem frzX (I : Inv X pins σ H s) (h : H d = some (.frz o (dXo d es))) : (d == sysModules) = false ∧ s.heap.get? d = some o ∧ o.ExactDict ∧ ∃ (en : Array DictEntry) (ep : Nat), o.data = .dict en ep ∧ en.size = es.length ∧
    ∀ (i : Nat) (p : TKey), es[i]? = some p → ∃ x : DictEntry, en[i]? = some x ∧ x.key = .ref p.2.1 := by
  obtain ⟨hd, ⟨_, _, nm, xs, rel, o', en, ep, g, ex, dat, ent, _⟩, _, _⟩ := (show ObjOk X.prog X.w H s.heap d (.frz o (dXo d es)) from I.hok d _ h)
  rw [hd] at g
  cases g
  have ent' := ent X.prog X.w
  refine ⟨nm, hd, ex, en, ep, dat, ?_, fun i p e => ?_⟩
  · have l1 := congrArg List.length ent'
    rw [List.length_map, Array.length_toList] at l1
    have l2 := Paired.length rel
    omega
  · obtain ⟨b, hb, e1, e2, _⟩ := paired_get rel e
    refine ⟨entryOfKey (tupleKind (mixKind X.prog X.w)) b, ?_, ?_⟩
    · rw [← Array.getElem?_toList, ent', List.getElem?_map, hb]; rfl
    · show Value.ref b.2.1 = _
      rw [e2]
end
/-- the keys of the frozen dict at d -/
def Itx (d : Addr) (o : Obj) (es : List TKey) : It :=
  ⟨fun i H => H d = some (.frz o (dXo d es)) ∧ i < es.length, fun i H x H' => H' = H ∧ ∃ p, es[i]? = some p ∧ x = .ref p.2.1, fun i H => H d = some (.frz o (dXo d es)) ∧ es.length ≤ i⟩
theorem turnX {P : Program} {w : World} {K : PySem.W.Frag} {tg : Expr} {d : Addr} {o : Obj} {en : Array DictEntry} {ep : Nat} {es : List TKey} (it : Addr) (dat : o.data = .dict en ep) :
    Turn P w K tg (Itx d o es) [it] it (fun i h => h.IsKeyIter it d i es.length ep) where
  mem := by simp
  obj := fun i h st b hb => by
    have e : b = it := by simpa using hb
    subst e
    obtain ⟨oi, g, c, dd⟩ := st
    exact ⟨oi, g, fun v z => by rw [dd] at z; cases z⟩
  keep := fun i h h' st k => st.at fun oi e => k it (by simp) oi e
  item := by
    intro X hP hw hK hc i pins s σ H E I hf st hg
    subst hP hw hK
    obtain ⟨hd, hi⟩ := hg
    obtain ⟨f0, f1, f2, f3, f4, f5⟩ := hf it (by simp)
    obtain ⟨nm, go, ex, en', ep', dat', size, keys⟩ := frzX I hd
    obtain ⟨rfl, rfl⟩ := dict_ep dat dat'
    obtain ⟨p, hp⟩ : ∃ p, es[i]? = some p := ⟨es[i], List.getElem?_eq_getElem hi⟩
    obtain ⟨x, hx, hk⟩ := keys i p hp
    refine next_key_item st go dat' size hx fun h' st' same => ?_
    have J : Inv X pins σ H { s with heap := h' } := I.turned (t' := s.toks) (fun b ob nb e => (same.2 b nb).trans e) f0 f1 f3 f4 f5
    obtain ⟨oi, g, c, dd⟩ := id st'
    exact ⟨x.key, rfl, go_of (s := { s with heap := h' }) g c dd (by decide) ⟨.ref p.2.1, H, J, hk, ⟨rfl, p, hp, rfl⟩, st', fun b hb => (hf b hb).1⟩⟩
  done := by
    intro X hP hw hK hc i pins s σ H E I hf st hg
    subst hP hw hK
    obtain ⟨hd, hi⟩ := hg
    obtain ⟨f0, f1, f2, f3, f4, f5⟩ := hf it (by simp)
    obtain ⟨nm, go, ex, en', ep', dat', size, keys⟩ := frzX I hd
    obtain ⟨rfl, rfl⟩ := dict_ep dat dat'
    exact next_key_end (I.ok.hd hc) st go dat' size hi fun h' keep => ⟨rfl, I.turned (t' := s.toks) (fun b ob nb e => keep b ob nb e) f0 f1 f3 f4 f5⟩
  self := fun A i s Q E st h => by
    refine wpAny_pyIter_slot st.typeIs F.slot_dict_keyiterator_iter (wpAny_call_entry F.slot_dict_keyiterator_iter st.typeIs F.entry_dict_keyiterator_iter ?_ (F.args_dict_keyiterator_iter_1 _))
    exact wpAny_pure ⟨_, rfl, "dict_keyiterator", _, st.typeIs, F.slot_dict_keyiterator_next.lookup, h⟩
section
variable {X : Cx} {G : Gh} {tg e : Expr}
/-- lists, tuples, dicts (their keys) -/
def wItemsA (w : WE Rv) : WE (List D) := fun Γ P => w Γ fun r Γ' => match r with
  | .dat (.list ds) => P ds Γ'
  | .dat (.tuple ds) => P ds Γ'
  | .dat (.dict ds) => P (ds.map (·.1)) Γ'
  | _ => False
theorem DRk.keys {K : Fg} {Z : Hp} : ∀ {es : List (Key × V)} {ds : List (D × D)}, DRk K Z es ds → es.length = ds.length ∧ ∀ (i : Nat) (k : Key) (v : V), es[i]? = some (k, v) → (ds.map (·.1))[i]? = some (keyD k)
  | _, _, .nil => ⟨rfl, fun i k v h => by simp at h⟩
  | _, _, .cons h t => by
    obtain ⟨h1, h2⟩ := t.keys
    refine ⟨by rw [List.length_cons, List.length_cons, h1], fun i k v e => ?_⟩
    cases i with
    | zero => simp at e; obtain ⟨rfl, rfl⟩ := e; rfl
    | succ i => simpa using h2 i k v (by simpa using e)
theorem DRt.keys {K : Fg} {Z : Hp} : ∀ {es : List TKey} {ds : List (D × D)}, DRt K Z es ds → es.length = ds.length ∧ ∀ (i : Nat) (p : TKey), es[i]? = some p → (ds.map (·.1))[i]? = some (tupD p.1) ∧ SqT K Z p.2.1 (p.1.map kV)
  | _, _, .nil => ⟨rfl, fun i p h => by simp at h⟩
  | _, _, .cons q h t => by
    obtain ⟨h1, h2⟩ := t.keys
    refine ⟨by rw [List.length_cons, List.length_cons, h1], fun i p e => ?_⟩
    cases i with
    | zero => simp at e; subst e; exact ⟨rfl, q⟩
    | succ i => simpa using h2 i p (by simpa using e)
theorem key_dr {K : Fg} {Z : Hp} (k : Key) : DR K Z (kV k) (keyD k) := by
  cases k with
  | inl i => exact .int i
  | inr i => exact .str i
theorem keys_dr {K : Fg} {Z : Hp} : ∀ k : List Key, DRs K Z (k.map kV) (k.map keyD)
  | [] => .nil
  | k :: r => .cons (key_dr k) (keys_dr r)
theorem ai_all {w : WE Rv} (h : AE X G e w) : AI X G tg e (wItemsA w) := by
  refine ⟨fun pins s σ H R I ⟨Γ, Z, O, P, Re, q, k⟩ => ?_⟩
  refine thn (h.run pins s σ H (fun v H1 => ∃ r Γ1 Z1 O1, (match r with | .dat (.list ds) => P ds Γ1 | .dat (.tuple ds) => P ds Γ1 | .dat (.dict ds) => P (ds.map (·.1)) Γ1 | _ => False) ∧ Rel X.K G Γ1 Z1 O1 σ H1 ∧ Step G.PN Z O H Z1 O1 H1 ∧ RvR X.K G.PN Z1 r v) I ⟨Γ, Z, O, _, Re, q, fun r Γ1 v Z1 O1 H1 p1 R1 S1 b1 => ⟨r, Γ1, Z1, O1, p1, R1, S1, b1⟩⟩) ?_
  rintro u s1 ⟨v, H1, I1, rv, r, Γ1, Z1, O1, p1, R1, S1, b1⟩
  have pie : ∀ {J : It} {tn : Nat → Heap → Prop} {h2 : Heap}, (∀ b o, s1.heap.get? b = some o → h2.get? b = some o) → Turn X.prog X.w X.K tg J [s1.heap.objs.size] s1.heap.objs.size tn → tn 0 h2 → R J H1 → PIE X pins σ tg R (.ref s1.heap.objs.size) { s1 with heap := h2 } := by
    intro J tn h2 kk T t0 q
    refine ⟨_, _, _, _, H1, rfl, I1.kept (t' := s1.toks) kk, T, t0, fun b hb => ?_, q⟩
    obtain rfl : b = s1.heap.objs.size := by simpa using hb
    exact I1.fpOk (Nat.le_refl _) (I1.hok.fresh (Nat.le_refl _))
  cases r with
  | pen => exact p1.elim
  | dat d =>
    have b1' : DR X.K Z1 v d := b1
    cases b1' with
    | @lst a xs ds hq ht =>
      obtain rfl : u = .ref a := rv
      have hq' : SqL X.K H1 a xs := SqL.of (R1.sub _ _ hq)
      obtain ⟨its, rvs, pl, hz⟩ := I1.list hq'
      refine wpAny_pyIter_list pl.isList (pie (fun b o e => Heap.get?_push_of_some _ e) (turn_list a _) ⟨_, Heap.get?_push_size _ rfl, rfl, rfl⟩ (k _ _ _ _ _ _ p1 R1 S1 (walkD_at walk_list hz (fun H s => SqL.of (s _ _ hq)) ht)))
    | @tup a xs ds hq ht =>
      obtain rfl : u = .ref a := rv
      obtain ⟨its, rvs, pl, hz⟩ := I1.tuple (R1.sub.sqT hq)
      refine wpAny_pyIter_tuple (show s1.heap.IsTuple a its.toArray from pl) (pie (fun b o e => Heap.get?_push_of_some _ e) (turn_tuple a _) ⟨_, Heap.get?_push_size _ rfl, rfl, rfl⟩ (k _ _ _ _ _ _ p1 R1 S1 (walkD_at walk_tup hz (fun H s => s.sqT hq) ht)))
    | @dk a o kvs ds hq ht =>
      obtain rfl : u = .ref a := rv
      have hd := R1.sub _ _ hq
      obtain ⟨nm, go, ex, en, ep, vs, dat, size, kv, _⟩ := I1.frzK hd
      obtain ⟨len, keys⟩ := ht.keys
      have small : kvs.length ≤ sizeLine := (show ObjOk X.prog X.w H1 s1.heap a (.frz o (.dK kvs)) from I1.hok a _ hd).2.1
      refine iter_keys nm go ex dat (pie (fun b o e => Heap.get?_push_of_some _ e) (turn_keys (kvs := kvs) _ dat) ⟨_, Heap.get?_push_size _ rfl, rfl, by rw [size] <;> rfl⟩ (k _ _ _ _ _ _ p1 R1 S1 ?_))
      refine ⟨_, _, by rw [List.length_map, ← len]; exact walk_keys, by rw [List.length_map, ← len]; exact small, fun H s => s _ _ hq, ?_⟩
      rintro i H x H' Zc hs C ⟨rfl, kk, vv, e, rfl⟩
      exact ⟨_, Zc, keys i kk vv e, Grow.refl C.sub, key_dr kk⟩
    | @dt a o kvs ds hq ht =>
      obtain rfl : u = .ref a := rv
      have hd := R1.sub _ _ hq
      obtain ⟨nm, go, ex, en, ep, dat, size, _⟩ := frzX I1 hd
      obtain ⟨len, keys⟩ := ht.keys
      have small : kvs.length ≤ sizeLine := (show ObjOk X.prog X.w H1 s1.heap a (.frz o (dXo a kvs)) from I1.hok a _ hd).2.1.1
      refine iter_keys nm go ex dat (pie (fun b o e => Heap.get?_push_of_some _ e) (turnX (es := kvs) _ dat) ⟨_, Heap.get?_push_size _ rfl, rfl, by rw [size] <;> rfl⟩ (k _ _ _ _ _ _ p1 R1 S1 ?_))
      refine ⟨fun H => H a = some (.frz o (dXo a kvs)), fun i H x H' => H' = H ∧ ∃ p, kvs[i]? = some p ∧ x = .ref p.2.1, by rw [List.length_map, ← len]; exact ⟨fun _ _ hi q => ⟨q, hi⟩, fun _ q => ⟨q, Nat.le_refl _⟩, fun _ _ _ _ _ _ y => y⟩, by rw [List.length_map, ← len]; exact small, fun H s => s _ _ hq, ?_⟩
      rintro i H x H' Zc hs C ⟨rfl, p, e, rfl⟩
      obtain ⟨k1, k2⟩ := keys i p e
      exact ⟨_, Zc, k1, Grow.refl C.sub, .tup (hs.sqT k2) (keys_dr p.1)⟩
    | _ => exact p1.elim
end
/-! ### the plain side -/
variable {α β γ S S' L M ρ : Type} {s s0 s1 s2 s3 : List Sl} {X : Exc → Nat → Prop}
def oItemsA (t : Out D) : Out (List D) := t.bind fun d => match d with | .list ds => .ok ds | .tuple ds => .ok ds | .dict ds => .ok (ds.map (·.1)) | _ => .bad
@[simp] theorem oItemsA_l (ds : List D) : oItemsA (.ok (.list ds)) = .ok ds := rfl
@[simp] theorem oItemsA_t (ds : List D) : oItemsA (.ok (.tuple ds)) = .ok ds := rfl
@[simp] theorem oItemsA_d (ds : List (D × D)) : oItemsA (.ok (.dict ds)) = .ok (ds.map (·.1)) := rfl
theorem r_itemsA {w : WE Rv} {t : Out D} (h : RO w s s1 t .dat X) : RO (wItemsA w) s s1 (oItemsA t) id X := fun c P q => h c _ ((Out.post_bind q).imp fun a p => by
  cases a <;> first | exact p | exact p.elim)
def pItemsA (t : Pn D) : Pn (List D) := t.bind fun d => Pn.lift (oItemsA (.ok d))
theorem p_itemsA {w : WE Rv} {t : Pn D} (h : PO w s s1 t .dat) : PO (wItemsA w) s s1 (pItemsA t) id := fun c Q P q k => h c _ _ q fun a c' z => by
  cases a <;> first | exact k _ _ z | exact z.elim
end
end VL
/-! The plain side of dicts, methods, stores. -/
namespace VL
open PySem PySem.Spec PyProof.Rows L2
noncomputable section
variable {α β γ S S' L M ρ : Type} {s s0 s1 s2 s3 : List Sl} {X : Exc → Nat → Prop}
def dIxA (d e : D) : Out D := match d with
  | .dict ds => match lookD ds e with | some (some v) => .ok v | _ => .bad
  | .str z => match e with
    | .int i => if z.length ≤ 16777216 then match L2.atI z.cps.toList i with | some c => .ok (.str ⟨#[c]⟩) | none => .bad else .bad
    | _ => .bad
  | d => dIx d e
@[simp] theorem dIxA_l (ds : List D) (i : Int) : dIxA (.list ds) (.int i) = atO ds i := rfl
@[simp] theorem dIxA_t (ds : List D) (i : Int) : dIxA (.tuple ds) (.int i) = atO ds i := rfl
theorem s_ixA : S2 sIxA dIxA := fun d e P h => by
  cases d with
  | dict ds =>
    unfold dIxA at h
    dsimp only at h
    split at h
    · rename_i v hv; exact ⟨v, hv, h _ rfl⟩
    · exact h.elim
  | str z =>
    unfold dIxA at h
    dsimp only at h
    split at h
    · obtain ⟨h1, h2⟩ := post_if h
      split at h2
      · rename_i c hc; exact ⟨_, c, rfl, h1, hc, h2 _ rfl⟩
      · exact h2.elim
    · exact h.elim
  | none => exact s_ix .none e P h
  | bool b => exact s_ix (.bool b) e P h
  | int b => exact s_ix (.int b) e P h
  | list b => exact s_ix (.list b) e P h
  | tuple b => exact s_ix (.tuple b) e P h
def dInB (d e : D) : Out Bool := match e with
  | .list ds => if okB d = true ∧ okB (.list ds) = true then .ok (ds.any fun z => PyData.eqv z d) else .bad
  | .tuple ds => if okB d = true ∧ okB (.tuple ds) = true then .ok (ds.any fun z => PyData.eqv z d) else .bad
  | .dict ds => match lookD ds d with | some r => .ok r.isSome | none => .bad
  | .str z => match d with | .str i => .ok (occD i z) | _ => .bad
  | _ => .bad
def dInA (d e : D) : Out D := (dInB d e).bind fun b => .ok (.bool b)
def dNotInA (d e : D) : Out D := (dInB d e).bind fun b => .ok (.bool (!b))
theorem s_inB {d e : D} {P : Bool → Prop} (h : (dInB d e).post P fun _ => False) : inD d e P := by
  unfold dInB at h
  unfold inD
  split at h
  · obtain ⟨⟨h1, h2⟩, h3⟩ := post_if h
    exact ⟨okD_of h1, okD_of h2, h3⟩
  · obtain ⟨⟨h1, h2⟩, h3⟩ := post_if h
    exact ⟨okD_of h1, okD_of h2, h3⟩
  · split at h
    · rename_i r hr; exact ⟨r, hr, h⟩
    · exact h.elim
  · split at h
    · exact ⟨_, rfl, h⟩
    · exact h.elim
  · exact h.elim
theorem s_inA : S2 sInA dInA := fun d e P h => s_inB ((Out.post_bind h).imp fun b p => p _ rfl)
theorem s_notInA : S2 sNotInA dNotInA := fun d e P h => s_inB ((Out.post_bind h).imp fun b p => p _ rfl)
/-! methods -/
def SM (sem : SemM) (op : D → List D → Out D) : Prop := ∀ d ds P, (op d ds).post (fun r => ∀ z : Rz, z.rv = .dat r → P z) (fun _ => False) → sem d ds P
def SMl (sem : SemM) (op : D → List D → Out (List D)) : Prop := ∀ d ds P, (op d ds).post (fun r => P (.ls r)) (fun _ => False) → sem d ds P
def oM (T : String) (op : D → List D → Out α) (t : Out D) (u : Out (List D)) : Out α := t.bind fun d => if recvT T d = true then u.bind fun ds => (op d ds).noer else .bad
@[simp] theorem oM_ok (T : String) (op : D → List D → Out α) (d : D) (ds : List D) : oM T op (.ok d) (.ok ds) = if recvT T d = true then (op d ds).noer else .bad := rfl
theorem r_M {T : String} {sem : SemM} {op : D → List D → Out D} {wo : WE D} {ws : WE (List D)} {t : Out D} {u : Out (List D)} (ho : SM sem op) (h : RO wo s s1 t id X) (hs : RO ws s1 s2 u id X) : ROz (wM T sem wo ws) s s2 (oM T op t u) X := fun c P q =>
  h c _ ((Out.post_bind q).imp fun d p => ⟨(post_if p).1, hs c _ ((Out.post_bind (post_if p).2).imp fun ds p => ho _ _ _ (noer_post p))⟩)
theorem r_Ml {T : String} {sem : SemM} {op : D → List D → Out (List D)} {wo : WE D} {ws : WE (List D)} {t : Out D} {u : Out (List D)} (ho : SMl sem op) (h : RO wo s s1 t id X) (hs : RO ws s1 s2 u id X) : RO (wM T sem wo ws) s s2 (oM T op t u) .ls X := fun c P q =>
  h c _ ((Out.post_bind q).imp fun d p => ⟨(post_if p).1, hs c _ ((Out.post_bind (post_if p).2).imp fun ds p => ho _ _ _ (noer_post p))⟩)
def pM (T : String) (op : D → List D → Out α) (t : Pn D) (u : Pn (List D)) : Pn α := t.bind fun d => if recvT T d = true then u.bind fun ds => Pn.lift (op d ds) else fun _ _ => False
theorem p_M {T : String} {sem : SemM} {op : D → List D → Out D} {wo : WE D} {ws : WE (List D)} {t : Pn D} {u : Pn (List D)} (ho : SM sem op) (h : PO wo s s1 t id) (hs : PO ws s1 s2 u id) : POz (wM T sem wo ws) s s2 (pM T op t u) := fun c Q P q k =>
  h c _ _ q fun d c1 z => by
    dsimp only at z
    by_cases hr : recvT T d = true
    · rw [if_pos hr] at z
      exact ⟨hr, hs c1 _ _ z fun ds c2 y => ho _ _ _ (Out.post.imp y fun r x => k r c2 x)⟩
    · rw [if_neg hr] at z; exact z.elim
def dGet1 (d : D) (ds : List D) : Out D := match d, ds with
  | .dict kvs, [k] => match lookD kvs k with | some r => .ok (r.getD .none) | none => .bad
  | _, _ => .bad
def dGet2 (d : D) (ds : List D) : Out D := match d, ds with
  | .dict kvs, [k, x] => if stayD x = true then match lookD kvs k with | some r => .ok (r.getD x) | none => .bad else .bad
  | _, _ => .bad
theorem s_get1 : SM sGet1 dGet1 := fun d ds P h => by
  unfold dGet1 at h
  unfold sGet1
  split at h
  · split at h
    · rename_i r hr; exact ⟨r, hr, h _ rfl⟩
    · exact h.elim
  · exact h.elim
theorem s_get2 : SM sGet2S dGet2 := fun d ds P h => by
  unfold dGet2 at h
  unfold sGet2S
  split at h
  · obtain ⟨h1, h2⟩ := post_if h
    split at h2
    · rename_i r hr; exact ⟨h1, r, hr, h2 _ rfl⟩
    · exact h2.elim
  · exact h.elim
/-! new dicts -/
theorem r_newK : RO wNewK s s (Out.ok ([] : List (Key × D))) .dk X := fun _ _ h => h
theorem r_newT : RO wNewT s s (Out.ok ([] : List (List Key × D))) .dt X := fun _ _ h => h
theorem r_dcompK {vs : List Nat} {wi : WE (List D)} {g : WG} {tw : WE Bool} {wk wv : WE Rv} {t : Out (List D)} {tg : D → Out β} {tt : β → Out Bool} {fk fv : β → Out D} {sw : List Sl} {sb : β → List Sl} (hp : ∀ v ∈ vs, plainSl (s.getD v .no)) (hi : RO wi s s1 t id X) (hw : ∀ c, wipeG ⟨s1, c⟩ vs = ⟨sw, c⟩)
    (hg : RG g sw tg sb) (ht : ∀ b, RO tw (sb b) (sb b) (tt b) id fun _ _ => False) (hk : ∀ b, RO wk (sb b) (sb b) (fk b) .dat fun _ _ => False) (hf : ∀ b, RO wv (sb b) (sb b) (fv b) .dat fun _ _ => False) (hb : ∀ b c, wipeG ⟨sb b, c⟩ vs = ⟨sw, c⟩) (hs : ∀ c, backG ⟨sw, c⟩ ⟨s, c⟩ vs = ⟨s2, c⟩) :
    RO (wDComp DKk vs wi g tw wk wv) s s2 (t.bind fun items => (dcompO DKk tg tt fk fv items []).noer) .dk X := r_dcompB DKk hp hi hw hg ht hk hf hb hs
theorem r_dcompT {vs : List Nat} {wi : WE (List D)} {g : WG} {tw : WE Bool} {wk wv : WE Rv} {t : Out (List D)} {tg : D → Out β} {tt : β → Out Bool} {fk fv : β → Out D} {sw : List Sl} {sb : β → List Sl} (hp : ∀ v ∈ vs, plainSl (s.getD v .no)) (hi : RO wi s s1 t id X) (hw : ∀ c, wipeG ⟨s1, c⟩ vs = ⟨sw, c⟩)
    (hg : RG g sw tg sb) (ht : ∀ b, RO tw (sb b) (sb b) (tt b) id fun _ _ => False) (hk : ∀ b, RO wk (sb b) (sb b) (fk b) .dat fun _ _ => False) (hf : ∀ b, RO wv (sb b) (sb b) (fv b) .dat fun _ _ => False) (hb : ∀ b c, wipeG ⟨sb b, c⟩ vs = ⟨sw, c⟩) (hs : ∀ c, backG ⟨sw, c⟩ ⟨s, c⟩ vs = ⟨s2, c⟩) :
    RO (wDComp DKt vs wi g tw wk wv) s s2 (t.bind fun items => (dcompO DKt tg tt fk fv items []).noer) .dt X := r_dcompB DKt hp hi hw hg ht hk hf hb hs
/-! stores -/
def putLO (ds : List D) (k d : D) : Out (List D) := match k with | .int n => (match ixN ds.length n with | some j => .ok (ds.set j d) | none => .bad) | _ => .bad
def putKO (kvs : List (Key × D)) (k d : D) : Out (List (Key × D)) := match keyOf k with | some q => if kvs.length < 16777216 then .ok (putP kvs q d) else .bad | none => .bad
def putTO (kvs : List (List Key × D)) (k d : D) : Out (List (List Key × D)) := match keysOf k with | some q => if q.all isIK = true ∧ kvs.length < 16777216 then .ok (putP kvs q d) else .bad | none => .bad
def getLO (ds : List D) (k : D) : Out D := match k with | .int n => atO ds n | _ => .bad
def getKO (kvs : List (Key × D)) (k : D) : Out D := match keyOf k with | some q => (match valP kvs q with | some v => .ok v | none => .bad) | none => .bad
def getTO (kvs : List (List Key × D)) (k : D) : Out D := match keysOf k with | some q => (match valP kvs q with | some v => .ok v | none => .bad) | none => .bad
/-- the kinds of what may be stored into -/
structure Own (α : Type) where
  l : α → Sl
  own : ∀ a, ownSl (l a)
  put : α → D → D → Out α
  get : α → D → Out D
  putI : ∀ a k d P, (put a k d).post (fun a => P (l a)) (fun _ => False) → putS (l a) k d P
  getI : ∀ a k P, (get a k).post P (fun _ => False) → getS (l a) k P
def OwL : Own (List D) where
  l := .lst
  own := fun _ => trivial
  put := putLO
  get := getLO
  putI := fun a k d P h => by
    unfold putLO at h
    split at h
    · split at h
      · rename_i j hj; exact ⟨_, j, rfl, hj, h⟩
      · exact h.elim
    · exact h.elim
  getI := fun a k P h => by
    unfold getLO at h
    split at h
    · unfold atO at h
      split at h
      · rename_i v hv; exact ⟨_, v, rfl, hv, h⟩
      · exact h.elim
    · exact h.elim
def OwK : Own (List (Key × D)) where
  l := .dk
  own := fun _ => trivial
  put := putKO
  get := getKO
  putI := fun a k d P h => by
    unfold putKO at h
    split at h
    · rename_i q hq; exact ⟨q, hq, (post_if h).1, (post_if h).2⟩
    · exact h.elim
  getI := fun a k P h => by
    unfold getKO at h
    split at h
    · rename_i q hq
      split at h
      · rename_i v hv; exact ⟨q, v, hq, hv, h⟩
      · exact h.elim
    · exact h.elim
def OwT : Own (List (List Key × D)) where
  l := .dt
  own := fun _ => trivial
  put := putTO
  get := getTO
  putI := fun a k d P h => by
    unfold putTO at h
    split at h
    · rename_i q hq; exact ⟨q, hq, (post_if h).1.1, (post_if h).1.2, (post_if h).2⟩
    · exact h.elim
  getI := fun a k P h => by
    unfold getTO at h
    split at h
    · rename_i q hq
      split at h
      · rename_i v hv; exact ⟨q, v, hq, hv, h⟩
      · exact h.elim
    · exact h.elim
variable {J : Jx S L}
/-- x[k] = v: the value first, then the key -/
theorem rs_sub {i : Nat} (W : Own α) {we : WE Rv} {wi : WE D} {b : WS} {a : α} {t u : Out D} {k : α → So S L} {g : α → List Sl} (he : RO we s s1 t .dat X) (h1 : s1.getD i .no = W.l a) (hi : RO wi s1 s2 u id X) (h2 : s2.getD i .no = W.l a) (e : ∀ a, s2.set i (W.l a) = g a) (hb : ∀ a, RS b (g a) (k a) J X) :
    RS (wSeq (wSub i we wi) b) s ((t.bind fun v => u.bind fun y => (W.put a y v).noer).so k) J X := fun E c q => he c _ (by
  cases t with
  | ok v =>
    refine ⟨by show ownSl (s1.getD i .no); rw [h1]; exact W.own a, hi c _ ?_⟩
    cases u with
    | ok y =>
      show putS ((⟨s2, c⟩ : Ga).at i) y v fun x => b E ((⟨s2, c⟩ : Ga).set i x)
      rw [show (⟨s2, c⟩ : Ga).at i = W.l a from h2]
      have q : ((W.put a y v).noer.so k).post E J X c := q
      refine W.putI a y v _ ?_
      cases hp : W.put a y v with
      | ok a' =>
        rw [hp] at q
        show b E ⟨s2.set i (W.l a'), c⟩
        rw [e]; exact hb a' E c q
      | er e => rw [hp] at q; exact q.elim
      | bad => rw [hp] at q; exact q.elim
    | er e => exact q
    | bad => exact q
  | er e => exact q
  | bad => exact q)
def augO (f : Int → Int → Int) (a : D) (t : Out D) : Out D := match a with
  | .int a => t.bind fun b => match b with | .int b => .ok (.int (f a b)) | _ => .bad
  | _ => .bad
@[simp] theorem augO_i (f : Int → Int → Int) (a b : Int) : augO f (.int a) (.ok (.int b)) = .ok (.int (f a b)) := rfl
theorem rs_augSub {i : Nat} (W : Own α) {f : Int → Int → Int} {wi we : WE D} {b : WS} {a : α} {t u : Out D} {k : α → So S L} {g : α → List Sl} (h0 : s.getD i .no = W.l a) (hi : RO wi s s1 u id X) (h1 : s1.getD i .no = W.l a) (he : RO we s1 s2 t id X) (h2 : s2.getD i .no = W.l a) (e : ∀ a, s2.set i (W.l a) = g a) (hb : ∀ a, RS b (g a) (k a) J X) :
    RS (wSeq (wAugSub i f wi we) b) s ((u.bind fun y => (W.get a y).noer.bind fun o => (augO f o t).bind fun v => (W.put a y v).noer).so k) J X := fun E c q => by
  refine ⟨by show ownSl (s.getD i .no); rw [h0]; exact W.own a, hi c _ ?_⟩
  cases u with
  | ok y =>
    dsimp only [Out.post, id]
    rw [show (⟨s1, c⟩ : Ga).at i = W.l a from h1]
    have q : (((W.get a y).noer.bind fun o => (augO f o t).bind fun v => (W.put a y v).noer).so k).post E J X c := q
    refine W.getI a y _ ?_
    cases hg : W.get a y with
    | er e => rw [hg] at q; exact q.elim
    | bad => rw [hg] at q; exact q.elim
    | ok o =>
      rw [hg] at q
      have q : (((augO f o t).bind fun v => (W.put a y v).noer).so k).post E J X c := q
      cases o with
      | int n =>
        refine he c _ ?_
        cases t with
        | ok v =>
          cases v with
          | int m =>
            show putS ((⟨s2, c⟩ : Ga).at i) y (.int (f n m)) fun x => b E ((⟨s2, c⟩ : Ga).set i x)
            rw [show (⟨s2, c⟩ : Ga).at i = W.l a from h2]
            have q : ((W.put a y (.int (f n m))).noer.so k).post E J X c := q
            refine W.putI a y _ _ ?_
            cases hp : W.put a y (.int (f n m)) with
            | ok a' =>
              rw [hp] at q
              show b E ⟨s2.set i (W.l a'), c⟩
              rw [e]; exact hb a' E c q
            | er e => rw [hp] at q; exact q.elim
            | bad => rw [hp] at q; exact q.elim
          | _ => exact q.elim
        | er e => exact q
        | bad => exact q
      | _ => exact q.elim
  | er e => exact q
  | bad => exact q
theorem pj_sub {i : Nat} (W : Own α) {we : WE Rv} {wi : WE D} {b : WS} {a : α} {t u : Pn D} {k : α → Pn (So S L)} {g : α → List Sl} (he : PO we s s1 t .dat) (h1 : s1.getD i .no = W.l a) (hi : PO wi s1 s2 u id) (h2 : s2.getD i .no = W.l a) (e : ∀ a, s2.set i (W.l a) = g a) (hb : ∀ a, PSj b (g a) (k a) J X) :
    PSj (wSeq (wSub i we wi) b) s ((t.bind fun v => u.bind fun y => Pn.lift (W.put a y v)).bind k) J X := fun E c Q q kk => he c _ _ q fun v c1 z => by
  refine ⟨by show ownSl (s1.getD i .no); rw [h1]; exact W.own a, hi c1 _ _ z fun y c2 x => ?_⟩
  show putS ((⟨s2, c2⟩ : Ga).at i) y v fun x => b E ((⟨s2, c2⟩ : Ga).set i x)
  rw [show (⟨s2, c2⟩ : Ga).at i = W.l a from h2]
  refine W.putI a y v _ (Out.post.imp x fun a' p => ?_)
  show b E ⟨s2.set i (W.l a'), c2⟩
  rw [e]; exact hb a' E c2 _ p kk
end
end VL
/-! Comprehensions with two generators: the plain side; rooms. -/
namespace VL
open PySem PySem.Spec PyProof.Rows L2
noncomputable section
theorem RoomG.u1 {k : Nat} {A : Around} (r : RoomG k A) : A.units + 1 < cLine := by have := r.u64; omega
theorem RoomG.u0 {k : Nat} {A : Around} (r : RoomG k A) : A.units < cLine := by have := r.u64; omega
theorem RoomG.u2 {k : Nat} {A : Around} (r : RoomG k A) : A.units + 2 < cLine := by have := r.u64; omega
variable {α β γ S S' L M ρ : Type} {s s0 s1 s2 s3 : List Sl} {X : Exc → Nat → Prop}
def sized (t : Out (List D)) : Out (List D) := t.bind fun es => if es.length ≤ 16777216 then .ok es else .bad
@[simp] theorem sized_ok (es : List D) : sized (.ok es) = if es.length ≤ 16777216 then .ok es else .bad := rfl
theorem r_comp2 {vs vs1 : List Nat} {wi : WE (List D)} {g : WG} {tw : WE Bool} {wi1 : WE (List D)} {g1 : WG} {tw1 : WE Bool} {w : WE Rv} {t : Out (List D)} {tg : D → Out β} {tt : β → Out Bool} {it : β → Out (List D)} {tg1 : β → D → Out γ} {tt1 : β → γ → Out Bool} {f : β → γ → Out D}
    {sw : List Sl} {sb si : β → List Sl} {sc : β → γ → List Sl} (hp : ∀ v ∈ vs, plainSl (s.getD v .no)) (hi : RO wi s s1 t id X) (hw : ∀ c, wipeG ⟨s1, c⟩ vs = ⟨sw, c⟩)
    (hg : RG g sw tg sb) (ht : ∀ b, RO tw (sb b) (sb b) (tt b) id fun _ _ => False) (hi1 : ∀ b, RO wi1 (sb b) (sb b) (it b) id fun _ _ => False) (hw1 : ∀ b c, wipeG ⟨sb b, c⟩ vs1 = ⟨si b, c⟩)
    (hg1 : ∀ b, RG g1 (si b) (tg1 b) (sc b)) (ht1 : ∀ b d, RO tw1 (sc b d) (sc b d) (tt1 b d) id fun _ _ => False) (hf : ∀ b d, RO w (sc b d) (sc b d) (f b d) .dat fun _ _ => False) (hb1 : ∀ b d c, wipeG ⟨sc b d, c⟩ vs1 = ⟨si b, c⟩)
    (hb : ∀ b c, wipeG ⟨si b, c⟩ vs = ⟨sw, c⟩) (hb' : ∀ b c, wipeG ⟨sb b, c⟩ vs = ⟨sw, c⟩) (hs : ∀ c, backG ⟨sw, c⟩ ⟨s, c⟩ vs = ⟨s2, c⟩) :
    RO (wComp2 vs vs1 wi g tw wi1 g1 tw1 w) s s2 (t.bind fun items => (sized (compO2 tg tt it tg1 tt1 f items)).noer) .ls X := fun c P q => by
  refine ⟨hp, hi c _ ((Out.post_bind q).imp fun items p => ?_)⟩
  rw [hw]
  have p := Out.post_bind (noer_post p)
  -- the inner loop
  have inner : ∀ (b : β) (items acc : List D) (K : List D → Ga → Prop), (compO (tg1 b) (tt1 b) (f b) items).post (fun es => acc.length + es.length ≤ 16777216 ∧ K (acc ++ es) ⟨si b, c⟩) (fun _ => False) →
      comp2I vs1 g1 tw1 w items acc ⟨si b, c⟩ K := by
    intro b items
    induction items with
    | nil =>
      intro acc K h
      have h : acc.length + 0 ≤ 16777216 ∧ K (acc ++ []) ⟨si b, c⟩ := h
      rw [List.append_nil] at h
      exact h.2
    | cons d r ih =>
      intro acc K h
      refine hg1 b d c _ (((Out.post_bind h).imp fun x h => ht1 b x c _ ((Out.post_bind h).imp fun v h => ?_)))
      cases v with
      | true =>
        refine hf b x c _ ((Out.post_bind h).imp fun e h => ?_)
        have h := Out.post_bind h
        change (compO (tg1 b) (tt1 b) (f b) r).post _ _ at h
        have lt : acc.length < 16777216 := by
          cases hc : compO (tg1 b) (tt1 b) (f b) r with
          | ok es =>
            rw [hc] at h
            have h : acc.length + (e :: es).length ≤ 16777216 ∧ _ := h
            have := h.1
            rw [List.length_cons] at this
            omega
          | er e => rw [hc] at h; exact h.elim
          | bad => rw [hc] at h; exact h.elim
        refine ⟨lt, ?_⟩
        show comp2I vs1 g1 tw1 w r (acc ++ [e]) (wipeG ⟨sc b x, c⟩ vs1) K
        rw [hb1]
        refine ih _ K (h.imp fun es h => ?_)
        obtain ⟨h1, h2⟩ := h
        rw [List.length_cons] at h1
        refine ⟨by rw [List.length_append]; simp only [List.length_cons, List.length_nil]; omega, ?_⟩
        rw [List.append_assoc]; exact h2
      | false =>
        show comp2I vs1 g1 tw1 w r acc (wipeG ⟨sc b x, c⟩ vs1) K
        rw [hb1]
        exact ih _ K h
  have key : ∀ (items acc : List D), (compO2 tg tt it tg1 tt1 f items).post (fun es => acc.length + es.length ≤ 16777216 ∧ P (.ls (acc ++ es)) ⟨s2, c⟩) (fun _ => False) → comp2W vs vs1 g tw wi1 g1 tw1 w items acc ⟨sw, c⟩ fun acc Γ2 => P (.ls acc) (backG Γ2 ⟨s, c⟩ vs) := by
    intro items
    induction items with
    | nil =>
      intro acc h
      have h : acc.length + 0 ≤ 16777216 ∧ P (.ls (acc ++ [])) ⟨s2, c⟩ := h
      rw [List.append_nil] at h
      show P (.ls acc) (backG ⟨sw, c⟩ ⟨s, c⟩ vs)
      rw [hs]; exact h.2
    | cons d r ih =>
      intro acc h
      refine hg d c _ (((Out.post_bind h).imp fun b h => ht b c _ ((Out.post_bind h).imp fun v h => ?_)))
      cases v with
      | true =>
        refine hi1 b c _ ((Out.post_bind h).imp fun items1 h => ?_)
        show comp2I vs1 g1 tw1 w items1 acc (wipeG ⟨sb b, c⟩ vs1) _
        rw [hw1]
        have h := Out.post_bind h
        refine inner b items1 acc _ (h.imp fun es h => ?_)
        have h := Out.post_bind h
        change (compO2 tg tt it tg1 tt1 f r).post _ _ at h
        refine ⟨?_, ?_⟩
        · cases hc : compO2 tg tt it tg1 tt1 f r with
          | ok es' =>
            rw [hc] at h
            have h : acc.length + (es ++ es').length ≤ 16777216 ∧ _ := h
            have := h.1
            rw [List.length_append] at this
            omega
          | er e => rw [hc] at h; exact h.elim
          | bad => rw [hc] at h; exact h.elim
        · show comp2W vs vs1 g tw wi1 g1 tw1 w r (acc ++ es) (wipeG ⟨si b, c⟩ vs) _
          rw [hb]
          refine ih _ (h.imp fun es' h => ?_)
          obtain ⟨h1, h2⟩ := h
          rw [List.length_append] at h1
          refine ⟨by rw [List.length_append]; omega, ?_⟩
          rw [List.append_assoc]; exact h2
      | false =>
        show comp2W vs vs1 g tw wi1 g1 tw1 w r acc (wipeG ⟨sb b, c⟩ vs) _
        rw [hb']
        exact ih _ h
  refine key items [] (p.imp fun es p => ?_)
  obtain ⟨h1, h2⟩ := post_if p
  exact ⟨by simpa using h1, h2⟩
/-! dict(pairs) -/
section
variable {K : Fg}
def mergeX (es : List TKey) : List TKey := es.foldl (fun a p => putX a p.1 p.2.1 p.2.2) []
def pairT (xs : List D) : Option (List (List Key × D)) := match xs with
  | [] => some []
  | .tuple [k, v] :: r => match keysOf k, pairT r with
    | some q, some ps => if q.all isIK = true then some ((q, v) :: ps) else none
    | _, _ => none
  | _ :: _ => none
def pairK (xs : List D) : Option (List (Key × D)) := match xs with
  | [] => some []
  | .tuple [k, v] :: r => match keyOf k, pairK r with
    | some q, some ps => some ((q, v) :: ps)
    | _, _ => none
  | _ :: _ => none
def foldP {κ : Type} [DecidableEq κ] (ps : List (κ × D)) : List (κ × D) := ps.foldl (fun a p => putP a p.1 p.2) []
def sDictT : SemN := fun ds P => match ds with
  | [.list xs] => ∃ ps, pairT xs = some ps ∧ P (.dt (foldP ps))
  | _ => False
def sDictK : SemN := fun ds P => match ds with
  | [.list xs] => ∃ ps, pairK xs = some ps ∧ P (.dk (foldP ps))
  | _ => False
def rDictX (K : PySem.W.Frag) : List V → Hp → VK → Prop := fun xs H Q => ∃ (a : Addr) (ps : List Addr) (es : List TKey), xs = [.ref a] ∧ SqL K H a (ps.map V.ref) ∧ Paired (fun p e => SqT K H p [.ref e.2.1, e.2.2] ∧ SqT K H e.2.1 (e.1.map kV) ∧ e.1.all isIK = true) ps es ∧
  ∀ p, H p = none → Q (.ref p) (upd H p (dXo p (mergeX es)))
theorem hkeys_of {X : Cx} {pins : List (Addr × Obj)} {σ : L2.St} {H : Hp} {s : Shared} (I : Inv X pins σ H s) : ∀ {ps : List Addr} {es : List TKey}, Paired (fun p e => SqT X.K H p [.ref e.2.1, e.2.2] ∧ SqT X.K H e.2.1 (e.1.map kV) ∧ e.1.all isIK = true) ps es →
    ∃ prs : List HKey, Paired pairX es prs ∧ prs.length = ps.length ∧ ∀ (j : Nat) (q : HKey), prs[j]? = some q → ∃ b : Addr, ps[j]? = some b ∧ IsTup s.heap b #[.ref q.2.1, q.2.2] ∧ (tupleKind (mixKind X.prog X.w)).is s.heap q.1 q.2.1
  | _, _, .nil => ⟨[], .nil, rfl, fun j q e => by simp at e⟩
  | _, _, .cons (a := p) (b := e) h t => by
    obtain ⟨prs, r, hl, hp⟩ := hkeys_of I t
    obtain ⟨h1, h2, _⟩ := h
    obtain ⟨its, rv, ht, _⟩ := I.tuple h1
    obtain ⟨u, y, ei, ru, ry⟩ := vals2 rv
    subst ei
    cases ru
    refine ⟨(e.1, e.2.1, y) :: prs, .cons ⟨rfl, rfl, ry⟩ r, by rw [List.length_cons, List.length_cons, hl], fun j q eq => ?_⟩
    cases j with
    | zero =>
      have e' : (e.1, e.2.1, y) = q := Option.some.inj eq
      subst e'
      exact ⟨p, rfl, ht, keyX I.hok I.kIn h2⟩
    | succ j =>
      obtain ⟨b, e1, e2, e3⟩ := hp j q (by simpa using eq)
      exact ⟨b, by simpa using e1, e2, e3⟩
theorem merge_rel : ∀ (es : List TKey) (xs : List HKey) (a : List TKey) (b : List HKey), Paired pairX es xs → Paired pairX a b → Paired pairX (es.foldl (fun a p => putX a p.1 p.2.1 p.2.2) a) (mergeH b xs)
  | [], _, a, b, .nil, h => h
  | p :: es, q :: xs, a, b, .cons ⟨e1, e2, e3⟩ t, h => by
    show Paired pairX (es.foldl _ (putX a p.1 p.2.1 p.2.2)) (mergeH (storedH b q.1 q.2.1 q.2.2) xs)
    refine merge_rel es xs _ _ t ?_
    rw [e1, e2]
    exact putX_rel h e3
theorem merge_ik : ∀ (es a : List TKey), (∀ p ∈ es, p.1.all isIK = true) → (∀ p ∈ a, p.1.all isIK = true) → ∀ p ∈ es.foldl (fun a p => putX a p.1 p.2.1 p.2.2) a, p.1.all isIK = true
  | [], a, _, h => h
  | p :: es, a, hp, h => merge_ik es _ (fun q hq => hp q (.tail _ hq)) (putX_ik h (hp p (.head _)))
theorem merge_len : ∀ (es a : List TKey), (es.foldl (fun a p => putX a p.1 p.2.1 p.2.2) a).length ≤ a.length + es.length
  | [], a => Nat.le_refl _
  | p :: es, a => by
    have h := merge_len es (putX a p.1 p.2.1 p.2.2)
    have h2 := putX_len (es := a) (k := p.1) (b := p.2.1) (v := p.2.2)
    rw [List.foldl_cons, List.length_cons]
    omega
theorem all_ik {H : Hp} : ∀ {ps : List Addr} {es : List TKey}, Paired (fun p e => SqT K H p [.ref e.2.1, e.2.2] ∧ SqT K H e.2.1 (e.1.map kV) ∧ e.1.all isIK = true) ps es → ∀ e ∈ es, e.1.all isIK = true
  | _, _, .nil, _, h => nomatch h
  | _, _, .cons h t, e, he => by
    rcases List.mem_cons.mp he with rfl | he
    · exact h.2.2
    · exact all_ik t e he
theorem call_dictX {X : Cx} (hu : X.A.units + 2 < cLine) (calm : X.calm = true) : CallR X (.type "dict") (rDictX X.K) := by
  intro pins s σ H xs us Q I r q
  obtain ⟨a, ps, es, rfl, hq, hp, q⟩ := q
  obtain ⟨u, rfl, rx⟩ := vals1 r
  cases rx
  obtain ⟨its, rv, pl, hz⟩ := I.list hq
  obtain rfl := refs_at rv
  rw [List.length_map] at hz
  obtain ⟨prs, rel, hl, hpr⟩ := hkeys_of I hp
  obtain ⟨o, n, ho, hc, hd, hdat⟩ := pl
  refine dict_pairs (prs := prs) hu (I.ok.hd calm) ho hc hd hdat (by simp [hl]) (by rw [hl]; exact hz) (fun j q' e => ?_) fun h' tk dd keep => ?_
  · obtain ⟨b, e1, e2, e3⟩ := hpr j q' e
    exact ⟨b, by simp [e1], e2, e3⟩
  · have nm : (s.heap.objs.size == sysModules) = false := beq_eq_false_iff_ne.mpr (Nat.ne_of_gt I.big)
    have len := merge_len es []
    have l2 := Paired.length rel
    have ik := merge_ik es [] (all_ik hp) (fun _ h => nomatch h)
    exact ⟨.ref s.heap.objs.size, upd H s.heap.objs.size (dXo s.heap.objs.size (mergeX es)), I.laid (t' := tk) keep (Nat.le_refl _) (dX_new (by rw [List.length_nil] at len; unfold mergeX; omega) nm ik (merge_rel es prs [] [] rel .nil) dd), rfl, q _ (I.hok.fresh (Nat.le_refl _))⟩
theorem pairT_is {Z : Hp} : ∀ {xs : List D} {ps : List (List Key × D)} {vs : List V}, pairT xs = some ps → DRs K Z vs xs → ∃ (as : List Addr) (es : List TKey), vs = as.map V.ref ∧ Paired (fun p e => SqT K Z p [.ref e.2.1, e.2.2] ∧ SqT K Z e.2.1 (e.1.map kV) ∧ e.1.all isIK = true) as es ∧ dtR K Z es ps := by
  intro xs
  induction xs with
  | nil => intro ps vs h hv; cases h; cases hv; exact ⟨[], [], rfl, .nil, .nil⟩
  | cons x r ih =>
    intro ps vs h hv
    unfold pairT at h
    split at h
    · rename_i e; cases e
    · rename_i k v r' e
      cases e
      split at h
      · rename_i q ps' hq hr
        split at h
        · rename_i hik
          cases h
          cases hv with
          | cons hx ht =>
            obtain ⟨as, es, rfl, pr, rel⟩ := ih hr ht
            cases hx with
            | tup hs hd =>
              cases hd with
              | cons hk hd2 => cases hd2 with
                | cons hv' hd3 =>
                  cases hd3
                  have := keysOf_is hq
                  subst this
                  cases hk with
                  | tup hks hkd =>
                    obtain rfl := keysV hkd
                    exact ⟨_ :: as, (q, _, _) :: es, rfl, .cons ⟨hs, hks, hik⟩ pr, .cons ⟨rfl, hks, hv'⟩ rel⟩
        · cases h
      · cases h
    · cases h
theorem foldT_rel {Z : Hp} : ∀ (es : List TKey) (ps : List (List Key × D)) (a : List TKey) (b : List (List Key × D)), dtR K Z es ps → dtR K Z a b → dtR K Z (es.foldl (fun a p => putX a p.1 p.2.1 p.2.2) a) (ps.foldl (fun a p => putP a p.1 p.2) b)
  | [], _, a, b, .nil, h => h
  | p :: es, q :: ps, a, b, .cons ⟨e1, e2, e3⟩ t, h => by
    rw [List.foldl_cons, List.foldl_cons, ← e1]
    exact foldT_rel es ps _ _ t (h.put p.1 e2 e3)
theorem p_dictT : PureN K (rDictX K) sDictT := by
  intro PN Z H xs ds P Q C b s k
  unfold sDictT at s
  split at s
  · obtain ⟨ps, hps, p⟩ := s
    obtain ⟨v, rfl, bb⟩ := b.one
    obtain ⟨a, vs, rfl, h, t⟩ := bb.listI C.sub
    obtain ⟨as, es, rfl, pr, rel⟩ := pairT_is hps t
    refine ⟨a, as, es, rfl, SqL.of h, Paired.mapP pr fun p e q => ⟨C.sub.sqT q.1, C.sub.sqT q.2.1, q.2.2⟩, fun q hq => k _ _ _ _ p (Grow.new' C.sub hq) ⟨q, _, rfl, hq, C.sub.free hq, upd_same, foldT_rel es ps [] [] rel .nil⟩⟩
  · exact s.elim
end
/-! the plain side -/
def dDictT (ds : List D) : Out (List (List Key × D)) := match ds with
  | [.list xs] => (match pairT xs with | some ps => .ok (foldP ps) | none => .bad)
  | _ => .bad
theorem r_dictT {ws : WE (List D)} {t : Out (List D)} (h : RO ws s s1 t id X) : RO (wN sDictT ws) s s1 (oN dDictT t) .dt X := fun c P q => h c _ ((Out.post_bind q).imp fun a p => by
  have p := noer_post p
  unfold dDictT at p
  show sDictT a _
  unfold sDictT
  split at p
  · split at p
    · rename_i ps hps; exact ⟨ps, hps, p⟩
    · exact p.elim
  · exact p.elim)
end
end VL
/-! `<`, `<=`, `>`, `>=` of texts, rows and tuples. -/
namespace VL
open PySem PySem.Spec PyProof.Rows L2
noncomputable section
/-- what may be asked which is less -/
def ltOkB (d e : D) : Bool := nodict d && nodict e && PySem.W.alike d e && (match d with | .none => false | _ => true) && decide (d.depth ≤ 60)
def rCmpD (K : Fg) (f : D → D → Bool) : R2 := fun x y H Q => ∃ d e, Dp K H x d ∧ Dp K H y e ∧ PySem.W.alike d e = true ∧ d ≠ .none ∧ d.depth ≤ 60 ∧ Q (.bl (f d e)) H
section
variable {X : Cx}
theorem min_le_60 {d e : D} (h : d.depth ≤ 60) : min d.depth e.depth ≤ 60 := Nat.le_trans (Nat.min_le_left _ _) h
theorem op_ltD (hu : X.A.units + 64 < cLine) : OpR X (compareOp .Lt) (rCmpD X.K fun d e => PySem.W.dataLt d e) := by
  intro pins s σ H x y u v Q I rx ry ⟨d, e, hd, he, al, hn, dp, q⟩
  obtain ⟨as, ra⟩ := Dp.reads I d x u hd rx
  obtain ⟨bs, rb⟩ := Dp.reads I e y v he ry
  exact PySem.W.lt_data ra rb al hn (by have := min_le_60 (e := e) dp; omega) ⟨.bl _, H, I, rfl, q⟩
theorem op_gtD (hu : X.A.units + 64 < cLine) : OpR X (compareOp .Gt) (rCmpD X.K fun d e => PySem.W.dataLt e d) := by
  intro pins s σ H x y u v Q I rx ry ⟨d, e, hd, he, al, hn, dp, q⟩
  obtain ⟨as, ra⟩ := Dp.reads I d x u hd rx
  obtain ⟨bs, rb⟩ := Dp.reads I e y v he ry
  exact PySem.W.gt_data ra rb al hn (by have := min_le_60 (e := e) dp; omega) ⟨.bl _, H, I, rfl, q⟩
theorem op_leD (hu : X.A.units + 64 < cLine) : OpR X (compareOp .LtE) (rCmpD X.K fun d e => !PySem.W.dataLt e d) := by
  intro pins s σ H x y u v Q I rx ry ⟨d, e, hd, he, al, hn, dp, q⟩
  obtain ⟨as, ra⟩ := Dp.reads I d x u hd rx
  obtain ⟨bs, rb⟩ := Dp.reads I e y v he ry
  exact PySem.W.le_data ra rb al hn (by have := min_le_60 (e := e) dp; omega) ⟨.bl _, H, I, rfl, q⟩
theorem op_geD (hu : X.A.units + 64 < cLine) : OpR X (compareOp .GtE) (rCmpD X.K fun d e => !PySem.W.dataLt d e) := by
  intro pins s σ H x y u v Q I rx ry ⟨d, e, hd, he, al, hn, dp, q⟩
  obtain ⟨as, ra⟩ := Dp.reads I d x u hd rx
  obtain ⟨bs, rb⟩ := Dp.reads I e y v he ry
  exact PySem.W.ge_data ra rb al hn (by have := min_le_60 (e := e) dp; omega) ⟨.bl _, H, I, rfl, q⟩
end
/-- on numbers as numbers, on the rest as data -/
def sCmpD (p : Int → Int → Bool) (f : D → D → Bool) : Sem2 := fun d e P => match d, e with
  | .int i, .int j => P (vB (p i j))
  | d, e => ltOkB d e = true ∧ P (vB (f d e))
abbrev sLtA := sCmpD (fun i j => decide (i < j)) fun d e => PySem.W.dataLt d e
abbrev sGtA := sCmpD (fun i j => decide (j < i)) fun d e => PySem.W.dataLt e d
abbrev sLeA := sCmpD (fun i j => decide (i ≤ j)) fun d e => !PySem.W.dataLt e d
abbrev sGeA := sCmpD (fun i j => decide (j ≤ i)) fun d e => !PySem.W.dataLt d e
abbrev rCmpS (K : Fg) (p : Int → Int → Bool) (f : D → D → Bool) : R2 := fun x y H Q => rI0 (fun i j => .bl (p i j)) x y H Q ∨ rCmpD K f x y H Q
abbrev rLtA (K : Fg) := rCmpS K (fun i j => decide (i < j)) fun d e => PySem.W.dataLt d e
theorem o_lt {X : Cx} (hu : X.A.units + 64 < cLine) : OpR X (compareOp .Lt) (rLtA X.K) := op_lt.or (op_ltD hu)
abbrev rGtA (K : Fg) := rCmpS K (fun i j => decide (j < i)) fun d e => PySem.W.dataLt e d
theorem o_gt {X : Cx} (hu : X.A.units + 64 < cLine) : OpR X (compareOp .Gt) (rGtA X.K) := op_gt.or (op_gtD hu)
abbrev rLeA (K : Fg) := rCmpS K (fun i j => decide (i ≤ j)) fun d e => !PySem.W.dataLt e d
theorem o_le {X : Cx} (hu : X.A.units + 64 < cLine) : OpR X (compareOp .LtE) (rLeA X.K) := op_le.or (op_leD hu)
abbrev rGeA (K : Fg) := rCmpS K (fun i j => decide (j ≤ i)) fun d e => !PySem.W.dataLt d e
theorem o_ge {X : Cx} (hu : X.A.units + 64 < cLine) : OpR X (compareOp .GtE) (rGeA X.K) := op_ge.or (op_geD hu)
theorem p_cmpD {K : Fg} {p : Int → Int → Bool} {f : D → D → Bool} : Pure2 K (rCmpS K p f) (sCmpD p f) := by
  intro PN Z H x y d e P Q Cx bx bz s k
  unfold sCmpD at s
  split at s
  · obtain rfl := bx.intI
    obtain rfl := bz.intI
    exact .inl ⟨_, _, rfl, rfl, keepS Cx k s (.bl _)⟩
  · obtain ⟨h, s⟩ := s
    simp only [ltOkB, Bool.and_eq_true, decide_eq_true_eq] at h
    exact .inr ⟨_, _, bx.dp Cx.sub h.1.1.1.1, bz.dp Cx.sub h.1.1.1.2, h.1.1.2, by rintro rfl; simp at h, h.2, keepS Cx k s (.bl _)⟩
def dCmpD (p : Int → Int → Bool) (f : D → D → Bool) (d e : D) : Out D := match d, e with
  | .int i, .int j => .ok (.bool (p i j))
  | d, e => if ltOkB d e = true then .ok (.bool (f d e)) else .bad
@[simp] theorem dCmpD_i (p : Int → Int → Bool) (f : D → D → Bool) (i j : Int) : dCmpD p f (.int i) (.int j) = .ok (.bool (p i j)) := rfl
abbrev dLtA := dCmpD (fun i j => decide (i < j)) fun d e => PySem.W.dataLt d e
abbrev dGtA := dCmpD (fun i j => decide (j < i)) fun d e => PySem.W.dataLt e d
abbrev dLeA := dCmpD (fun i j => decide (i ≤ j)) fun d e => !PySem.W.dataLt e d
abbrev dGeA := dCmpD (fun i j => decide (j ≤ i)) fun d e => !PySem.W.dataLt d e
theorem s_cmpD {p : Int → Int → Bool} {f : D → D → Bool} : S2 (sCmpD p f) (dCmpD p f) := fun d e P h => by
  unfold dCmpD at h
  unfold sCmpD
  split at h
  · exact h _ rfl
  · exact ⟨(post_if h).1, (post_if h).2 _ rfl⟩
theorem p_ltA {K : Fg} : Pure2 K (rLtA K) sLtA := p_cmpD
theorem p_gtA {K : Fg} : Pure2 K (rGtA K) sGtA := p_cmpD
theorem p_leA {K : Fg} : Pure2 K (rLeA K) sLeA := p_cmpD
theorem p_geA {K : Fg} : Pure2 K (rGeA K) sGeA := p_cmpD
theorem s_ltA : S2 sLtA dLtA := s_cmpD
theorem s_gtA : S2 sGtA dGtA := s_cmpD
theorem s_leA : S2 sLeA dLeA := s_cmpD
theorem s_geA : S2 sGeA dGeA := s_cmpD
/-! ### truth -/
def truS (d : D) (P : Bool → Prop) : Prop := match d with
  | .none => P false
  | .bool b => P b
  | .int i => P (!decide (i = 0))
  | .str z => z.length ≤ 16777216 ∧ P (!decide (z.length = 0))
  | .list ds => P (!ds.isEmpty)
  | .tuple ds => P (!ds.isEmpty)
  | .dict _ => False
def wTru (w : WE D) : WE Bool := fun Γ P => w Γ fun d Γ' => truS d fun k => P k Γ'
theorem DRs.isEmpty {K : Fg} {Z : Hp} : ∀ {vs : List V} {ds : List D}, DRs K Z vs ds → vs.isEmpty = ds.isEmpty
  | _, _, .nil => rfl
  | _, _, .cons _ _ => rfl
theorem tru_of {K : Fg} {G : Gh} {w : WE D} {σ : L2.St} {H : Hp} {Q : Bool → Hp → Prop} (h : lift K G (fun _ _ _ _ (a b : Bool) => a = b) (wTru w) σ H Q) :
    lift K G (fun _ Z _ H d v => BR K G.PN Z H v d) w σ H (fun x H' => ∃ k, TruV K x H' k ∧ Q k H') := by
  obtain ⟨Γ, Z, O, P, R, w, k⟩ := h
  refine ⟨Γ, Z, O, _, R, w, fun d Γ1 x Z1 O1 H1 p1 R1 S1 b1 => ?_⟩
  unfold truS at p1
  split at p1
  · obtain rfl := b1.noneI; exact ⟨_, rfl, k _ _ _ _ _ _ p1 R1 S1 rfl⟩
  · obtain rfl := b1.boolI; exact ⟨_, rfl, k _ _ _ _ _ _ p1 R1 S1 rfl⟩
  · rename_i i
    obtain rfl := b1.intI
    refine ⟨_, ?_, k _ _ _ _ _ _ p1 R1 S1 rfl⟩
    show (!decide (i = 0)) = (i != 0)
    rw [bne, beq_dec]
  · rename_i z
    obtain rfl := b1.strI
    refine ⟨_, ⟨by rw [← line_is]; exact p1.1, ?_⟩, k _ _ _ _ _ _ p1.2 R1 S1 rfl⟩
    rw [bne, beq_dec]
    exact congrArg _ (decide_eq_decide.mpr (by omega))
  · obtain ⟨a, vs, rfl, h1, t⟩ := b1.listI R1.sub
    exact ⟨_, .inl ⟨vs, SqL.of h1, rfl⟩, k _ _ _ _ _ _ (by rw [DRs.isEmpty t]; exact p1) R1 S1 rfl⟩
  · obtain ⟨a, vs, rfl, h1, _, t⟩ := b1.tupI R1.sub
    exact ⟨_, .inr (.inl ⟨vs, h1, rfl⟩), k _ _ _ _ _ _ (by rw [DRs.isEmpty t]; exact p1) R1 S1 rfl⟩
  · exact p1.elim
section
variable {X : Cx} {G : Gh} {e : Expr}
theorem at_tru {w : WE D} (h : AB X G e w) (he : ∀ whole, isTrue e X.env whole = (do let v ← whole; standAt e.pos; holding [v] (truthy v)) := by intro _; rfl) : AT X G e (wTru w) :=
  PTi (pt_truth h he) fun _ _ _ h => tru_of h
end
def dTru (d : D) : Out Bool := match d with
  | .none => .ok false
  | .bool b => .ok b
  | .int i => .ok (!decide (i = 0))
  | .str z => if z.length ≤ 16777216 then .ok (!decide (z.length = 0)) else .bad
  | .list ds => .ok (!ds.isEmpty)
  | .tuple ds => .ok (!ds.isEmpty)
  | .dict _ => .bad
@[simp] theorem dTru_b (b : Bool) : dTru (.bool b) = .ok b := rfl
@[simp] theorem dTru_i (i : Int) : dTru (.int i) = .ok (!decide (i = 0)) := rfl
@[simp] theorem dTru_l (ds : List D) : dTru (.list ds) = .ok (!ds.isEmpty) := rfl
@[simp] theorem dTru_t (ds : List D) : dTru (.tuple ds) = .ok (!ds.isEmpty) := rfl
theorem s_tru {d : D} {P : Bool → Prop} (h : (dTru d).post P fun _ => False) : truS d P := by
  unfold dTru at h
  unfold truS
  cases d with
  | none => exact h
  | bool => exact h
  | int => exact h
  | list => exact h
  | tuple => exact h
  | dict => exact h.elim
  | str z => exact post_if h
section
variable {s s1 : List Sl} {X : Exc → Nat → Prop}
theorem r_tru {w : WE D} {t : Out D} (h : RO w s s1 t id X) : RO (wTru w) s s1 (t.bind fun d => (dTru d).noer) id X := fun c P q => h c _ ((Out.post_bind q).imp fun a p => s_tru (noer_post p))
theorem p_tru {w : WE D} {t : Pn D} (h : PO w s s1 t id) : PO (wTru w) s s1 (t.bind fun d => Pn.lift (dTru d)) id := fun c Q P q k => h c _ _ q fun a c' z => s_tru (z.imp fun b z => k _ _ z)
end
end
end VL
namespace RN
open PySem
mutual
def sameD : PyData → PyData → Bool
  | .none, .none => true
  | .bool a, .bool b => decide (a = b)
  | .int a, .int b => decide (a = b)
  | .str a, .str b => decide (a.cps.toList = b.cps.toList)
  | .list a, .list b => sameDs a b
  | .tuple a, .tuple b => sameDs a b
  | _, _ => false
def sameDs : List PyData → List PyData → Bool
  | [], [] => true
  | x :: xs, y :: ys => sameD x y && sameDs xs ys
  | _, _ => false
end
mutual
theorem sameD_eq : ∀ {a b : PyData}, sameD a b = true → a = b
  | .none, .none, _ => rfl
  | .bool a, .bool b, h => by simp only [sameD, decide_eq_true_eq] at h; rw [h]
  | .int a, .int b, h => by simp only [sameD, decide_eq_true_eq] at h; rw [h]
  | .str ⟨a⟩, .str ⟨b⟩, h => by
    simp only [sameD, decide_eq_true_eq] at h
    rw [Array.toList_inj.mp h]
  | .list a, .list b, h => by simp only [sameD] at h; rw [sameDs_eq h]
  | .tuple a, .tuple b, h => by simp only [sameD] at h; rw [sameDs_eq h]
  | .none, .bool _, h => by simp [sameD] at h
  | .none, .int _, h => by simp [sameD] at h
  | .none, .str _, h => by simp [sameD] at h
  | .none, .list _, h => by simp [sameD] at h
  | .none, .tuple _, h => by simp [sameD] at h
  | .none, .dict _, h => by simp [sameD] at h
  | .bool _, .none, h => by simp [sameD] at h
  | .bool _, .int _, h => by simp [sameD] at h
  | .bool _, .str _, h => by simp [sameD] at h
  | .bool _, .list _, h => by simp [sameD] at h
  | .bool _, .tuple _, h => by simp [sameD] at h
  | .bool _, .dict _, h => by simp [sameD] at h
  | .int _, .none, h => by simp [sameD] at h
  | .int _, .bool _, h => by simp [sameD] at h
  | .int _, .str _, h => by simp [sameD] at h
  | .int _, .list _, h => by simp [sameD] at h
  | .int _, .tuple _, h => by simp [sameD] at h
  | .int _, .dict _, h => by simp [sameD] at h
  | .str _, .none, h => by simp [sameD] at h
  | .str _, .bool _, h => by simp [sameD] at h
  | .str _, .int _, h => by simp [sameD] at h
  | .str _, .list _, h => by simp [sameD] at h
  | .str _, .tuple _, h => by simp [sameD] at h
  | .str _, .dict _, h => by simp [sameD] at h
  | .list _, .none, h => by simp [sameD] at h
  | .list _, .bool _, h => by simp [sameD] at h
  | .list _, .int _, h => by simp [sameD] at h
  | .list _, .str _, h => by simp [sameD] at h
  | .list _, .tuple _, h => by simp [sameD] at h
  | .list _, .dict _, h => by simp [sameD] at h
  | .tuple _, .none, h => by simp [sameD] at h
  | .tuple _, .bool _, h => by simp [sameD] at h
  | .tuple _, .int _, h => by simp [sameD] at h
  | .tuple _, .str _, h => by simp [sameD] at h
  | .tuple _, .list _, h => by simp [sameD] at h
  | .tuple _, .dict _, h => by simp [sameD] at h
  | .dict _, _, h => by simp [sameD] at h
theorem sameDs_eq : ∀ {a b : List PyData}, sameDs a b = true → a = b
  | [], [], _ => rfl
  | x :: xs, y :: ys, h => by simp only [sameDs, Bool.and_eq_true] at h; rw [sameD_eq h.1, sameDs_eq h.2]
  | [], _ :: _, h => by simp [sameDs] at h
  | _ :: _, [], h => by simp [sameDs] at h
end
end RN
/-! Lists and dicts of one's own in forms that are quick to reckon with. -/
namespace VL
open PySem PySem.Spec PyProof.Rows L2
noncomputable section
/-! ### lists: the last item first, and how many -/
structure FL where
  n : Nat
  r : List D
  h : r.length = n
def FL.l (v : FL) : List D := v.r.reverse
def FL.nil : FL := ⟨0, [], rfl⟩
def FL.push (v : FL) (d : D) : FL := ⟨Nat.succ v.n, d :: v.r, congrArg Nat.succ v.h⟩
def FL.of (ds : List D) : FL := ⟨ds.length, ds.reverse, List.length_reverse ..⟩
@[simp] theorem FL.l_of (ds : List D) : (FL.of ds).l = ds := List.reverse_reverse _
@[simp] theorem FL.l_push (v : FL) (d : D) : (v.push d).l = v.l ++ [d] := List.reverse_cons ..
theorem FL.len (v : FL) : v.l.length = v.n := by unfold FL.l; rw [List.length_reverse, v.h]
/-! ### tables of keys -/
inductive TR where
  | e
  | n (b : List (List Key × D)) (l r : TR)
def ibeq (i j : Int) : Bool := @Int.rec (fun _ => Bool) (fun a => @Int.rec (fun _ => Bool) (fun b => Nat.beq a b) (fun _ => false) j) (fun a => @Int.rec (fun _ => Bool) (fun _ => false) (fun b => Nat.beq a b) j) i
theorem ibeq_iff (i j : Int) : ibeq i j = true ↔ i = j := by
  cases i with
  | ofNat a => cases j with
    | ofNat b => exact ⟨fun h => congrArg _ (Nat.eq_of_beq_eq_true h), fun h => by injection h with h; subst h; exact Nat.beq_refl a⟩
    | negSucc b => exact ⟨fun h => Bool.noConfusion h, fun h => by cases h⟩
  | negSucc a => cases j with
    | ofNat b => exact ⟨fun h => Bool.noConfusion h, fun h => by cases h⟩
    | negSucc b => exact ⟨fun h => congrArg _ (Nat.eq_of_beq_eq_true h), fun h => by injection h with h; subst h; exact Nat.beq_refl a⟩
def eqKey (x y : Key) : Bool := @Sum.rec Int Str (fun _ => Bool) (fun i => @Sum.rec Int Str (fun _ => Bool) (fun j => ibeq i j) (fun _ => false) y) (fun a => @Sum.rec Int Str (fun _ => Bool) (fun _ => false) (fun b => decide (a = b)) y) x
theorem eqKey_iff (x y : Key) : eqKey x y = true ↔ x = y := by
  cases x with
  | inl i => cases y with
    | inl j => exact (ibeq_iff i j).trans ⟨fun h => congrArg _ h, fun h => by injection h⟩
    | inr b => exact ⟨fun h => Bool.noConfusion h, fun h => by cases h⟩
  | inr a => cases y with
    | inl j => exact ⟨fun h => Bool.noConfusion h, fun h => by cases h⟩
    | inr b => exact ⟨fun h => congrArg _ (of_decide_eq_true h), fun h => by injection h with h; exact decide_eq_true h⟩
def eqKeys (x : List Key) : List Key → Bool := @List.rec Key (fun _ => List Key → Bool) (fun y => lcs true (fun _ _ => false) y) (fun a _ ih y => lcs false (fun b r => bcs (eqKey a b) (ih r) false) y) x
theorem eqKeys_iff : ∀ x y : List Key, eqKeys x y = true ↔ x = y
  | [], [] => ⟨fun _ => rfl, fun _ => rfl⟩
  | [], _ :: _ => ⟨fun h => Bool.noConfusion h, fun h => by cases h⟩
  | _ :: _, [] => ⟨fun h => Bool.noConfusion h, fun h => by cases h⟩
  | a :: x, b :: y => by
    show bcs (eqKey a b) (eqKeys x y) false = true ↔ _
    rw [bcs_is, List.cons.injEq, ← eqKey_iff, ← eqKeys_iff x y]
    cases eqKey a b <;> simp
theorem eqK_is {α : Type} (x y : List Key) (t e : α) : bcs (eqKeys x y) t e = if x = y then t else e := by
  rw [bcs_is]
  by_cases h : x = y
  · rw [if_pos h, if_pos ((eqKeys_iff x y).mpr h)]
  · rw [if_neg h, if_neg (fun q => h ((eqKeys_iff x y).mp q))]
def lookB (k : List Key) (b : List (List Key × D)) : Option D := @List.rec _ (fun _ => Option D) none (fun p _ ih => bcs (eqKeys p.1 k) (some p.2) ih) b
def putB (k : List Key) (v : D) (b : List (List Key × D)) : List (List Key × D) := @List.rec _ (fun _ => List (List Key × D)) [(k, v)] (fun p r ih => bcs (eqKeys p.1 k) ((k, v) :: r) (p :: ih)) b
theorem look_putB (k k' : List Key) (v : D) : ∀ b, lookB k' (putB k v b) = if k' = k then some v else lookB k' b
  | [] => by
    show bcs (eqKeys k k') (some v) none = if k' = k then some v else none
    rw [eqK_is]
    by_cases c : k' = k
    · rw [if_pos c.symm, if_pos c]
    · rw [if_neg (fun e => c e.symm), if_neg c]
  | p :: r => by
    have ih := look_putB k k' v r
    show lookB k' (bcs (eqKeys p.1 k) ((k, v) :: r) (p :: putB k v r)) = if k' = k then some v else bcs (eqKeys p.1 k') (some p.2) (lookB k' r)
    rw [eqK_is, eqK_is]
    by_cases h : p.1 = k
    · rw [if_pos h]
      show bcs (eqKeys k k') (some v) (lookB k' r) = _
      rw [eqK_is]
      by_cases c : k' = k
      · rw [if_pos c.symm, if_pos c]
      · rw [if_neg (fun e => c e.symm), if_neg c, if_neg (fun e => c (e.symm.trans h))]
    · rw [if_neg h]
      show bcs (eqKeys p.1 k') (some p.2) (lookB k' (putB k v r)) = _
      rw [eqK_is, ih]
      by_cases c : k' = k
      · rw [if_neg (fun e => h (e.trans c)), if_pos c, if_pos c]
      · rw [if_neg c, if_neg c]
def hashK (k : List Key) : Nat := @List.rec Key (fun _ => Nat) 0 (fun a _ ih => Nat.add (Nat.mul ih 64) (@Sum.rec Int Str (fun _ => Nat) (fun i => @Int.rec (fun _ => Nat) (fun i => Nat.mod i 64) (fun i => Nat.mod i 64) i) (fun x => Nat.mod x.length 64) a)) k
def gR (t : TR) : Nat → List Key → Option D := @TR.rec (fun _ => Nat → List Key → Option D) (fun _ _ => none) (fun b _ _ hl hr c k => bcs (Nat.beq c 0) (lookB k b) (bcs (Nat.beq (Nat.mod c 2) 1) (hl (Nat.div c 2) k) (hr (Nat.sub (Nat.div c 2) 1) k))) t
def mkP (k : List Key) (v : D) (f : Nat) : Nat → TR := @Nat.rec (fun _ => Nat → TR) (fun _ => .e) (fun _ ih c => bcs (Nat.beq c 0) (.n [(k, v)] .e .e) (bcs (Nat.beq (Nat.mod c 2) 1) (.n [] (ih (Nat.div c 2)) .e) (.n [] .e (ih (Nat.sub (Nat.div c 2) 1))))) f
def pR (k : List Key) (v : D) (t : TR) : Nat → TR := @TR.rec (fun _ => Nat → TR) (fun c => mkP k v (Nat.succ c) c) (fun b l r hl hr c => bcs (Nat.beq c 0) (.n (putB k v b) l r) (bcs (Nat.beq (Nat.mod c 2) 1) (.n b (hl (Nat.div c 2)) r) (.n b l (hr (Nat.sub (Nat.div c 2) 1))))) t
theorem gR_n (b : List (List Key × D)) (l r : TR) (c : Nat) (k : List Key) : gR (.n b l r) c k = if Nat.beq c 0 = true then lookB k b else if Nat.beq (Nat.mod c 2) 1 = true then gR l (Nat.div c 2) k else gR r (Nat.sub (Nat.div c 2) 1) k := by
  rw [← bcs_is (Nat.beq (Nat.mod c 2) 1), ← bcs_is]; rfl
theorem gR_e (c : Nat) (k : List Key) : gR .e c k = none := rfl
theorem get_mkP (k : List Key) (v : D) : ∀ (f c c' : Nat) (k' : List Key), c < f → (k' = k → c' = c) → gR (mkP k v f c) c' k' = if k' = k then some v else none
  | 0, c, _, _, h, _ => absurd h (Nat.not_lt_zero _)
  | f + 1, c, c', k', h, e => by
    have lt : ∀ {x : Nat}, ¬ c = 0 → x ≤ Nat.div c 2 → x < f := fun {x} h0 hx => by
      have hx : x ≤ c / 2 := hx
      omega
    have lt2 : ¬ c = 0 → Nat.sub (Nat.div c 2) 1 < f := fun h0 => lt h0 (Nat.sub_le _ _)
    show gR (bcs (Nat.beq c 0) (.n [(k, v)] .e .e) (bcs (Nat.beq (Nat.mod c 2) 1) (.n [] (mkP k v f (Nat.div c 2)) .e) (.n [] .e (mkP k v f (Nat.sub (Nat.div c 2) 1))))) c' k' = _
    rw [bcs_is, bcs_is]
    by_cases h0 : c = 0
    · subst h0
      rw [if_pos (Nat.beq_refl 0), gR_n]
      by_cases hk : k' = k
      · rw [e hk, if_pos (Nat.beq_refl 0), if_pos hk]
        exact (look_putB k k' v []).trans (if_pos hk)
      · rw [if_neg hk]
        split
        · exact (look_putB k k' v []).trans (if_neg hk)
        · split <;> rfl
    · rw [if_neg (fun e => h0 (Nat.eq_of_beq_eq_true e))]
      by_cases hk : k' = k
      · obtain rfl := e hk
        rw [if_pos hk]
        split
        · rename_i h2
          rw [gR_n, if_neg (fun e => h0 (Nat.eq_of_beq_eq_true e)), if_pos h2, get_mkP k v f _ _ k' (lt h0 (Nat.le_refl _)) (fun _ => rfl), if_pos hk]
        · rename_i h2
          rw [gR_n, if_neg (fun e => h0 (Nat.eq_of_beq_eq_true e)), if_neg h2, get_mkP k v f _ _ k' (lt2 h0) (fun _ => rfl), if_pos hk]
      · rw [if_neg hk]
        split
        · rw [gR_n]
          split
          · rfl
          · split
            · rw [get_mkP k v f _ _ k' (lt h0 (Nat.le_refl _)) (fun q => (hk q).elim), if_neg hk]
            · rfl
        · rw [gR_n]
          split
          · rfl
          · split
            · rfl
            · rw [get_mkP k v f _ _ k' (lt2 h0) (fun q => (hk q).elim), if_neg hk]
theorem get_pR (k k' : List Key) (v : D) : ∀ (t : TR) (c c' : Nat), (k' = k → c' = c) → gR (pR k v t c) c' k' = if k' = k then some v else gR t c' k'
  | .e, c, c', e => get_mkP k v _ _ _ _ (Nat.lt_succ_self c) e
  | .n b l r, c, c', e => by
    show gR (bcs (Nat.beq c 0) (.n (putB k v b) l r) (bcs (Nat.beq (Nat.mod c 2) 1) (.n b (pR k v l (Nat.div c 2)) r) (.n b l (pR k v r (Nat.sub (Nat.div c 2) 1))))) c' k' = _
    rw [bcs_is, bcs_is, gR_n]
    by_cases hk : k' = k
    · obtain rfl := e hk
      rw [if_pos hk]
      split
      · rename_i h0; rw [gR_n, if_pos h0, look_putB, if_pos hk]
      · rename_i h0
        split
        · rename_i h2; rw [gR_n, if_neg h0, if_pos h2, get_pR k k' v l _ _ (fun _ => rfl), if_pos hk]
        · rename_i h2; rw [gR_n, if_neg h0, if_neg h2, get_pR k k' v r _ _ (fun _ => rfl), if_pos hk]
    · rw [if_neg hk]
      split
      · rw [gR_n]
        split
        · rw [look_putB, if_neg hk]
        · rfl
      · split
        · rw [gR_n]
          split
          · rfl
          · split
            · rw [get_pR k k' v l _ _ (fun q => (hk q).elim), if_neg hk]
            · rfl
        · rw [gR_n]
          split
          · rfl
          · split
            · rfl
            · rw [get_pR k k' v r _ _ (fun q => (hk q).elim), if_neg hk]
def getT (t : TR) (k : List Key) : Option D := gR t (hashK k) k
def putT (t : TR) (k : List Key) (v : D) : TR := pR k v t (hashK k)
theorem get_putT (t : TR) (k k' : List Key) (v : D) : getT (putT t k v) k' = if k' = k then some v else getT t k' := get_pR k k' v t _ _ fun h => by rw [h]
/-! ### dicts with their keys in order -/
structure TD where
  n : Nat
  ks : List (List Key)
  t : TR
  hn : ks.length = n
  nd : ks.Nodup
  mem : ∀ k, k ∈ ks ↔ (getT t k).isSome = true
def keyQ (d : D) : Option Key := dcs none (fun _ => none) (fun i => some (.inl i)) (fun x => some (.inr x)) (fun _ => none) (fun _ => none) (fun _ => none) d
theorem keyQ_is (d : D) : keyQ d = keyOf d := by cases d <;> rfl
def oq {κ α : Type} (z : α) (f : κ → α) (o : Option κ) : α := @Option.rec κ (fun _ => α) z f o
def keyLQ (ds : List D) : Option (List Key) := @List.rec D (fun _ => Option (List Key)) (some []) (fun d _ ih => oq none (fun k => oq none (fun ks => some (k :: ks)) ih) (keyQ d)) ds
theorem keyLQ_is (ds : List D) : keyLQ ds = keyList ds := by
  induction ds with
  | nil => rfl
  | cons d r ih =>
    show oq none (fun k => oq none (fun ks => some (k :: ks)) (keyLQ r)) (keyQ d) = _
    rw [ih, keyQ_is]
    rw [show keyList (d :: r) = (match keyOf d, keyList r with | some k, some ks => some (k :: ks) | _, _ => none) from rfl]
    cases keyOf d <;> cases keyList r <;> rfl
def keysQ (d : D) : Option (List Key) := dcs none (fun _ => none) (fun _ => none) (fun _ => none) (fun _ => none) keyLQ (fun _ => none) d
theorem keysQ_is (d : D) : keysQ d = keysOf d := by
  cases d with
  | tuple ks => exact keyLQ_is ks
  | _ => rfl
def allIK (q : List Key) : Bool := @List.rec Key (fun _ => Bool) true (fun a _ ih => @Sum.rec Int Str (fun _ => Bool) (fun _ => ih) (fun _ => false) a) q
theorem allIK_is (q : List Key) : allIK q = q.all isIK := by
  induction q with
  | nil => rfl
  | cons a r ih =>
    rw [List.all_cons, ← ih]
    cases a <;> rfl
def TD.l (x : TD) : List (List Key × D) := x.ks.reverse.map fun k => (k, (getT x.t k).getD .none)
def TD.nil : TD := ⟨0, [], .e, rfl, .nil, fun k => by simp [getT, gR_e]⟩
theorem TD.len (x : TD) : x.l.length = x.n := by unfold TD.l; rw [List.length_map, List.length_reverse, x.hn]
theorem valP_map (f : List Key → D) (q : List Key) : ∀ ks : List (List Key), (q ∈ ks → valP (ks.map fun k => (k, f k)) q = some (f q)) ∧ (q ∉ ks → valP (ks.map fun k => (k, f k)) q = none)
  | [] => ⟨fun h => (List.not_mem_nil h).elim, fun _ => rfl⟩
  | k :: ks => by
    obtain ⟨i1, i2⟩ := valP_map f q ks
    unfold valP at i1 i2 ⊢
    rw [List.map_cons, List.find?_cons]
    by_cases c : k = q
    · subst c; rw [decide_eq_true rfl]; exact ⟨fun _ => rfl, fun h => (h (List.mem_cons_self ..)).elim⟩
    · rw [decide_eq_false c]
      refine ⟨fun h => i1 ?_, fun h => i2 fun m => h (List.mem_cons_of_mem _ m)⟩
      rcases List.mem_cons.mp h with h | h
      · exact (c h.symm).elim
      · exact h
theorem TD.val (x : TD) (q : List Key) : valP x.l q = getT x.t q := by
  unfold TD.l
  obtain ⟨h1, h2⟩ := valP_map (fun k => (getT x.t k).getD .none) q x.ks.reverse
  rw [List.mem_reverse, x.mem q] at h1 h2
  cases h : getT x.t q with
  | none => exact h2 (by rw [h]; decide)
  | some d => rw [h1 (by rw [h]; rfl), h]; rfl
def TD.add (x : TD) (k : List Key) (v : D) (h : getT x.t k = none) : TD := ⟨Nat.succ x.n, k :: x.ks, putT x.t k v, congrArg Nat.succ x.hn, List.nodup_cons.mpr ⟨fun m => Bool.noConfusion ((congrArg Option.isSome h).symm.trans ((x.mem k).mp m)), x.nd⟩, fun q => by
    rw [get_putT, List.mem_cons, x.mem q]
    by_cases c : q = k
    · rw [if_pos c]; exact ⟨fun _ => rfl, fun _ => .inl c⟩
    · rw [if_neg c]; exact ⟨fun h => h.elim (fun e => (c e).elim) id, .inr⟩⟩
def TD.old (x : TD) (k : List Key) (v d : D) (h : getT x.t k = some d) : TD := ⟨x.n, x.ks, putT x.t k v, x.hn, x.nd, fun q => by
    rw [get_putT, x.mem q]
    by_cases c : q = k
    · subst c; rw [if_pos rfl, h]; simp
    · rw [if_neg c]⟩
def TD.putO (x : TD) (k : List Key) (v : D) (o : Option D) : getT x.t k = o → TD := @Option.rec D (fun o => getT x.t k = o → TD) (fun h => x.add k v h) (fun d h => x.old k v d h) o
def TD.put (x : TD) (k : List Key) (v : D) : TD := x.putO k v (getT x.t k) rfl
theorem TD.put_cases (x : TD) (k : List Key) (v : D) : (x.put k v).t = putT x.t k v ∧ (((getT x.t k).isSome = true ∧ (x.put k v).n = x.n ∧ (x.put k v).ks = x.ks) ∨ ((getT x.t k).isSome = false ∧ (x.put k v).n = x.n + 1 ∧ (x.put k v).ks = k :: x.ks)) := by
  have key : ∀ (o : Option D) (h : getT x.t k = o), (x.putO k v o h).t = putT x.t k v ∧ ((o.isSome = true ∧ (x.putO k v o h).n = x.n ∧ (x.putO k v o h).ks = x.ks) ∨ (o.isSome = false ∧ (x.putO k v o h).n = x.n + 1 ∧ (x.putO k v o h).ks = k :: x.ks)) := by
    intro o h
    cases o with
    | none => exact ⟨rfl, .inr ⟨rfl, rfl, rfl⟩⟩
    | some d => exact ⟨rfl, .inl ⟨rfl, rfl, rfl⟩⟩
  exact key _ rfl
theorem TD.l_put (x : TD) (k : List Key) (v : D) : (x.put k v).l = putP x.l k v := by
  obtain ⟨ht, hc⟩ := TD.put_cases x k v
  unfold putP
  have hany : (x.l.any fun p => decide (p.1 = k)) = (getT x.t k).isSome := by
    rw [Bool.eq_iff_iff, ← x.mem k, List.any_eq_true]
    unfold TD.l
    constructor
    · rintro ⟨p, hp, e⟩
      obtain ⟨a, ha, rfl⟩ := List.mem_map.mp hp
      have := of_decide_eq_true e
      dsimp only at this
      subst this
      exact List.mem_reverse.mp ha
    · exact fun h => ⟨_, List.mem_map.mpr ⟨k, List.mem_reverse.mpr h, rfl⟩, decide_eq_true rfl⟩
  rw [hany]
  rcases hc with ⟨h, hn, hks⟩ | ⟨h, hn, hks⟩
  · rw [if_pos h]
    unfold TD.l
    rw [hks, ht]
    rw [List.map_map]
    refine List.map_congr_left fun q hq => ?_
    show (q, (getT (putT x.t k v) q).getD .none) = if q = k then (q, v) else (q, (getT x.t q).getD .none)
    rw [get_putT]
    by_cases c : q = k
    · rw [if_pos c, if_pos c]; rfl
    · rw [if_neg c, if_neg c]
  · rw [if_neg (by rw [h]; decide)]
    unfold TD.l
    rw [hks, ht]
    rw [List.reverse_cons, List.map_append]
    congr 1
    · refine List.map_congr_left fun q hq => ?_
      show (q, (getT (putT x.t k v) q).getD .none) = _
      rw [get_putT, if_neg]
      intro c
      subst c
      rw [List.mem_reverse, x.mem q, h] at hq
      cases hq
    · show [(k, (getT (putT x.t k v) k).getD .none)] = _
      rw [get_putT, if_pos rfl]; rfl
end
end VL
/-! The plain side over the quick forms. -/
namespace VL
open PySem PySem.Spec PyProof.Rows L2
noncomputable section
variable {α β γ S S' L M ρ : Type} {s s0 s1 s2 s3 : List Sl} {X : Exc → Nat → Prop} {J : Jx S L}
/-- what t' gives, t gives too -/
def Out.le (t' t : Out α) : Prop := ∀ (P : α → Prop) (Y : Exc → Prop), t'.post P Y → t.post P Y
theorem Out.le.refl (t : Out α) : t.le t := fun _ _ h => h
theorem Out.le.trans {a b c : Out α} (h : a.le b) (g : b.le c) : a.le c := fun P Y q => g P Y (h P Y q)
theorem Out.le_ok {t : Out α} {a : α} (h : t = .ok a) : (Out.ok a).le t := by subst h; exact .refl _
theorem Out.le_bad (t : Out α) : (Out.bad : Out α).le t := fun _ _ h => h.elim
theorem Out.le.bind {t : Out α} {k k' : α → Out β} (h : ∀ a, (k' a).le (k a)) : (t.bind k').le (t.bind k) := by
  cases t with
  | ok a => exact h a
  | er e => exact .refl _
  | bad => exact .refl _
theorem ROz.le {w : WE Rz} {t t' : Out D} (h : t'.le t) (r : ROz w s s1 t X) : ROz w s s1 t' X := fun c P q => r c P (h _ _ q)
theorem RO.le {w : WE ρ} {t t' : Out α} {em : α → ρ} (h : t'.le t) (r : RO w s s1 t em X) : RO w s s1 t' em X := fun c P q => r c P (h _ _ q)
theorem So_le {k : α → So S L} {t t' : Out α} (h : t'.le t) {E : En} {Y : Exc → Nat → Prop} {c : Nat} (q : (t'.so k).post E J Y c) : (t.so k).post E J Y c := by
  cases t' with
  | ok a =>
    have := h (fun b => b = a) (fun _ => False) rfl
    cases t with
    | ok b => obtain rfl := this; exact q
    | er e => exact this.elim
    | bad => exact this.elim
  | er e =>
    have := h (fun _ => False) (fun x => x = e) rfl
    cases t with
    | ok b => exact this.elim
    | er x => obtain rfl := this; exact q
    | bad => exact this.elim
  | bad => exact q.elim
/-! ### lists -/
def oFL (t : Out (List D)) : Out FL := t.bind fun ds => .ok (FL.of ds)
def pFL (t : Pn (List D)) : Pn FL := t.bind fun ds => Pn.ret (FL.of ds)
theorem r_FL {w : WE Rz} {t : Out (List D)} (h : RO w s s1 t .ls X) : RO w s s1 (oFL t) (fun v : FL => .ls v.l) X := fun c P q => h c P ((Out.post_bind q).imp fun ds p => by
  have p : P (.ls (FL.of ds).l) ⟨s1, c⟩ := p
  rwa [FL.l_of] at p)
theorem p_FL {w : WE Rz} {t : Pn (List D)} (h : PO w s s1 t .ls) : PO w s s1 (pFL t) (fun v : FL => .ls v.l) := fun c Q P q k => h c _ P q fun ds c' z => by
  have := k _ _ z
  have this : P (.ls (FL.of ds).l) ⟨s1, c'⟩ := this
  rwa [FL.l_of] at this
def KdFL : Kd FL := ⟨fun v => .ls v.l, fun v => .lst v.l, fun _ => rfl⟩
theorem rs_setF {i : Nat} {w : WE Rz} {b : WS} {t : Out α} {k : α → So S L} {f : α → List Sl} (K : Kd α) (h : RO w s s1 t K.z X) (e : ∀ d, s1.set i (K.l d) = f d) (hb : ∀ d, RS b (f d) (k d) J X) : RS (wSeq (wSetZ i w) b) s (t.so k) J X := fun E c q => h c _ (by
  cases t with
  | ok d =>
    show b E ⟨s1.set i (K.z d).sl, c⟩
    rw [K.e, e]
    exact hb d E c q
  | er e => exact q
  | bad => exact q)
theorem pj_setF {i : Nat} {w : WE Rz} {b : WS} {t : Pn α} {k : α → Pn (So S L)} {f : α → List Sl} (K : Kd α) (h : PO w s s1 t K.z) (e : ∀ d, s1.set i (K.l d) = f d) (hb : ∀ d, PSj b (f d) (k d) J X) : PSj (wSeq (wSetZ i w) b) s (t.bind k) J X := fun E c Q q kk => h c _ _ q fun a c' z => by
  show b E ⟨s1.set i (K.z a).sl, c'⟩
  rw [K.e, e]
  exact hb a E c' _ z kk
def flApp (v : FL) (d : D) : Out FL := bcs (Nat.blt v.n 16777216) (.ok (v.push d)) .bad
theorem flApp_is (v : FL) (d : D) : (if v.l.length < 16777216 then Out.ok (v.l ++ [d]) else .bad) = (flApp v d).bind fun v => .ok v.l := by
  unfold flApp
  rw [FL.len]
  by_cases h : v.n < 16777216
  · rw [if_pos h, show Nat.blt v.n 16777216 = true from Nat.ble_eq.mpr h]
    show _ = Out.ok (v.push d).l
    rw [FL.l_push]
  · rw [if_neg h]
    cases hb : Nat.blt v.n 16777216 with
    | true => exact (h (Nat.ble_eq.mp hb)).elim
    | false => rfl
theorem rs_appendF {i : Nat} {w : WE Rv} {b : WS} {v : FL} {t : Out D} {k : FL → So S L} {g : FL → List Sl} (hx : s.getD i .no = .lst v.l) (hx1 : s1.getD i .no = .lst v.l) (h : RO w s s1 t .dat X) (e : ∀ d : FL, s1.set i (.lst d.l) = g d) (hb : ∀ d, RS b (g d) (k d) J X) :
    RS (wSeq (wAppend i w) b) s ((t.bind fun d => flApp v d).so k) J X := fun E c q => by
  refine ⟨⟨_, hx⟩, h c _ ?_⟩
  cases t with
  | ok y =>
    show (match Rv.dat y, (⟨s1, c⟩ : Ga).at i with | .dat d, .lst ds => ds.length < 16777216 ∧ b E ((⟨s1, c⟩ : Ga).set i (.lst (ds ++ [d]))) | _, _ => False)
    rw [show (⟨s1, c⟩ : Ga).at i = .lst v.l from hx1]
    have q : ((flApp v y).so k).post E J X c := q
    unfold flApp at q
    cases hl : Nat.blt v.n 16777216 with
    | true =>
      rw [hl] at q
      refine ⟨by rw [FL.len]; exact Nat.ble_eq.mp hl, ?_⟩
      show b E ⟨s1.set i (.lst (v.l ++ [y])), c⟩
      rw [← FL.l_push, e]
      exact hb _ E c q
    | false => rw [hl] at q; exact q.elim
  | er e => exact q
  | bad => exact q
theorem pj_appendF {i : Nat} {w : WE Rv} {b : WS} {v : FL} {t : Pn D} {k : FL → Pn (So S L)} {g : FL → List Sl} (hx : s.getD i .no = .lst v.l) (hx1 : s1.getD i .no = .lst v.l) (h : PO w s s1 t .dat) (e : ∀ d : FL, s1.set i (.lst d.l) = g d) (hb : ∀ d, PSj b (g d) (k d) J X) :
    PSj (wSeq (wAppend i w) b) s (t.bind fun d => (Pn.lift (flApp v d)).bind k) J X := fun E c Q q kk => by
  refine ⟨⟨_, hx⟩, h c _ _ q fun d c' z => ?_⟩
  show (match Rv.dat d, (⟨s1, c'⟩ : Ga).at i with | .dat d, .lst ds => ds.length < 16777216 ∧ b E ((⟨s1, c'⟩ : Ga).set i (.lst (ds ++ [d]))) | _, _ => False)
  rw [show (⟨s1, c'⟩ : Ga).at i = .lst v.l from hx1]
  have z : (flApp v d).post (fun a => k a c' Q) fun _ => False := z
  unfold flApp at z
  cases hl : Nat.blt v.n 16777216 with
  | true =>
    rw [hl] at z
    refine ⟨by rw [FL.len]; exact Nat.ble_eq.mp hl, ?_⟩
    show b E ⟨s1.set i (.lst (v.l ++ [d])), c'⟩
    rw [← FL.l_push, e]
    exact hb _ E c' _ z kk
  | false => rw [hl] at z; exact z.elim
def flPop (v u : FL) (d : D) : Out (FL × FL) := bif Nat.blt v.n 16777216 then (dPop u.l d).noer.bind fun p => .ok (v.push p.1, FL.of p.2) else .bad
theorem flPop_is (v u : FL) (d : D) {k : FL → FL → So S L} {k' : List D → List D → So S L} (hk : ∀ x y : FL, k x y = k' x.l y.l) : ((flPop v u d).so fun p => k p.1 p.2) = (if v.l.length < 16777216 then (dPop u.l d).noer else .bad).so fun p => k' (v.l ++ [p.1]) p.2 := by
  unfold flPop
  rw [FL.len]
  by_cases h : v.n < 16777216
  · rw [if_pos h, show Nat.blt v.n 16777216 = true from Nat.ble_eq.mpr h]
    show Out.so (Out.bind _ _) _ = _
    cases (dPop u.l d).noer with
    | ok p =>
      show k (v.push p.1) (FL.of p.2) = k' _ _
      rw [hk, FL.l_push, FL.l_of]
    | er e => rfl
    | bad => rfl
  · rw [if_neg h]
    cases hb : Nat.blt v.n 16777216 with
    | true => exact (h (Nat.ble_eq.mp hb)).elim
    | false => rfl
def putFLO (v : FL) (k d : D) : Out FL := (putLO v.l k d).bind fun ds => .ok (FL.of ds)
def OwFL : Own FL where
  l := fun v => .lst v.l
  own := fun _ => trivial
  put := putFLO
  get := fun v k => getLO v.l k
  putI := fun v k d P h => OwL.putI v.l k d P ((Out.post_bind h).imp fun ds p => by
    have p : P (.lst (FL.of ds).l) := p
    rwa [FL.l_of] at p)
  getI := fun v k P h => OwL.getI v.l k P h
/-! ### dicts -/
def KdTD : Kd TD := ⟨fun v => .dt v.l, fun v => .dt v.l, fun _ => rfl⟩
theorem r_newTD : RO wNewT s s (Out.ok TD.nil) (fun v : TD => .dt v.l) X := fun _ _ h => h
def putTDO (x : TD) (k d : D) : Out TD := oq .bad (fun q => bcs (allIK q) (bcs (Nat.blt x.n 16777216) (.ok (x.put q d)) .bad) .bad) (keysQ k)
theorem putTDO_def (x : TD) (k d : D) : putTDO x k d = match keysOf k with | some q => bif q.all isIK && Nat.blt x.n 16777216 then .ok (x.put q d) else .bad | none => .bad := by
  unfold putTDO
  rw [keysQ_is]
  cases keysOf k with
  | none => rfl
  | some q =>
    show bcs (allIK q) (bcs (Nat.blt x.n 16777216) (Out.ok (x.put q d)) Out.bad) Out.bad = (bif q.all isIK && Nat.blt x.n 16777216 then Out.ok (x.put q d) else Out.bad)
    rw [allIK_is]
    cases q.all isIK <;> cases Nat.blt x.n 16777216 <;> rfl
def putTDO' (x : TD) (k d : D) : Out TD := match keysOf k with | some q => bif q.all isIK && Nat.blt x.n 16777216 then .ok (x.put q d) else .bad | none => .bad
def getTDO (x : TD) (k : D) : Out D := oq .bad (fun q => oq .bad .ok (getT x.t q)) (keysQ k)
theorem getTDO_def (x : TD) (k : D) : getTDO x k = match keysOf k with | some q => (match getT x.t q with | some v => .ok v | none => .bad) | none => .bad := by
  unfold getTDO
  rw [keysQ_is]
  cases keysOf k with
  | none => rfl
  | some q =>
    dsimp only
    show oq Out.bad Out.ok (getT x.t q) = _
    cases getT x.t q <;> rfl
def getTDO' (x : TD) (k : D) : Out D := match keysOf k with | some q => (match getT x.t q with | some v => .ok v | none => .bad) | none => .bad
theorem blt_iff {n m : Nat} : Nat.blt n m = true ↔ n < m := Iff.of_eq Nat.ble_eq
def OwTD : Own TD where
  l := fun x => .dt x.l
  own := fun _ => trivial
  put := putTDO
  get := getTDO
  putI := fun a k d P h => OwT.putI a.l k d P (by
    show (putTO a.l k d).post _ _
    rw [putTDO_def] at h
    unfold putTO
    split at h
    · rename_i q hq
      (try rw [hq])
      cases hb : q.all isIK && Nat.blt a.n 16777216 with
      | false => rw [hb] at h; exact h.elim
      | true =>
        rw [hb] at h
        rw [Bool.and_eq_true, blt_iff] at hb
        (try dsimp only)
        rw [if_pos ⟨hb.1, by rw [TD.len]; exact hb.2⟩]
        have h : P (.dt (a.put q d).l) := h
        rw [TD.l_put] at h
        exact h
    · exact h.elim)
  getI := fun a k P h => OwT.getI a.l k P (by
    show (getTO a.l k).post _ _
    rw [getTDO_def] at h
    unfold getTO
    split at h
    · rename_i q hq
      (try rw [hq])
      (try dsimp only)
      rw [TD.val]
      exact h
    · exact h.elim)
theorem look_dt (l : List (List Key × D)) (y : D) (q : List Key) (h : keysOf y = some q) : lookD (l.map fun p => (tupD p.1, p.2)) y = some (valP l q) := by
  have hk : keyOf y = none := by rw [keysOf_is h]; rfl
  cases l with
  | nil =>
    show (match keyOf y, keysOf y with | none, none => none | _, _ => some none) = _
    rw [hk, h]; rfl
  | cons p r =>
    show (match keyOf (tupD p.1), keyOf y with | some _, some q => _ | none, none => _ | _, _ => _) = _
    rw [hk]
    show (match keysOf y with | some q => _ | none => _) = _
    rw [h]
    exact congrArg some (find_keys (p :: r) q)
def tdIx (x : TD) (y : D) : Out D := getTDO x y
theorem tdIx_le (x : TD) (y : D) : (tdIx x y).le (dIxA (dtD x.l) y).noer := by
  unfold tdIx
  rw [getTDO_def]
  split
  · rename_i q hq
    unfold dIxA dtD
    dsimp only
    rw [look_dt _ _ _ hq, TD.val]
    cases getT x.t q with
    | none => exact Out.le_bad _
    | some v => exact .refl _
  · exact Out.le_bad _
def tdHas (x : TD) (y : D) : Out Bool := oq .bad (fun q => .ok (oq false (fun _ => true) (getT x.t q))) (keysQ y)
theorem tdHas_def (x : TD) (y : D) : tdHas x y = match keysOf y with | some q => .ok (getT x.t q).isSome | none => .bad := by
  unfold tdHas
  rw [keysQ_is]
  cases keysOf y with
  | none => rfl
  | some q =>
    dsimp only
    show Out.ok (oq false (fun _ => true) (getT x.t q)) = _
    cases getT x.t q <;> rfl
def tdHas' (x : TD) (y : D) : Out Bool := match keysOf y with | some q => .ok (getT x.t q).isSome | none => .bad
theorem tdHas_le (x : TD) (y : D) : (tdHas x y).le (dInB y (dtD x.l)) := by
  rw [tdHas_def]
  split
  · rename_i q hq
    unfold dInB dtD
    dsimp only
    rw [look_dt _ _ _ hq, TD.val]
    exact .refl _
  · exact Out.le_bad _
def tdGet2 (x : TD) (y z : D) : Out D := match keysOf y with | some q => bif stayD z then .ok ((getT x.t q).getD z) else .bad | none => .bad
theorem tdGet2_le (x : TD) (y z : D) : (tdGet2 x y z).le (dGet2 (dtD x.l) [y, z]).noer := by
  unfold tdGet2
  split
  · rename_i q hq
    unfold dGet2 dtD
    dsimp only
    rw [look_dt _ _ _ hq, TD.val]
    cases h : stayD z with
    | true => exact .refl _
    | false => exact Out.le_bad _
  · exact Out.le_bad _
theorem r_ixTD {i : Nat} {x : TD} {w : WE D} {u : Out D} (h : s.getD i .no = .dt x.l) (hu : RO w s s1 u id X) : ROz (w2 sIxA (wNameB i) w) s s1 (u.bind fun y => tdIx x y) X :=
  .le (fun P Y q => show (u.bind fun y => (dIxA (dtD x.l) y).noer).post P Y from Out.le.bind (fun y => tdIx_le x y) P Y q) (r_2 s_ixA (r_nameBT h) hu)
theorem r_getTD {i : Nat} {x : TD} {ws : WE (List D)} {u : Out (List D)} (h : s.getD i .no = .dt x.l) (hu : RO ws s s1 u id X) : ROz (wM "dict" sGet2S (wNameB i) ws) s s1 (u.bind fun ds => match ds with | [y, z] => tdGet2 x y z | _ => .bad) X :=
  .le (fun P Y q => show (u.bind fun ds => (dGet2 (dtD x.l) ds).noer).post P Y from Out.le.bind (fun ds => by
    split
    · exact tdGet2_le x _ _
    · exact Out.le_bad _) P Y q) (r_M s_get2 (r_nameBT h) hu)
theorem r_inTD {i : Nat} {x : TD} {w : WE D} {u : Out D} (hu : RO w s s1 u id X) (h : s1.getD i .no = .dt x.l) : ROz (w2 sInA w (wNameB i)) s s1 (u.bind fun y => (tdHas x y).bind fun b => .ok (.bool b)) X :=
  .le (fun P Y q => show (u.bind fun y => (dInA y (dtD x.l)).noer).post P Y from Out.le.bind (fun y => by
    intro P Y q
    have := tdHas_le x y _ _ (Out.post_bind q)
    unfold dInA
    cases e : dInB y (dtD x.l) with
    | ok b => rw [e] at this; exact this
    | er b =>
      exfalso
      unfold dInB dtD at e
      dsimp only at e
      split at e <;> cases e
    | bad => rw [e] at this; exact this) P Y q) (r_2 s_inA hu (r_nameBT h))
theorem r_notInTD {i : Nat} {x : TD} {w : WE D} {u : Out D} (hu : RO w s s1 u id X) (h : s1.getD i .no = .dt x.l) : ROz (w2 sNotInA w (wNameB i)) s s1 (u.bind fun y => (tdHas x y).bind fun b => .ok (.bool (!b))) X :=
  .le (fun P Y q => show (u.bind fun y => (dNotInA y (dtD x.l)).noer).post P Y from Out.le.bind (fun y => by
    intro P Y q
    have := tdHas_le x y _ _ (Out.post_bind q)
    unfold dNotInA
    cases e : dInB y (dtD x.l) with
    | ok b => rw [e] at this; exact this
    | er b =>
      exfalso
      unfold dInB dtD at e
      dsimp only at e
      split at e <;> cases e
    | bad => rw [e] at this; exact this) P Y q) (r_2 s_notInA hu (r_nameBT h))
theorem r_kTD {w : WE Rz} {t : Out TD} (h : RO w s s1 t (fun v : TD => .dt v.l) X) : ROz w s s1 (t.bind fun v => .ok (dtD v.l)) X := fun c P q => h c _ ((Out.post_bind q).imp fun a p => p _ rfl)
/-- a dict comprehension -/
def dcompF (tg : D → Out β) (t : β → Out Bool) (fk fv : β → Out D) (ds : List D) : TD → Out TD := @List.rec D (fun _ => TD → Out TD) .ok (fun d _ ih acc => (tg d).bind fun b => (t b).bind fun c => bcs c ((fk b).bind fun k => (fv b).bind fun e => (putTDO acc k e).bind ih) (ih acc)) ds
theorem dcompF_cons (tg : D → Out β) (t : β → Out Bool) (fk fv : β → Out D) (d : D) (r : List D) (acc : TD) : dcompF tg t fk fv (d :: r) acc = (tg d).bind fun b => (t b).bind fun c => bif c then (fk b).bind fun k => (fv b).bind fun e => (putTDO acc k e).bind fun acc => dcompF tg t fk fv r acc
    else dcompF tg t fk fv r acc := by
  show ((tg d).bind fun b => (t b).bind fun c => bcs c ((fk b).bind fun k => (fv b).bind fun e => (putTDO acc k e).bind (dcompF tg t fk fv r)) (dcompF tg t fk fv r acc)) = _
  exact congrArg (tg d).bind (funext fun b => congrArg (t b).bind (funext fun c => by cases c <;> rfl))
theorem dcompF_le (tg : D → Out β) (t : β → Out Bool) (fk fv : β → Out D) : ∀ (items : List D) (acc : TD) (P : List (List Key × D) → Prop) (Y : Exc → Prop), (dcompF tg t fk fv items acc).post (fun v => P v.l) Y → (dcompO DKt tg t fk fv items acc.l).post P Y
  | [], acc, P, Y, q => q
  | d :: r, acc, P, Y, q => by
    rw [dcompF_cons] at q
    unfold dcompO
    generalize tg d = o1 at q ⊢
    cases o1 with
    | er e => exact q
    | bad => exact q
    | ok b =>
      simp only [Out.ok_bind] at q ⊢
      generalize t b = o2 at q ⊢
      cases o2 with
      | er e => exact q
      | bad => exact q
      | ok c =>
        simp only [Out.ok_bind] at q ⊢
        cases c with
        | false => rw [if_neg (by decide)]; exact dcompF_le tg t fk fv r acc P Y q
        | true =>
          rw [if_pos rfl]
          simp only [cond_true] at q
          generalize fk b = o3 at q ⊢
          cases o3 with
          | er e => exact q
          | bad => exact q
          | ok k =>
            simp only [Out.ok_bind] at q ⊢
            generalize fv b = o4 at q ⊢
            cases o4 with
            | er e => exact q
            | bad => exact q
            | ok e =>
              simp only [Out.ok_bind] at q ⊢
              rw [putTDO_def] at q
              cases hk : keysOf k with
              | none => rw [hk] at q; exact q.elim
              | some kk =>
                rw [hk] at q
                have e1 : DKt.kf k = some kk := hk
                rw [e1]
                dsimp only
                cases hb : kk.all isIK && Nat.blt acc.n 16777216 with
                | false => dsimp only at q; rw [hb] at q; exact q.elim
                | true =>
                  dsimp only at q
                  rw [hb] at q
                  rw [Bool.and_eq_true, blt_iff] at hb
                  have hc : DKt.kok kk = true ∧ acc.l.length < 16777216 := ⟨hb.1, by rw [TD.len]; exact hb.2⟩
                  rw [if_pos hc, ← TD.l_put]
                  exact dcompF_le tg t fk fv r _ P Y q
theorem r_dcompF {vs : List Nat} {wi : WE (List D)} {g : WG} {tw : WE Bool} {wk wv : WE Rv} {t : Out (List D)} {tg : D → Out β} {tt : β → Out Bool} {fk fv : β → Out D} {sw : List Sl} {sb : β → List Sl} (hp : ∀ v ∈ vs, plainSl (s.getD v .no)) (hi : RO wi s s1 t id X) (hw : ∀ c, wipeG ⟨s1, c⟩ vs = ⟨sw, c⟩)
    (hg : RG g sw tg sb) (ht : ∀ b, RO tw (sb b) (sb b) (tt b) id fun _ _ => False) (hk : ∀ b, RO wk (sb b) (sb b) (fk b) .dat fun _ _ => False) (hf : ∀ b, RO wv (sb b) (sb b) (fv b) .dat fun _ _ => False) (hb : ∀ b c, wipeG ⟨sb b, c⟩ vs = ⟨sw, c⟩) (hs : ∀ c, backG ⟨sw, c⟩ ⟨s, c⟩ vs = ⟨s2, c⟩) :
    RO (wDComp DKt vs wi g tw wk wv) s s2 (t.bind fun items => (dcompF tg tt fk fv items TD.nil).noer) (fun v : TD => .dt v.l) X := fun c P q => by
  have r := r_dcompT (X := X) hp hi hw hg ht hk hf hb hs c P
  refine r ?_
  cases t with
  | er e => exact q
  | bad => exact q
  | ok items =>
    simp only [Out.ok_bind] at q ⊢
    have q : (dcompF tg tt fk fv items TD.nil).noer.post (fun v => P (.dt v.l) ⟨s2, c⟩) (X · c) := q
    have := dcompF_le tg tt fk fv items TD.nil (fun l => P (.dt l) ⟨s2, c⟩) (fun _ => False) (noer_post q)
    cases e : dcompO DKt tg tt fk fv items TD.nil.l with
    | ok l => rw [e] at this; rw [show dcompO DKt tg tt fk fv items [] = _ from e]; exact this
    | er x => rw [e] at this; exact this.elim
    | bad => rw [e] at this; exact this.elim
end
end VL
/-! Chains of three and more comparisons. -/
namespace VL
open PySem PySem.Spec PyProof.Rows L2
noncomputable section
section
variable {X : Cx}
structure PCh (X : Cx) (ops : List CmpOp) (cs : List Expr) (t : V → TE) : Prop where
  val : ∀ (pos : Pos) (pins : List (Addr × Obj)) (s : Shared) (σ : L2.St) (H : Hp) (x : V) (v : Value) (Q : VK), Inv X pins σ H s → RelV x v → t x σ H Q → wpAny (model X.prog X.w) X.A (compareChain pos v ops (evalEach cs X.env)) (EP X pins σ Q) X.xe s
  tst : ∀ (pos : Pos) (pins : List (Addr × Obj)) (s : Shared) (σ : L2.St) (H : Hp) (x : V) (v : Value) (Q : Bool → Hp → Prop), Inv X pins σ H s → RelV x v → t x σ H (fun z H' => ∃ k, z = .bl k ∧ Q k H') → wpAny (model X.prog X.w) X.A (testChain pos v ops (evalEach cs X.env)) (TP X pins σ Q) X.xe s
theorem pch_one {op : CmpOp} {r : R2} {c : Expr} {tc : TE} (ho : OpR X (compareOp op) r) (hc : PE X c tc) : PCh X [op] [c] (fun x σ H Q => tc σ H fun y H1 => r x y H1 Q) where
  val := fun pos pins s σ H x v Q I rx q => chain_last (thn (hc.run pins s σ H _ I q) fun w' s4 ⟨z', H4, I4, r4, q4⟩ => ho pins s4 σ H4 x z' v w' Q I4 rx r4 q4)
  tst := fun pos pins s σ H x v Q I rx q => test_last (thn (hc.run pins s σ H _ I q) fun w' s4 ⟨z', H4, I4, r4, q4⟩ => thn (ho pins s4 σ H4 x z' v w' _ I4 rx r4 q4) fun d' s5 ⟨z2, H5, I5, r5, k2, e2, q5⟩ => by
    subst e2
    cases r5
    exact wpAny_truthy_bool ⟨H5, I5, q5⟩)
theorem pch_cons {op op' : CmpOp} {ops : List CmpOp} {r : R2} {b c : Expr} {cs : List Expr} {tb : TE} {t : V → TE} (ho : OpR X (compareOp op) r) (hb : PE X b tb) (h : PCh X (op' :: ops) (c :: cs) t) :
    PCh X (op :: op' :: ops) (b :: c :: cs) (fun x σ H Q => tb σ H fun y H2 => r x y H2 fun z H3 => ∃ k, z = .bl k ∧ (if k = true then t y σ H3 Q else Q (.bl false) H3)) where
  val := fun pos pins s σ H x v Q I rx q => chain_link (thn (hb.run pins s σ H _ I q) fun u s2 ⟨y, H2, I2, r2, q2⟩ =>
    thn (ho pins s2 σ H2 x y v u _ I2 rx r2 q2) fun d s3 ⟨z, H3, I3, r3, k, e, q3⟩ => by
      subst e
      cases r3
      refine wpAny_truthy_bool ?_
      cases k with
      | false => exact ite_ff ⟨.bl false, H3, I3, rfl, q3⟩
      | true => exact ite_tt (h.val pos pins s3 σ H3 y u Q I3 r2 q3))
  tst := fun pos pins s σ H x v Q I rx q => test_link (thn (hb.run pins s σ H _ I q) fun u s2 ⟨y, H2, I2, r2, q2⟩ =>
    thn (ho pins s2 σ H2 x y v u _ I2 rx r2 q2) fun d s3 ⟨z, H3, I3, r3, k, e, q3⟩ => by
      subst e
      cases r3
      refine wpAny_truthy_bool ?_
      cases k with
      | false =>
        obtain ⟨k', e', q'⟩ := q3
        cases e'
        exact ite_ff ⟨H3, I3, q'⟩
      | true => exact ite_tt (h.tst pos pins s3 σ H3 y u Q I3 r2 q3))
theorem pe_chainN {a : Expr} {op op' : CmpOp} {ops : List CmpOp} {b c : Expr} {cs : List Expr} {pos : Pos} {ta : TE} {t : V → TE} (ha : PE X a ta) (h : PCh X (op :: op' :: ops) (b :: c :: cs) t) (hm : lastMarks (op :: op' :: ops) (b :: c :: cs) = false := by with_unfolding_all rfl) :
    PE X (.Compare a (op :: op' :: ops) (b :: c :: cs) pos) (fun σ H Q => ta σ H fun x H1 => t x σ H1 Q) :=
  ⟨fun pins s σ H Q I q => Compare_chain (thn (ha.run pins s σ H _ I q) fun v s1 ⟨x, H1, I1, r1, q1⟩ => h.val pos pins s1 σ H1 x v Q I1 r1 q1) hm⟩
theorem pt_chainN {a : Expr} {op op' : CmpOp} {ops : List CmpOp} {b c : Expr} {cs : List Expr} {pos : Pos} {ta : TE} {t : V → TE} (ha : PE X a ta) (h : PCh X (op :: op' :: ops) (b :: c :: cs) t) (hm : lastMarks (op :: op' :: ops) (b :: c :: cs) = false := by with_unfolding_all rfl) :
    PT X (.Compare a (op :: op' :: ops) (b :: c :: cs) pos) (fun σ H Q => ta σ H fun x H1 => t x σ H1 fun z H' => ∃ k, z = .bl k ∧ Q k H') :=
  ⟨fun pins s σ H Q I q => isTrue_chain (thn (ha.run pins s σ H _ I q) fun v s1 ⟨x, H1, I1, r1, q1⟩ => h.tst pos pins s1 σ H1 x v Q I1 r1 q1) hm⟩
end
/-! ### by data -/
abbrev WC := D → WE Rz
section
variable {X : Cx} {G : Gh}
def wCh1 (s : Sem2) (wc : WE D) : WC := fun x Γ P => wc Γ fun y Γ1 => s x y fun z => P z Γ1
def wChC (s : Sem2) (wb : WE D) (r : WC) : WC := fun x Γ P => wb Γ fun y Γ1 => s x y fun z => match z with
  | .v (.dat (.bool k)) => if k = true then r y Γ1 P else P (.v (.dat (.bool false))) Γ1
  | _ => False
def wChN (wa : WE D) (r : WC) : WE Rz := fun Γ P => wa Γ fun x Γ1 => r x Γ1 P
theorem rzr_back {K : Fg} {G : Gh} {Hs H' Z H : Hp} {O : Ow} {z : Rz} {v : V} (hs : ∀ a, H' a = none → Hs a = none) (h : RzR K G H' Z O H z v) : RzR K G Hs Z O H z v := by
  have fr : ∀ {a : Addr}, Fresh G H' Z O a → Fresh G Hs Z O a := fun f => ⟨hs _ f.1, f.2⟩
  cases z with
  | v r => exact h
  | ls ds => obtain ⟨a, vs, e, f, h1, h2⟩ := h; exact ⟨a, vs, e, fr f, h1, h2⟩
  | ls2 _ => exact h
  | dk ds => obtain ⟨a, vs, e, f, h1, h2⟩ := h; exact ⟨a, vs, e, fr f, h1, h2⟩
  | dt ds => obtain ⟨a, vs, e, f, h1, h2⟩ := h; exact ⟨a, vs, e, fr f, h1, h2⟩
/-- a chain behind a value -/
def liftC (K : Fg) (G : Gh) (w : WC) (x : V) : TE := fun σ H Q => ∃ (d : D) (Γ : Ga) (Z : Hp) (O : Ow) (P : Rz → Ga → Prop), Rel K G Γ Z O σ H ∧ BR K G.PN Z H x d ∧ w d Γ P ∧ ∀ r Γ' v Z' O' H', P r Γ' → Rel K G Γ' Z' O' σ H' → Step G.PN Z O H Z' O' H' → RzR K G H Z' O' H' r v → Q v H'
def ACh (X : Cx) (G : Gh) (ops : List CmpOp) (cs : List Expr) (w : WC) : Prop := PCh X ops cs (liftC X.K G w)
theorem PChi {ops : List CmpOp} {cs : List Expr} {t t' : V → TE} (h : PCh X ops cs t) (i : ∀ x σ H Q, t' x σ H Q → t x σ H Q) : PCh X ops cs t' where
  val := fun pos pins s σ H x v Q I rx q => h.val pos pins s σ H x v Q I rx (i _ _ _ _ q)
  tst := fun pos pins s σ H x v Q I rx q => h.tst pos pins s σ H x v Q I rx (i _ _ _ _ q)
theorem ach_one {op : CmpOp} {r : R2} {sem : Sem2} {c : Expr} {wc : WE D} (ho : OpR X (compareOp op) r) (hp : Pure2 X.K r sem) (hc : AB X G c wc) : ACh X G [op] [c] (wCh1 sem wc) :=
  PChi (pch_one ho hc) fun x σ H Q ⟨d, Γ, Z, O, P, R, b, w, k⟩ => ⟨Γ, Z, O, _, R, w, fun e Γ1 y Z1 O1 H1 p1 R1 S1 b1 =>
    hp G.PN Z1 H1 x y d e _ _ R1.ctx (b.grow S1.zZ S1.hH) b1 p1 fun z v Z' H' pz g rz => k _ _ _ _ _ _ pz (R1.grow g) (S1.trans g.step) (rz.up R1 S1.hN)⟩
theorem ach_cons {op op' : CmpOp} {ops : List CmpOp} {r : R2} {sem : Sem2} {b c : Expr} {cs : List Expr} {wb : WE D} {w : WC} (ho : OpR X (compareOp op) r) (hp : Pure2 X.K r sem) (hb : AB X G b wb) (h : ACh X G (op' :: ops) (c :: cs) w) : ACh X G (op :: op' :: ops) (b :: c :: cs) (wChC sem wb w) :=
  PChi (pch_cons ho hb h) fun x σ H Q ⟨d, Γ, Z, O, P, R, bd, w, k⟩ => ⟨Γ, Z, O, _, R, w, fun e Γ1 y Z1 O1 H1 p1 R1 S1 b1 =>
    hp G.PN Z1 H1 x y d e _ _ R1.ctx (bd.grow S1.zZ S1.hH) b1 p1 fun z v Z' H' pz g rz => by
      have R3 := R1.grow g
      have S3 : Step G.PN Z O H Z' O1 H' := S1.trans g.step
      cases z with
      | v r =>
        cases r with
        | pen => exact pz.elim
        | dat d =>
          cases d with
          | bool c =>
            have : v = .bl c := by
              have b' : DR X.K Z' v (.bool c) := rz
              cases b'; rfl
            refine ⟨c, this, ?_⟩
            cases c with
            | false => exact k _ _ _ _ _ _ pz R3 S3 (.bl false)
            | true =>
              have b2' : BR X.K G.PN Z' H' y e := b1.grow g.zz fun a o h _ => g.hh a o h
              exact ⟨e, Γ1, Z', O1, _, R3, b2', pz, fun r Γ' v Z5 O5 H5 p R5 S5 rr => k _ _ _ _ _ _ p R5 (S3.trans S5) (rzr_back S3.hN rr)⟩
          | _ => exact pz.elim
      | _ => exact pz.elim⟩
theorem chN_of {w : WE D} {r : WC} {σ : L2.St} {H : Hp} {Q : VK} (h : lift X.K G (RzR X.K G) (wChN w r) σ H Q) : lift X.K G (fun _ Z _ H d v => BR X.K G.PN Z H v d) w σ H fun x H1 => liftC X.K G r x σ H1 Q := by
  obtain ⟨Γ, Z, O, P, R, w, k⟩ := h
  exact ⟨Γ, Z, O, _, R, w, fun d Γ1 x Z1 O1 H1 p1 R1 S1 b1 => ⟨d, Γ1, Z1, O1, _, R1, b1, p1, fun r Γ' v Z5 O5 H5 p R5 S5 rr => k _ _ _ _ _ _ p R5 (S1.trans S5) (rzr_back S1.hN rr)⟩⟩
theorem az_chainN {a : Expr} {op op' : CmpOp} {ops : List CmpOp} {b c : Expr} {cs : List Expr} {pos : Pos} {wa : WE D} {w : WC} (ha : AB X G a wa) (h : ACh X G (op :: op' :: ops) (b :: c :: cs) w) (hm : lastMarks (op :: op' :: ops) (b :: c :: cs) = false := by rfl) : AZ X G (.Compare a (op :: op' :: ops) (b :: c :: cs) pos) (wChN wa w) :=
  PEi (pe_chainN ha h hm) fun _ _ _ h => chN_of h
theorem at_chainN {a : Expr} {op op' : CmpOp} {ops : List CmpOp} {b c : Expr} {cs : List Expr} {pos : Pos} {wa : WE D} {w : WC} (ha : AB X G a wa) (h : ACh X G (op :: op' :: ops) (b :: c :: cs) w) (hm : lastMarks (op :: op' :: ops) (b :: c :: cs) = false := by rfl) : AT X G (.Compare a (op :: op' :: ops) (b :: c :: cs) pos) (wBool (wChN wa w)) :=
  PTi (pt_chainN ha h hm) fun _ _ _ h => chN_of (bool_of h)
end
/-! ### the plain side -/
variable {α β γ ρ : Type} {s s0 s1 s2 s3 : List Sl} {X : Exc → Nat → Prop}
def RC (w : WC) (s : List Sl) (f : D → Out D) (X : Exc → Nat → Prop) : Prop := ∀ d, ROz (w d) s s (f d) X
theorem rc_one {sem : Sem2} {op : D → D → Out D} {wc : WE D} {v : Out D} (ho : S2 sem op) (hv : RO wc s s v id X) : RC (wCh1 sem wc) s (fun x => v.bind fun y => (op x y).noer) X := fun d c P q =>
  hv c _ ((Out.post_bind q).imp fun e p => ho _ _ _ (noer_post p))
theorem rc_cons {sem : Sem2} {op : D → D → Out D} {wb : WE D} {v : Out D} {w : WC} {f : D → Out D} (ho : S2 sem op) (hv : RO wb s s v id X) (hr : RC w s f X) : RC (wChC sem wb w) s (fun x => v.bind fun y => (op x y).noer.bind fun k => match k with
  | .bool k => if k = true then f y else .ok (.bool false)
  | _ => .bad) X := fun d c P q =>
  hv c _ ((Out.post_bind q).imp fun b p => ho _ _ _ ((noer_post (Out.post_bind p)).imp fun k p z e => by
    cases k with
    | bool k =>
      obtain rfl := rv_bool e
      dsimp only at p ⊢
      cases k with
      | true => rw [if_pos rfl] at p ⊢; exact hr b c _ p
      | false => rw [if_neg (by decide)] at p ⊢; exact p _ rfl
    | _ => exact p.elim))
def oCh1 (op : D → D → Out D) (v : Out D) (x : D) : Out D := v.bind fun y => (op x y).noer
def oChC (op : D → D → Out D) (v : Out D) (f : D → Out D) (x : D) : Out D := v.bind fun y => (op x y).noer.bind fun k => match k with
  | .bool k => if k = true then f y else .ok (.bool false)
  | _ => .bad
theorem r_chainN {wa : WE D} {t : Out D} {w : WC} {f : D → Out D} (ha : RO wa s s1 t id X) (hr : RC w s1 f X) : ROz (wChN wa w) s s1 (t.bind f) X := fun c P q => ha c _ ((Out.post_bind q).imp fun a p => hr a c _ p)
end
end VL
/-! Slices with a step. -/
namespace HT
open PySem PySem.Spec PyProof.Rows PySem.Calls L2
section
variable {prog : Program} {w : World} {A : Around} {E : Value → Shared → Prop} {s : Shared}
theorem sliceApplied_step {sl : Addr} {vl vu vs : Value} {lo hi : Option Int} {c : Int} {n : Nat} {Q : Int × Int × Nat → Shared → Prop} (hs : s.heap.IsSliceOf sl vl vu vs) (pl : IsPart vl lo) (pu : IsPart vu hi) (ps : IsPart vs (some c)) (hc : c ≠ 0)
    (h : Q ((Builtin.Slice.sliceAdjust lo hi c (n : Int)).1, c, Builtin.Slice.slicePlaces (Builtin.Slice.sliceAdjust lo hi c (n : Int)).1 (Builtin.Slice.sliceAdjust lo hi c (n : Int)).2 c) s) : wpAny (model prog w) A (Builtin.Slice.sliceApplied (.ref sl) (pure (n : Int))) Q E s := by
  obtain ⟨os, hos, hcs, hds⟩ := id hs
  unfold Builtin.Slice.sliceApplied Builtin.Slice.sliceFields
  refine wpAny_bind (wpAny_bind (wpAny_field hos hds (x := vl) rfl (wpAny_bind (wpAny_field hos hds (x := vu) rfl (wpAny_bind (wpAny_field hos hds (x := vs) rfl (wpAny_pure ?_)))))))
  refine wpAny_bind (slicePart_ ps ?_)
  show wpAny _ _ (if (c == 0) = true then _ else _) _ _ s
  rw [if_neg (by simpa using hc)]
  refine wpAny_bind (slicePart_ pl (wpAny_bind (slicePart_ pu (wpAny_bind (wpAny_pure ?_)))))
  exact wpAny_pure h
def stepT {α : Type} (xs : List α) (lo hi : Option Int) (c : Int) : List α := (List.range (Builtin.Slice.slicePlaces (Builtin.Slice.sliceAdjust lo hi c (xs.length : Int)).1 (Builtin.Slice.sliceAdjust lo hi c (xs.length : Int)).2 c)).filterMap fun (m : Nat) => xs[((Builtin.Slice.sliceAdjust lo hi c (xs.length : Int)).1 + (m : Int) * c).toNat]?
theorem getItem_tuple_step {t sl : Addr} {items : Array Value} {vl vu vs : Value} {lo hi : Option Int} {c : Int} {Q : Value → Shared → Prop} (ht : IsTup s.heap t items) (hs : s.heap.IsSliceOf sl vl vu vs) (pl : IsPart vl lo) (pu : IsPart vu hi) (ps : IsPart vs (some c))
    (hc : c ≠ 0) (h1 : c ≠ 1)
    (h : Q (.ref s.heap.objs.size) { s with heap := s.heap.push { cls := .type "tuple", data := .seq (stepT items.toList lo hi c).toArray } })
    (hsz : (stepT items.toList lo hi c).length ≤ sizeLine) : wpAny (model prog w) A (getItem (.ref t) (.ref sl)) Q E s := by
  have htake : sizeOk (.seq (stepT items.toList lo hi c).toArray) := by
    show (stepT items.toList lo hi c).toArray.size ≤ sizeLine
    rw [List.size_toArray]
    exact hsz
  obtain ⟨os, hos, hcs, hds⟩ := id hs
  have hTs : s.TypeIs (.ref sl) "slice" := ⟨os, hos, hcs⟩
  unfold getItem
  try with_reducible refine wpAny_holding ?_
  first | refine wpAny_bind (wpAny_pure ?_) | skip
  refine wpAny_bind (wpAny_sequenceKey ht.typeIs (by decide) ?_)
  refine wpAny_bind (wpAny_callSpecial?_slot (name := Str.ofString "__getitem__") ht.typeIs PyProof.Rows.slot_tuple_getitem
    (wpAny_call_entry PyProof.Rows.slot_tuple_getitem ht.typeIs entry_tuple_getitem ?_ (args_tuple_getitem _ _)))
  show wpAny _ _ (Builtin.Tuple.tupleItemsOf (.ref t) >>= _) _ _ s
  refine wpAny_bind (tupleItemsOf_ ht ?_)
  refine wpAny_bind (wpAny_typeOf hTs ?_)
  rw [if_pos (by decide)]
  refine wpAny_bind (sliceApplied_step hs pl pu ps hc ?_)
  show wpAny _ _ (if ((Builtin.Slice.sliceAdjust lo hi c (items.size : Int)).1 == 0 && c == 1 && (Builtin.Slice.slicePlaces (Builtin.Slice.sliceAdjust lo hi c (items.size : Int)).1 (Builtin.Slice.sliceAdjust lo hi c (items.size : Int)).2 c) == items.size) = true then _ else _) _ _ s
  have hno : ¬ (((Builtin.Slice.sliceAdjust lo hi c (items.size : Int)).1 == 0 && c == 1 && (Builtin.Slice.slicePlaces (Builtin.Slice.sliceAdjust lo hi c (items.size : Int)).1 (Builtin.Slice.sliceAdjust lo hi c (items.size : Int)).2 c) == items.size) = true) := by
    intro q
    rw [Bool.and_eq_true, Bool.and_eq_true] at q
    exact h1 (eq_of_beq q.1.2)
  rw [if_neg hno]
  have e : ((List.range (Builtin.Slice.slicePlaces (Builtin.Slice.sliceAdjust lo hi c (items.size : Int)).1 (Builtin.Slice.sliceAdjust lo hi c (items.size : Int)).2 c)).filterMap fun (m : Nat) => items[((Builtin.Slice.sliceAdjust lo hi c (items.size : Int)).1 + (m : Int) * c).toNat]?).toArray = (stepT items.toList lo hi c).toArray := by
    unfold stepT
    rw [Array.length_toList]
    simp only [Array.getElem?_toList]
  rw [e]
  first
    | exact wpAny_bind (m := Builtin.Tuple.tupleExact _) (wpAny_newObj_type (wpAny_pure ⟨_, rfl, wpAny_pure h⟩) htake)
    | exact wpAny_bind (m := Builtin.Tuple.tupleExact _) (wpAny_newObj_type (wpAny_bind (wpAny_pure (wpAny_pure ⟨_, rfl, wpAny_pure h⟩))) htake)
    | exact wpAny_bind (wpAny_bind (m := Builtin.Tuple.tupleExact _) (wpAny_newObj_type (wpAny_pure (wpAny_pure ⟨_, rfl, wpAny_pure h⟩)) htake))
    | exact wpAny_bind (wpAny_bind (m := Builtin.Tuple.tupleExact _) (wpAny_newObj_type (wpAny_pure ⟨_, rfl, wpAny_pure h⟩) htake))
end
end HT
namespace VL
open PySem PySem.Spec PyProof.Rows L2
noncomputable section
def stepL {α : Type} (xs : List α) (lo hi : Option Int) (c : Int) : List α := (sliceRange (sliceBounds lo hi (some c) xs.length).1 (sliceBounds lo hi (some c) xs.length).2.1 (sliceBounds lo hi (some c) xs.length).2.2).filterMap (xs[·]?)
theorem pick_step (its : List Value) (lo hi : Option Int) (c : Int) : slicePick its.toArray lo hi (some c) = (stepL its lo hi c).toArray := by
  unfold slicePick stepL
  rw [List.size_toArray]
  simp only [List.getElem?_toArray]
theorem stepL_len {α : Type} (xs : List α) (lo hi : Option Int) (c : Int) (its : List Value) (e : xs.length = its.length) (h : (stepL xs lo hi c).length = (stepL its lo hi c).length) : (stepL xs lo hi c).length ≤ xs.length := by
  have := slicePick_size_le its.toArray lo hi (some c)
  rw [pick_step, List.size_toArray, List.size_toArray] at this
  omega
theorem vals_pick {xs : List V} {us : List Value} (r : Vals xs us) : ∀ is : List Nat, Vals (is.filterMap (xs[·]?)) (is.filterMap (us[·]?))
  | [] => .nil
  | i :: is => by
    have ih := vals_pick r is
    have key : (xs[i]? = none ∧ us[i]? = none) ∨ ∃ x u, xs[i]? = some x ∧ us[i]? = some u ∧ RelV x u := by
      clear ih
      induction r generalizing i with
      | nil => exact .inl ⟨rfl, rfl⟩
      | cons h _ ih => cases i with
        | zero => exact .inr ⟨_, _, rfl, rfl, h⟩
        | succ i => exact ih i
    rcases key with ⟨a, b⟩ | ⟨x, u, a, b, rr⟩
    · rw [List.filterMap_cons_none a, List.filterMap_cons_none b]; exact ih
    · rw [List.filterMap_cons_some a, List.filterMap_cons_some b]; exact .cons rr ih
section
variable {X : Cx} {G : Gh} {a e c : Expr} {te : TE} {lo hi : Option Expr} {tl th tst : TO} {pos p2 : Pos}
def SlR3 (X : Cx) (r : V → Option Int → Option Int → Option Int → Hp → VK → Prop) : Prop :=
  ∀ (pins : List (Addr × Obj)) (s : Shared) (σ : L2.St) (H : Hp) (x : V) (v vl vu vs : Value) (lo hi st : Option Int) (sl : Addr) (Q : VK), Inv X pins σ H s → RelV x v → s.heap.IsSliceOf sl vl vu vs → IsPart vl lo → IsPart vu hi → IsPart vs st → r x lo hi st H Q →
    ∃ T id, typeLookup (.type T) "__getitem__" = pure (some (.builtin id)) ∧ s.TypeIs v T ∧ wpAny (model X.prog X.w) X.A (getItem v (.ref sl)) (EP X pins σ Q) X.xe s
def tSl3 (r : V → Option Int → Option Int → Option Int → Hp → VK → Prop) (te : TE) (tl th ts : TO) : TE := fun σ H Q => te σ H fun x H1 => tl σ H1 fun l H2 => th σ H2 fun u H3 => ts σ H3 fun c H4 => r x l u c H4 Q
theorem pe_slice3 {r : V → Option Int → Option Int → Option Int → Hp → VK → Prop} (hr : SlR3 X r) (he : PE X e te) (hl : L2.PO X lo tl) (hu : L2.PO X hi th) (hs : L2.PO X (some c) tst) : PE X (.Subscript e (.Slice lo hi (some c) p2) pos) (tSl3 r te tl th tst) := by
  refine ⟨fun pins s σ H Q I h => ?_⟩
  refine Subscript_ (thn (he.run pins s σ H _ I h) fun v s1 ⟨x, H1, I1, r1, q1⟩ => ?_)
  refine wpAny_Slice (thn (hl.run pins s1 σ H1 _ I1 q1) fun vl s2 ⟨l, H2, I2, pl, q2⟩ => thn (hu.run pins s2 σ H2 _ I2 q2) fun vu s3 ⟨u, H3, I3, pu, q3⟩ => thn (hs.run pins s3 σ H3 _ I3 q3) fun vs s4 ⟨k, H4, I4, ps, q4⟩ => ?_)
  have I5 : Inv X pins σ H4 { s4 with heap := s4.heap.push { cls := .type "slice", data := .fields #[vl, vu, vs] } } := I4.kept (t' := s4.toks) fun b ob q => Heap.get?_push_of_some _ q
  obtain ⟨T, id, hT, ht, hg⟩ := hr pins { s4 with heap := s4.heap.push { cls := .type "slice", data := .fields #[vl, vu, vs] } } σ H4 x v vl vu vs l u k s4.heap.objs.size Q I5 r1 (Heap.IsSliceOf.new ..) pl pu ps q4
  show wpAny (model X.prog X.w) X.A (subscriptTail e (.Slice lo hi (some c) p2) v (.ref s4.heap.objs.size)) (EP X pins σ Q) X.xe { s4 with heap := s4.heap.push { cls := .type "slice", data := .fields #[vl, vu, vs] } }
  exact tail_any (ops := [v, .ref s4.heap.objs.size]) ht hT hg (by with_unfolding_all rfl)
def rSl3L (K : PySem.W.Frag) : V → Option Int → Option Int → Option Int → Hp → VK → Prop := fun x lo hi st H Q => ∃ a xs c, x = .ref a ∧ SqL K H a xs ∧ st = some c ∧ c ≠ 0 ∧ ∀ p, H p = none → Q (.ref p) (upd H p (.lst (stepL xs lo hi c)))
theorem sl3_list : SlR3 X (rSl3L X.K) := by
  intro pins s σ H x v vl vu vs lo hi st sl Q I rx hs pl pu ps h
  obtain ⟨a, xs, c, rfl, hx, rfl, hc, q⟩ := h
  cases rx
  obtain ⟨its, r, ht, hz⟩ := I.list hx
  have hlen := r.length
  refine ⟨"list", _, slot_list_getitem.lookup, ht.isList.typeIs, ?_⟩
  refine wpAny_getItem_list_slice ht.isList hs pl pu ps (by simpa using hc) ?_ (by rw [List.size_toArray] <;> omega)
  rw [pick_step]
  have rp : Vals (stepL xs lo hi c) (stepL its lo hi c) := by unfold stepL; rw [hlen]; exact vals_pick r _
  refine ⟨.ref s.heap.objs.size, _, I.laid (t' := s.toks) (o := .lst (stepL xs lo hi c)) (fun b ob q => Heap.get?_push_of_some _ q) (Nat.le_refl _) ?_, rfl, q _ (I.hok.fresh (Nat.le_refl _))⟩
  exact ⟨Nat.le_trans (stepL_len xs lo hi c its hlen rp.length) hz, _, 0, rp, Heap.get?_push_size _ rfl⟩
def rSl3T (K : PySem.W.Frag) : V → Option Int → Option Int → Option Int → Hp → VK → Prop := fun x lo hi st H Q => ∃ a xs c, x = .ref a ∧ SqT K H a xs ∧ st = some c ∧ c ≠ 0 ∧ c ≠ 1 ∧ (HT.stepT xs lo hi c).length ≤ sizeLine ∧ ∀ p, H p = none → Q (.ref p) (upd H p (.tup (HT.stepT xs lo hi c)))
theorem vals_stepT {xs : List V} {us : List Value} {lo hi : Option Int} {c : Int} (r : Vals xs us) : Vals (HT.stepT xs lo hi c) (HT.stepT us lo hi c) := by
  unfold HT.stepT
  rw [r.length]
  have := vals_pick r ((List.range (Builtin.Slice.slicePlaces (Builtin.Slice.sliceAdjust lo hi c (us.length : Int)).1 (Builtin.Slice.sliceAdjust lo hi c (us.length : Int)).2 c)).map fun (m : Nat) => ((Builtin.Slice.sliceAdjust lo hi c (us.length : Int)).1 + (m : Int) * c).toNat)
  rw [List.filterMap_map, List.filterMap_map] at this
  exact this
theorem sl3_tup : SlR3 X (rSl3T X.K) := by
  intro pins s σ H x v vl vu vs lo hi st sl Q I rx hs pl pu ps h
  obtain ⟨a, xs, c, rfl, hx, rfl, hc, h1, hw, q⟩ := h
  cases rx
  obtain ⟨its, r, ht, hz⟩ := I.tuple hx
  have rp := vals_stepT (lo := lo) (hi := hi) (c := c) r
  refine ⟨"tuple", _, PyProof.Rows.slot_tuple_getitem.lookup, ht.typeIs, ?_⟩
  refine HT.getItem_tuple_step ht hs pl pu ps hc h1 ?_ (by show (HT.stepT its lo hi c).length ≤ sizeLine; rw [← rp.length]; exact hw)
  refine ⟨.ref s.heap.objs.size, _, I.laid (t' := s.toks) (o := .tup (HT.stepT xs lo hi c)) (fun b ob q => Heap.get?_push_of_some _ q) (Nat.le_refl _) ?_, rfl, q _ (I.hok.fresh (Nat.le_refl _))⟩
  exact ⟨hw, _, rp, IsTup.new _ _⟩
theorem SlR3.or {r r' : V → Option Int → Option Int → Option Int → Hp → VK → Prop} (h : SlR3 X r) (h' : SlR3 X r') : SlR3 X (fun x lo hi st H Q => r x lo hi st H Q ∨ r' x lo hi st H Q) := by
  intro pins s σ H x v vl vu vs lo hi st sl Q I rx hs pl pu ps q
  rcases q with q | q
  · exact h pins s σ H x v vl vu vs lo hi st sl Q I rx hs pl pu ps q
  · exact h' pins s σ H x v vl vu vs lo hi st sl Q I rx hs pl pu ps q
end
end
end VL
/-! Slices with a step and ranges with a step, by data. -/
namespace VL
open PySem PySem.Spec PyProof.Rows L2
noncomputable section
theorem drs_pick {K : Fg} {Z : Hp} {xs : List V} {ds : List D} (r : DRs K Z xs ds) : ∀ is : List Nat, DRs K Z (is.filterMap (xs[·]?)) (is.filterMap (ds[·]?))
  | [] => .nil
  | i :: is => by
    have ih := drs_pick r is
    cases e : ds[i]? with
    | none =>
      have h1 : xs[i]? = none := by
        rw [List.getElem?_eq_none_iff] at e ⊢
        rw [r.length]; exact e
      rw [List.filterMap_cons_none h1, List.filterMap_cons_none e]; exact ih
    | some d =>
      obtain ⟨u, h1, h2⟩ := r.get e
      rw [List.filterMap_cons_some h1, List.filterMap_cons_some e]; exact .cons h2 ih
theorem DRs.stepL {K : Fg} {Z : Hp} {vs : List V} {ds : List D} {lo hi : Option Int} {c : Int} (h : DRs K Z vs ds) : DRs K Z (stepL vs lo hi c) (stepL ds lo hi c) := by
  unfold VL.stepL
  rw [h.length]
  exact drs_pick h _
theorem DRs.stepT {K : Fg} {Z : Hp} {vs : List V} {ds : List D} {lo hi : Option Int} {c : Int} (h : DRs K Z vs ds) : DRs K Z (HT.stepT vs lo hi c) (HT.stepT ds lo hi c) := by
  unfold HT.stepT
  rw [h.length]
  have := drs_pick h ((List.range (Builtin.Slice.slicePlaces (Builtin.Slice.sliceAdjust lo hi c (ds.length : Int)).1 (Builtin.Slice.sliceAdjust lo hi c (ds.length : Int)).2 c)).map fun (m : Nat) => ((Builtin.Slice.sliceAdjust lo hi c (ds.length : Int)).1 + (m : Int) * c).toNat)
  rw [List.filterMap_map, List.filterMap_map] at this
  exact this
def wSl3 (wa : WE D) (wl wh ws : WE (Option Int)) : WE Rz := fun Γ P => wa Γ fun d Γ1 => wl Γ1 fun lo Γ2 => wh Γ2 fun hi Γ3 => ws Γ3 fun st Γ4 => match d, st with
  | .list ds, some c => c ≠ 0 ∧ P (.ls (stepL ds lo hi c)) Γ4
  | .tuple ds, some c => c ≠ 0 ∧ c ≠ 1 ∧ (HT.stepT ds lo hi c).length ≤ 16777216 ∧ P (.v (.dat (.tuple (HT.stepT ds lo hi c)))) Γ4
  | _, _ => False
section
variable {X : Cx} {G : Gh} {a c e e2 e3 : Expr} {lo hi : Option Expr} {tg : Expr} {pos p p2 : Pos}
theorem az_slice3 {wa : WE D} {wl wh ws : WE (Option Int)} (ha : AB X G a wa) (hl : AO X G lo wl) (hh : AO X G hi wh) (hs : AO X G (some c) ws) : AZ X G (.Subscript a (.Slice lo hi (some c) p2) pos) (wSl3 wa wl wh ws) :=
  PEi (pe_slice3 (sl3_list.or sl3_tup) ha hl hh hs) fun σ H Q ⟨Γ, Z, O, P, R, w, k⟩ => ⟨Γ, Z, O, _, R, w, fun d Γ1 x Z1 O1 H1 p1 R1 S1 b1 => ⟨Γ1, Z1, O1, _, R1, p1, fun lo Γ2 lo' Z2 O2 H2 p2 R2 S2 b2 => ⟨Γ2, Z2, O2, _, R2, p2, fun hi Γ3 hi' Z3 O3 H3 p3 R3 S3 b3 => ⟨Γ3, Z3, O3, _, R3, p3, fun st Γ4 st' Z4 O4 H4 p4 R4 S4 b4 => by
    subst b2 b3 b4
    have S24 := (S2.trans S3).trans S4
    have b1' := b1.grow S24.zZ S24.hH
    split at p4
    · rename_i ds0 c0_
      obtain ⟨a, vs, rfl, h, t⟩ := b1'.listI R4.sub
      obtain ⟨c0, p4⟩ := p4
      refine .inl ⟨a, vs, _, rfl, SqL.of h, rfl, c0, fun q hq => ?_⟩
      have g := Grow.new' (o := .lst (stepL vs lo hi c0_)) R4.sub hq
      exact k _ _ _ _ _ _ p4 (R4.grow g) ((S1.trans S24).trans g.step) ((show RzN X.K H4 Z4 _ (.ls _) _ from ⟨q, _, rfl, hq, R4.sub.free hq, upd_same, t.stepL⟩).up R4 (S1.trans S24).hN)
    · rename_i ds0 c0_
      obtain ⟨a, vs, rfl, h, _, t⟩ := b1'.tupI R4.sub
      obtain ⟨c0, c1, hw, p4⟩ := p4
      refine .inr ⟨a, vs, _, rfl, h, rfl, c0, c1, by rw [(t.stepT).length, ← line_is]; exact hw, fun q hq => ?_⟩
      have g := Grow.new (o := .tup (HT.stepT vs lo hi c0_)) R4.sub hq
      exact k _ _ _ _ _ _ p4 (R4.grow g) ((S1.trans S24).trans g.step) (.tup (SqT.of upd_same) (t.stepT.mono g.zz))
    · exact p4.elim⟩⟩⟩⟩
def rangeC (lo : Int) (c : Int) (n : Nat) : List D := (List.range n).map fun i => .int (lo + (i : Nat) * c)
theorem rangeC_get {lo c : Int} {n i : Nat} (h : i < n) : (rangeC lo c n)[i]? = some (.int (lo + (i : Nat) * c)) := by
  unfold rangeC
  rw [List.getElem?_map, List.getElem?_range h]; rfl
theorem rangeC_length {lo c : Int} {n : Nat} : (rangeC lo c n).length = n := by unfold rangeC; rw [List.length_map, List.length_range]
theorem walkD_rangeC {K : Fg} {PN : Addr → Prop} {Z : Hp} {lo c : Int} {n : Nat} (hz : n ≤ sizeLine) : WalkD K PN Z (Itc lo c n) (rangeC lo c n) := by
  have w : Walk (Itc lo c n) n (fun _ => True) (fun i H x H' => i < n ∧ H' = H ∧ x = .int (lo + (i : Nat) * c)) := ⟨fun i H h _ => h, fun H _ => Nat.le_refl n, fun i H x H' h _ y => ⟨h, y.1, y.2⟩⟩
  refine ⟨_, _, by rw [rangeC_length]; exact w, by rw [rangeC_length]; exact hz, fun H _ => trivial, ?_⟩
  rintro i H x H' Zc hs C ⟨hi, rfl, rfl⟩
  exact ⟨_, Zc, rangeC_get hi, Grow.refl C.sub, .int _⟩
def rgN (a b c : Int) : Nat := (Builtin.Range.rangeSize a b c).toNat
def RgOk3 (a b c : Int) : Bool := decide (c ≠ 0) && decide (c.natAbs < 1073741824) && Builtin.Range.small a b c && decide (0 ≤ Builtin.Range.rangeSize a b c) && decide (rgN a b c ≤ 16777216)
def wRange3 (ws : WE (List D)) : WE (List D) := fun Γ P => ws Γ fun ds Γ1 => match ds with
  | [.int a, .int b, .int c] => RgOk3 a b c = true ∧ P (rangeC a c (rgN a b c)) Γ1
  | _ => False
theorem BRs.three {K : Fg} {PN : Addr → Prop} {Z H : Hp} {vs : List V} {d e f : D} (h : BRs K PN Z H vs [d, e, f]) : ∃ v u w, vs = [v, u, w] ∧ BR K PN Z H v d ∧ BR K PN Z H u e ∧ BR K PN Z H w f := by
  cases h with | cons a b => cases b with | cons b c => cases c with | cons c d => cases d; exact ⟨_, _, _, rfl, a, b, c⟩
theorem ai_range3 {ws : WE (List D)} (hm : X.mg "range" = none) (h : ABs X G [e, e2, e3] ws) (hg : Gl X "range" := by rfl) (hs : starEach [e, e2, e3] X.env = (false, eval e X.env) :: starEach [e2, e3] X.env := by rfl) (hpl : (backTo pos (starEach [e2, e3] X.env)).any (·.1) = false := by rfl) : AI X G tg (.Call (.Name "range" p) [e, e2, e3] [] pos) (wRange3 ws) := by
  refine ⟨fun pins s σ H R I ⟨Γ, Z, O, P, Re, q, k⟩ => ?_⟩
  refine (pi_range3 hg hm h hs hpl).run pins s σ H R I ⟨Γ, Z, O, _, Re, q, fun ds Γ1 vs Z1 O1 H1 p1 R1 S1 b1 => ?_⟩
  split at p1
  · rename_i a c d
    obtain ⟨v, u, w, rfl, b, b', b''⟩ := b1.three
    obtain ⟨h1, p1⟩ := p1
    obtain rfl := b.intI
    obtain rfl := b'.intI
    obtain rfl := b''.intI
    simp only [RgOk3, Bool.and_eq_true, decide_eq_true_eq] at h1
    obtain ⟨⟨⟨⟨h1, h2⟩, h3⟩, h4⟩, h5⟩ := h1
    exact ⟨a, c, d, _, rfl, ⟨h1, h2, h3, (Int.toNat_of_nonneg h4).symm⟩, k _ _ _ _ _ _ p1 R1 S1 (walkD_rangeC (by rw [← line_is]; exact h5))⟩
  · exact p1.elim
end
variable {α β γ S S' L M ρ : Type} {s s0 s1 s2 s3 s4 : List Sl} {X : Exc → Nat → Prop}
def oRange3 (t : Out (List D)) : Out (List D) := t.bind fun ds => match ds with
  | [.int a, .int b, .int c] => bif RgOk3 a b c then .ok (rangeC a c (rgN a b c)) else .bad
  | _ => .bad
theorem post_bif {c : Bool} {t : Out α} {P : α → Prop} {Y : Exc → Prop} (h : (bif c then t else .bad).post P Y) : c = true ∧ t.post P Y := by
  cases c with
  | true => exact ⟨rfl, h⟩
  | false => exact h.elim
theorem r_range3 {ws : WE (List D)} {t : Out (List D)} (h : RO ws s s1 t id X) : RO (wRange3 ws) s s1 (oRange3 t) id X := fun c P q => h c _ ((Out.post_bind q).imp fun a p => by
  split at p
  · exact post_bif p
  · exact p.elim)
def pRange3 (t : Pn (List D)) : Pn (List D) := t.bind fun d => Pn.lift (oRange3 (.ok d))
theorem p_range3 {w : WE (List D)} {t : Pn (List D)} (h : PO w s s1 t id) : PO (wRange3 w) s s1 (pRange3 t) id := fun c Q P q k => h c _ _ q fun a c' z =>
  r_range3 (s := s1) (X := X0) (ws := fun Γ P => P a Γ) (t := .ok a) (fun _ _ y => y) c' P (Out.post.imp z fun b y => k b c' y)
def dSl3 (d : D) (lo hi st : Option Int) : Out D := match d, st with
  | .list ds, some c => bif decide (c ≠ 0) then .ok (.list (stepL ds lo hi c)) else .bad
  | .tuple ds, some c => bif decide (c ≠ 0) && decide (c ≠ 1) && decide ((HT.stepT ds lo hi c).length ≤ 16777216) then .ok (.tuple (HT.stepT ds lo hi c)) else .bad
  | _, _ => .bad
def dSl3L (d : D) (lo hi st : Option Int) : Out (List D) := match d, st with
  | .list ds, some c => bif decide (c ≠ 0) then .ok (stepL ds lo hi c) else .bad
  | _, _ => .bad
def oSl3 (f : D → Option Int → Option Int → Option Int → Out α) (t : Out D) (u v w : Out (Option Int)) : Out α := t.bind fun d => u.bind fun lo => v.bind fun hi => w.bind fun st => (f d lo hi st).noer
theorem r_sl3 {wa : WE D} {wl wh ws : WE (Option Int)} {t : Out D} {u v w : Out (Option Int)} (h : RO wa s s1 t id X) (hl : RO wl s1 s2 u id X) (hh : RO wh s2 s3 v id X) (hs : RO ws s3 s4 w id X) : ROz (wSl3 wa wl wh ws) s s4 (oSl3 dSl3 t u v w) X := fun c P q =>
  h c _ ((Out.post_bind q).imp fun d p => hl c _ ((Out.post_bind p).imp fun lo p => hh c _ ((Out.post_bind p).imp fun hi p => hs c _ ((Out.post_bind p).imp fun st p => by
    have p := noer_post p
    unfold dSl3 at p
    split at p
    · obtain ⟨h1, h2⟩ := post_bif p
      exact ⟨of_decide_eq_true h1, h2 _ rfl⟩
    · obtain ⟨h1, h2⟩ := post_bif p
      rw [Bool.and_eq_true, Bool.and_eq_true] at h1
      exact ⟨of_decide_eq_true h1.1.1, of_decide_eq_true h1.1.2, of_decide_eq_true h1.2, h2 _ rfl⟩
    · exact p.elim))))
theorem r_sl3L {wa : WE D} {wl wh ws : WE (Option Int)} {t : Out D} {u v w : Out (Option Int)} (h : RO wa s s1 t id X) (hl : RO wl s1 s2 u id X) (hh : RO wh s2 s3 v id X) (hs : RO ws s3 s4 w id X) : RO (wSl3 wa wl wh ws) s s4 (oSl3 dSl3L t u v w) .ls X := fun c P q =>
  h c _ ((Out.post_bind q).imp fun d p => hl c _ ((Out.post_bind p).imp fun lo p => hh c _ ((Out.post_bind p).imp fun hi p => hs c _ ((Out.post_bind p).imp fun st p => by
    have p := noer_post p
    unfold dSl3L at p
    split at p
    · obtain ⟨h1, h2⟩ := post_bif p
      exact ⟨of_decide_eq_true h1, h2⟩
    · exact p.elim))))
def pSl3 (f : D → Option Int → Option Int → Option Int → Out α) (t : Pn D) (u v w : Pn (Option Int)) : Pn α := t.bind fun d => u.bind fun lo => v.bind fun hi => w.bind fun st => Pn.lift (f d lo hi st)
theorem p_sl3 {wa : WE D} {wl wh ws : WE (Option Int)} {t : Pn D} {u v w : Pn (Option Int)} (h : PO wa s s1 t id) (hl : PO wl s1 s2 u id) (hh : PO wh s2 s3 v id) (hs : PO ws s3 s4 w id) : POz (wSl3 wa wl wh ws) s s4 (pSl3 dSl3 t u v w) := fun c Q P q k =>
  h c _ _ q fun d c1 z => hl c1 _ _ z fun lo c2 y => hh c2 _ _ y fun hi c3 x => hs c3 _ _ x fun st c4 p => by
    have p : (dSl3 d lo hi st).post (fun a => Q a c4) fun _ => False := p
    unfold dSl3 at p
    split at p
    · obtain ⟨h1, h2⟩ := post_bif p
      exact ⟨of_decide_eq_true h1, k _ c4 h2 _ rfl⟩
    · obtain ⟨h1, h2⟩ := post_bif p
      rw [Bool.and_eq_true, Bool.and_eq_true] at h1
      exact ⟨of_decide_eq_true h1.1.1, of_decide_eq_true h1.1.2, of_decide_eq_true h1.2, k _ c4 h2 _ rfl⟩
    · exact p.elim
/-! ### a dict that is handed on: a table of its own for asking -/
def keysAll (kvs : List (D × D)) : Option (List (List Key × D)) := @List.rec (D × D) (fun _ => Option (List (List Key × D))) (some []) (fun p _ ih => oq none (fun q => oq none (fun ps => some ((q, p.2) :: ps)) ih) (keysQ p.1)) kvs
theorem keysAll_cons (p : D × D) (r : List (D × D)) : keysAll (p :: r) = match keysOf p.1, keysAll r with
    | some q, some ps => some ((q, p.2) :: ps)
    | _, _ => none := by
  show oq none (fun q => oq none (fun ps => some ((q, p.2) :: ps)) (keysAll r)) (keysQ p.1) = _
  rw [keysQ_is]
  cases keysOf p.1 <;> cases keysAll r <;> rfl
def foldT (ps : List (List Key × D)) : TR := @List.rec _ (fun _ => TR) .e (fun p _ ih => putT ih p.1 p.2) ps
theorem foldT_is (ps : List (List Key × D)) : foldT ps = ps.foldr (fun p t => putT t p.1 p.2) .e := by
  induction ps with
  | nil => rfl
  | cons p r ih =>
    show putT (foldT r) p.1 p.2 = _
    rw [ih]; rfl
def mkTR (d : D) : Option TR := dcs none (fun _ => none) (fun _ => none) (fun _ => none) (fun _ => none) (fun _ => none) (fun kvs => oq none (fun ps => some (foldT ps)) (keysAll kvs)) d
theorem mkTR_def (d : D) : mkTR d = match d with
  | .dict kvs => (match keysAll kvs with
    | some ps => some (ps.foldr (fun p t => putT t p.1 p.2) .e)
    | none => none)
  | _ => none := by
  cases d with
  | dict kvs =>
    show oq none (fun ps => some (foldT ps)) (keysAll kvs) = (match keysAll kvs with
    | some ps => some (ps.foldr (fun p t => putT t p.1 p.2) .e)
    | none => none)
    cases keysAll kvs with
    | none => rfl
    | some ps => exact congrArg some (foldT_is ps)
  | _ => rfl
theorem keysAll_is : ∀ {kvs : List (D × D)} {ps : List (List Key × D)}, keysAll kvs = some ps → kvs = ps.map fun p => (tupD p.1, p.2)
  | [], _, h => by cases h; rfl
  | p :: r, ps, h => by
    rw [keysAll_cons] at h
    split at h
    · rename_i q ps' h1 h2
      cases h
      rw [List.map_cons, ← keysAll_is h2, ← keysOf_is h1]
    · cases h
theorem get_fold : ∀ (ps : List (List Key × D)) (q : List Key), getT (ps.foldr (fun p t => putT t p.1 p.2) .e) q = valP ps q
  | [], q => by unfold getT; exact gR_e _ _
  | p :: r, q => by
    rw [List.foldr_cons, get_putT, get_fold r q]
    unfold valP
    rw [List.find?_cons]
    by_cases c : q = p.1
    · rw [if_pos c, decide_eq_true c.symm]; rfl
    · rw [if_neg c, decide_eq_false fun h => c h.symm]
theorem mkTR_look {d : D} {t : TR} (h : mkTR d = some t) (y : D) (q : List Key) (hq : keysOf y = some q) : ∃ kvs, d = .dict kvs ∧ lookD kvs y = some (getT t q) := by
  rw [mkTR_def] at h
  split at h
  · rename_i kvs
    split at h
    · rename_i ps hp
      cases h
      exact ⟨kvs, rfl, by rw [keysAll_is hp, look_dt _ _ _ hq, get_fold]⟩
    · cases h
  · cases h
def ixIx (d : D) (t : Option TR) (y : D) : Out D := oq (dIxA d y).noer (fun t => oq (dIxA d y).noer (fun q => oq Out.bad Out.ok (getT t q)) (keysQ y)) t
theorem ixIx_def (d : D) (t : Option TR) (y : D) : ixIx d t y = match t, keysOf y with
  | some t, some q => (match getT t q with | some v => .ok v | none => .bad)
  | _, _ => (dIxA d y).noer := by
  unfold ixIx
  rw [keysQ_is]
  cases t with
  | none => rfl
  | some t =>
    cases keysOf y with
    | none => rfl
    | some q =>
      dsimp only
      show oq Out.bad Out.ok (getT t q) = _
      cases getT t q <;> rfl
theorem ixIx_le (d y : D) : (ixIx d (mkTR d) y).le (dIxA d y).noer := by
  rw [ixIx_def]
  split
  · rename_i t q h1 h2
    obtain ⟨kvs, rfl, h⟩ := mkTR_look h1 y q h2
    unfold dIxA
    dsimp only
    rw [h]
    cases getT t q with
    | some v => exact .refl _
    | none => exact Out.le_bad _
  · exact .refl _
def ixGet2 (d : D) (t : Option TR) (y z : D) : Out D := oq (bif recvT "dict" d then (dGet2 d [y, z]).noer else .bad) (fun t => oq (bif recvT "dict" d then (dGet2 d [y, z]).noer else .bad) (fun q => bcs (stayD z) (Out.ok (oq z (fun v => v) (getT t q))) Out.bad) (keysQ y)) t
theorem ixGet2_def (d : D) (t : Option TR) (y z : D) : ixGet2 d t y z = match t, keysOf y with
  | some t, some q => bif stayD z then .ok ((getT t q).getD z) else .bad
  | _, _ => bif recvT "dict" d then (dGet2 d [y, z]).noer else .bad := by
  unfold ixGet2
  rw [keysQ_is]
  cases t with
  | none => rfl
  | some t =>
    cases keysOf y with
    | none => rfl
    | some q =>
      dsimp only
      show bcs (stayD z) (Out.ok (oq z (fun v => v) (getT t q))) Out.bad = _
      cases stayD z <;> cases getT t q <;> rfl
theorem ixGet2_le (d y z : D) : (ixGet2 d (mkTR d) y z).le (if recvT "dict" d = true then (dGet2 d [y, z]).noer else .bad) := by
  rw [ixGet2_def]
  split
  · rename_i t q h1 h2
    obtain ⟨kvs, rfl, h⟩ := mkTR_look h1 y q h2
    rw [if_pos (show recvT "dict" (.dict kvs) = true from rfl)]
    unfold dGet2
    dsimp only
    rw [h]
    cases stayD z with
    | true => exact .refl _
    | false => exact Out.le_bad _
  · cases recvT "dict" d with
    | true => exact .refl _
    | false => exact Out.le_bad _
def ixHas (d : D) (t : Option TR) (y : D) : Out Bool := oq (dInB y d).noer (fun t => oq (dInB y d).noer (fun q => Out.ok (oq false (fun _ => true) (getT t q))) (keysQ y)) t
theorem ixHas_def (d : D) (t : Option TR) (y : D) : ixHas d t y = match t, keysOf y with
  | some t, some q => .ok (getT t q).isSome
  | _, _ => (dInB y d).noer := by
  unfold ixHas
  rw [keysQ_is]
  cases t with
  | none => rfl
  | some t =>
    cases keysOf y with
    | none => rfl
    | some q =>
      dsimp only
      show Out.ok (oq false (fun _ => true) (getT t q)) = _
      cases getT t q <;> rfl
theorem ixHas_le (d y : D) : (ixHas d (mkTR d) y).le (dInB y d).noer := by
  rw [ixHas_def]
  split
  · rename_i t q h1 h2
    obtain ⟨kvs, rfl, h⟩ := mkTR_look h1 y q h2
    unfold dInB
    dsimp only
    rw [h]
    exact .refl _
  · exact .refl _
theorem r_nameB0 {i : Nat} {d : D} (h : s.getD i .no = .rv (.dat d)) : RO (wNameB i) s s (.ok d) id X := r_nameB h
theorem r_ixV {i : Nat} {d : D} {w : WE D} {u : Out D} (h : s.getD i .no = .rv (.dat d)) (hu : RO w s s1 u id X) : ROz (w2 sIxA (wNameB i) w) s s1 (u.bind fun y => ixIx d (mkTR d) y) X :=
  .le (fun P Y q => show (u.bind fun y => (dIxA d y).noer).post P Y from Out.le.bind (fun y => ixIx_le d y) P Y q) (r_2 s_ixA (r_nameB h) hu)
def oGetV (d : D) (t : Option TR) (u : Out (List D)) : Out D := bif recvT "dict" d then u.bind fun ds => match ds with | [y, z] => ixGet2 d t y z | _ => .bad else .bad
theorem r_getV {i : Nat} {d : D} {ws : WE (List D)} {u : Out (List D)} (h : s.getD i .no = .rv (.dat d)) (hu : RO ws s s1 u id X) : ROz (wM "dict" sGet2S (wNameB i) ws) s s1 (oGetV d (mkTR d) u) X :=
  .le (fun P Y q => show (if recvT "dict" d = true then u.bind fun ds => (dGet2 d ds).noer else .bad).post P Y from by
    obtain ⟨c, q⟩ := post_bif q
    rw [if_pos c]
    have : (u.bind fun ds => match ds with | [y, z] => ixGet2 d (mkTR d) y z | _ => .bad).le (u.bind fun ds => (dGet2 d ds).noer) := Out.le.bind (fun ds => by
      split
      · rename_i y z
        have := ixGet2_le d y z
        rwa [if_pos c] at this
      · exact Out.le_bad _)
    exact this P Y q) (r_M s_get2 (r_nameB h) hu)
end
end VL
/-! Operators that are quick to reckon with. -/
namespace VL
open PySem PySem.Spec PyProof.Rows L2
noncomputable section
variable {α β γ S S' L M ρ : Type} {s s0 s1 s2 s3 : List Sl} {X : Exc → Nat → Prop}
theorem S2.le {sem : Sem2} {op op' : D → D → Out D} (h : S2 sem op) (l : ∀ d e, (op' d e).le (op d e)) : S2 sem op' := fun d e P q => h d e P (l d e _ _ q)
def ii {α : Type} (f : Nat → Nat → α) (z : Int → Int → α) (i j : Int) : α := @Int.rec (fun _ => α) (fun a => @Int.rec (fun _ => α) (fun b => f a b) (fun _ => z i j) j) (fun _ => z i j) i
theorem ii_is {α : Type} (f : Nat → Nat → α) (z : Int → Int → α) (i j : Int) : ii f z i j = match i, j with | .ofNat a, .ofNat b => f a b | i, j => z i j := by cases i <;> cases j <;> rfl
def iLt (i j : Int) : Bool := ii Nat.blt (fun i j => decide (i < j)) i j
def iLe (i j : Int) : Bool := ii Nat.ble (fun i j => decide (i ≤ j)) i j
def iBeq (i j : Int) : Bool := ibeq i j
theorem iLt_is (i j : Int) : iLt i j = decide (i < j) := by
  unfold iLt
  rw [ii_is]
  split
  · rename_i a b
    rw [Bool.eq_iff_iff, blt_iff, decide_eq_true_eq]
    exact (Int.ofNat_lt (n := a) (m := b)).symm
  · rfl
theorem iLe_is (i j : Int) : iLe i j = decide (i ≤ j) := by
  unfold iLe
  rw [ii_is]
  split
  · rename_i a b
    rw [Bool.eq_iff_iff, Nat.ble_eq, decide_eq_true_eq]
    exact (Int.ofNat_le (m := a) (n := b)).symm
  · rfl
theorem iBeq_is (i j : Int) : iBeq i j = decide (i = j) := by
  rw [Bool.eq_iff_iff, decide_eq_true_eq]
  exact ibeq_iff i j
/-- both are ints -/
def dii {α : Type} (f : Int → Int → α) (z : α) (d e : D) : α := dci z (fun i => dci z (fun j => f i j) e) d
theorem dii_is {α : Type} (f : Int → Int → α) (z : D → D → α) (d e : D) : dii f (z d e) d e = match d, e with | .int i, .int j => f i j | d, e => z d e := by cases d <;> first | rfl | (cases e <;> rfl)
def dnn {α : Type} (f : Nat → Nat → α) (z : α) (d e : D) : α := dii (fun i j => ii f (fun _ _ => z) i j) z d e
theorem dnn_is {α : Type} (f : Nat → Nat → α) (z : D → D → α) (d e : D) : dnn f (z d e) d e = match d, e with | .int (.ofNat a), .int (.ofNat b) => f a b | d, e => z d e := by
  cases d with
  | int i => cases e with
    | int j => cases i <;> cases j <;> rfl
    | _ => cases i <;> rfl
  | _ => rfl
abbrev qLtA := dCmpD iLt fun d e => PySem.W.dataLt d e
abbrev qGtA := dCmpD (fun i j => iLt j i) fun d e => PySem.W.dataLt e d
abbrev qLeA := dCmpD iLe fun d e => !PySem.W.dataLt e d
abbrev qGeA := dCmpD (fun i j => iLe j i) fun d e => !PySem.W.dataLt d e
theorem s_ltQ : S2 sLtA qLtA := by have h := s_ltA; unfold dLtA at h; unfold qLtA; rwa [show iLt = fun i j => decide (i < j) from funext fun i => funext fun j => iLt_is i j]
theorem s_gtQ : S2 sGtA qGtA := by have h := s_gtA; unfold dGtA at h; unfold qGtA; rwa [show (fun i j => iLt j i) = fun i j => decide (j < i) from funext fun i => funext fun j => iLt_is j i]
theorem s_leQ : S2 sLeA qLeA := by have h := s_leA; unfold dLeA at h; unfold qLeA; rwa [show iLe = fun i j => decide (i ≤ j) from funext fun i => funext fun j => iLe_is i j]
theorem s_geQ : S2 sGeA qGeA := by have h := s_geA; unfold dGeA at h; unfold qGeA; rwa [show (fun i j => iLe j i) = fun i j => decide (j ≤ i) from funext fun i => funext fun j => iLe_is j i]
def qEq (d e : D) : Out D := dii (fun i j => .ok (.bool (iBeq i j))) (bcs (okB d) (bcs (RN.sameD d e) (.ok (.bool true)) (dEq d e)) (dEq d e)) d e
def qNe (d e : D) : Out D := dii (fun i j => .ok (.bool (bcs (iBeq i j) false true))) (bcs (okB d) (bcs (RN.sameD d e) (.ok (.bool false)) (dNe d e)) (dNe d e)) d e
theorem qEq_def (d e : D) : qEq d e = match d, e with
  | .int i, .int j => .ok (.bool (iBeq i j))
  | d, e => bif okB d && RN.sameD d e then .ok (.bool true) else dEq d e := by
  unfold qEq
  refine (dii_is _ (fun d e => bcs (okB d) (bcs (RN.sameD d e) (.ok (.bool true)) (dEq d e)) (dEq d e)) d e).trans ?_
  split
  · rfl
  · cases okB _ <;> cases RN.sameD _ _ <;> rfl
theorem qNe_def (d e : D) : qNe d e = match d, e with
  | .int i, .int j => .ok (.bool (!iBeq i j))
  | d, e => bif okB d && RN.sameD d e then .ok (.bool false) else dNe d e := by
  unfold qNe
  refine (dii_is _ (fun d e => bcs (okB d) (bcs (RN.sameD d e) (.ok (.bool false)) (dNe d e)) (dNe d e)) d e).trans ?_
  split
  · cases iBeq _ _ <;> rfl
  · cases okB _ <;> cases RN.sameD _ _ <;> rfl
mutual
theorem eqv_self : ∀ d : D, nodict d = true → PyData.eqv d d = true
  | .none, _ => by simp [PyData.eqv]
  | .bool _, _ => by simp [PyData.eqv]
  | .int _, _ => by simp [PyData.eqv]
  | .str _, _ => by simp [PyData.eqv]
  | .list xs, h => by rw [PyData.eqv]; exact eqv_selfs xs (by simpa [nodict] using h)
  | .tuple xs, h => by rw [PyData.eqv]; exact eqv_selfs xs (by simpa [nodict] using h)
  | .dict _, h => by simp [nodict] at h
theorem eqv_selfs : ∀ ds : List D, nodicts ds = true → PyData.eqvAll ds ds = true
  | [], _ => by simp [PyData.eqvAll]
  | d :: r, h => by
    simp only [nodicts, Bool.and_eq_true] at h
    rw [PyData.eqvAll, eqv_self d h.1, eqv_selfs r h.2]; rfl
end
theorem dEq_same {d : D} (h : okB d = true) : dEq d d = .ok (.bool true) := by
  have h1 : eqOkB d d = true := by cases d <;> first | rfl | (simp only [eqOkB, Bool.and_eq_true]; exact ⟨h, h⟩)
  unfold dEq
  rw [if_pos h1]
  unfold okB at h
  rw [Bool.and_eq_true] at h
  rw [eqv_self _ h.1]
theorem dNe_same {d : D} (h : okB d = true) : dNe d d = .ok (.bool false) := by
  have h1 : eqOkB d d = true := by cases d <;> first | rfl | (simp only [eqOkB, Bool.and_eq_true]; exact ⟨h, h⟩)
  unfold dNe
  rw [if_pos h1]
  unfold okB at h
  rw [Bool.and_eq_true] at h
  rw [eqv_self _ h.1]; rfl
theorem eqv_ii (i j : Int) : PyData.eqv (.int i) (.int j) = decide (i = j) := by simp [PyData.eqv]; exact beq_dec i j
theorem qEq_le (d e : D) : (qEq d e).le (dEq d e) := by
  rw [qEq_def]
  split
  · rename_i i j
    refine Out.le_ok ?_
    unfold dEq
    rw [if_pos (show eqOkB (.int i) (.int j) = true from rfl), eqv_ii, iBeq_is]
  · cases c : okB d && RN.sameD d e with
    | true =>
      rw [Bool.and_eq_true] at c
      obtain rfl := RN.sameD_eq c.2
      exact Out.le_ok (dEq_same c.1)
    | false => exact .refl _
theorem qNe_le (d e : D) : (qNe d e).le (dNe d e) := by
  rw [qNe_def]
  split
  · rename_i i j
    refine Out.le_ok ?_
    unfold dNe
    rw [if_pos (show eqOkB (.int i) (.int j) = true from rfl), eqv_ii, iBeq_is]
  · cases c : okB d && RN.sameD d e with
    | true =>
      rw [Bool.and_eq_true] at c
      obtain rfl := RN.sameD_eq c.2
      exact Out.le_ok (dNe_same c.1)
    | false => exact .refl _
theorem s_eqQ : S2 sEq qEq := s_eq.le qEq_le
theorem s_neQ : S2 sNe qNe := s_ne.le qNe_le
def lt64 (a : Nat) : Bool := Nat.blt a 18446744073709551616
theorem lt64_is {a : Nat} (h : lt64 a = true) : a < 18446744073709551616 := blt_iff.mp h
theorem p64q : (2 : Int) ^ 64 = 18446744073709551616 := by decide
def qMul (d e : D) : Out D := dnn (fun a b => bcs (lt64 a) (.ok (.int (.ofNat (Nat.mul a b)))) (dMul (.int (.ofNat a)) (.int (.ofNat b)))) (dMul d e) d e
theorem qMul_def (d e : D) : qMul d e = match d, e with
  | .int (.ofNat a), .int (.ofNat b) => bif lt64 a then .ok (.int (.ofNat (a * b))) else dMul d e
  | d, e => dMul d e := by
  unfold qMul
  refine (dnn_is (fun a b => bcs (lt64 a) (.ok (.int (.ofNat (Nat.mul a b)))) (dMul (.int (.ofNat a)) (.int (.ofNat b)))) (fun d e => dMul d e) d e).trans ?_
  split
  · rename_i a b
    generalize lt64 a = k
    cases k <;> rfl
  · rfl
theorem qMul_le (d e : D) : (qMul d e).le (dMul d e) := by
  rw [qMul_def]
  split
  · rename_i a b
    cases c : lt64 a with
    | false => rw [cond_false]; exact Out.le.refl _
    | true =>
      refine Out.le_ok ?_
      have c := lt64_is c
      unfold dMul
      dsimp only
      rw [if_pos (show CMul (Int.ofNat a) (Int.ofNat b) from by
        have h1 : (0 : Int) ≤ Int.ofNat a := Int.natCast_nonneg a
        have h2 : Int.ofNat a < 18446744073709551616 := Int.ofNat_lt.mpr c
        unfold CMul; rw [p64q]; exact .inl ⟨by omega, h2⟩)]
      rfl
  · exact .refl _
theorem s_mulQ : S2 sMul qMul := s_mul.le qMul_le
def qMod (d e : D) : Out D := dnn (fun a b => bcs (Nat.beq b 0) .bad (.ok (.int (.ofNat (Nat.mod a b))))) (dMod d e) d e
theorem qMod_def (d e : D) : qMod d e = match d, e with
  | .int (.ofNat a), .int (.ofNat b) => bif Nat.beq b 0 then .bad else .ok (.int (.ofNat (a % b)))
  | d, e => dMod d e := by
  unfold qMod
  refine (dnn_is (fun a b => bcs (Nat.beq b 0) .bad (.ok (.int (.ofNat (Nat.mod a b))))) (fun d e => dMod d e) d e).trans ?_
  split
  · rename_i a b
    generalize Nat.beq b 0 = k
    cases k <;> rfl
  · rfl
theorem qMod_le (d e : D) : (qMod d e).le (dMod d e) := by
  rw [qMod_def]
  split
  · rename_i a b
    cases c : Nat.beq b 0 with
    | true => exact Out.le_bad _
    | false =>
      refine Out.le_ok ?_
      have h0 : b ≠ 0 := fun h => by rw [h] at c; cases c
      show (if (Int.ofNat b) ≠ 0 then Out.ok (PyData.int ((Int.ofNat a).fmod (Int.ofNat b))) else .bad) = _
      rw [if_pos (by intro h; exact h0 (by injection h))]
      rw [show (Int.ofNat a).fmod (Int.ofNat b) = Int.ofNat (a % b) from (Int.ofNat_fmod a b).symm]
  · exact .refl _
theorem s_modQ : S2 sMod qMod := s_mod.le qMod_le
def qFdiv (d e : D) : Out D := dnn (fun a b => bcs (Nat.beq b 0) (dFdiv (.int (.ofNat a)) (.int (.ofNat b))) (bcs (Nat.ble 1073741824 b) (dFdiv (.int (.ofNat a)) (.int (.ofNat b))) (.ok (.int (.ofNat (Nat.div a b)))))) (dFdiv d e) d e
theorem qFdiv_def (d e : D) : qFdiv d e = match d, e with
  | .int (.ofNat a), .int (.ofNat b) => bif Nat.beq b 0 || Nat.ble 1073741824 b then dFdiv d e else .ok (.int (.ofNat (a / b)))
  | d, e => dFdiv d e := by
  unfold qFdiv
  refine (dnn_is (fun a b => bcs (Nat.beq b 0) (dFdiv (.int (.ofNat a)) (.int (.ofNat b))) (bcs (Nat.ble 1073741824 b) (dFdiv (.int (.ofNat a)) (.int (.ofNat b))) (.ok (.int (.ofNat (Nat.div a b)))))) (fun d e => dFdiv d e) d e).trans ?_
  split
  · rename_i a b
    generalize Nat.beq b 0 = k
    generalize Nat.ble 1073741824 b = k'
    cases k <;> cases k' <;> rfl
  · rfl
theorem qFdiv_le (d e : D) : (qFdiv d e).le (dFdiv d e) := by
  rw [qFdiv_def]
  split
  · rename_i a b
    cases c : Nat.beq b 0 || Nat.ble 1073741824 b with
    | true => exact .refl _
    | false =>
      refine Out.le_ok ?_
      rw [Bool.or_eq_false_iff] at c
      have h0 : b ≠ 0 := fun h => by rw [h] at c; cases c.1
      have h1 : b < 1073741824 := by
        rcases Nat.lt_or_ge b 1073741824 with h | h
        · exact h
        · have := Nat.ble_eq.mpr h
          rw [this] at c; cases c.2
      show (if CDivN (Int.ofNat a) (Int.ofNat b) then Out.ok (PyData.int ((Int.ofNat a).fdiv (Int.ofNat b))) else .bad) = _
      rw [if_pos (by unfold CDivN; exact ⟨by intro h; exact h0 (by injection h), by simpa using h1⟩)]
      rw [show (Int.ofNat a).fdiv (Int.ofNat b) = Int.ofNat (a / b) from (Int.ofNat_fdiv a b).symm]
  · exact .refl _
theorem s_fdivQ : S2 sFdiv qFdiv := s_fdiv.le qFdiv_le
def nthD (ds : List D) : Nat → Out D := @List.rec D (fun _ => Nat → Out D) (fun _ => .bad) (fun d _ ih n => bcs (Nat.beq n 0) (.ok d) (ih (Nat.sub n 1))) ds
theorem nthD_is : ∀ (ds : List D) (n : Nat) (d : D), nthD ds n = .ok d → ds[n]? = some d
  | [], _, _, h => by cases h
  | x :: r, 0, d, h => by injection h with h; subst h; rfl
  | x :: r, n + 1, d, h => nthD_is r n d h
theorem nthD_er : ∀ (ds : List D) (n : Nat) (e : Exc), nthD ds n ≠ .er e
  | [], _, _, h => by cases h
  | x :: r, 0, d, h => by cases h
  | x :: r, n + 1, d, h => nthD_er r n d h
theorem nthD_at (ds : List D) (n : Nat) : (nthD ds n).le (atO ds (.ofNat n)) := by
  cases h : nthD ds n with
  | ok d =>
    refine Out.le_ok ?_
    have := nthD_is ds n d h
    unfold atO L2.atI ixN
    have hl : n < ds.length := (List.getElem?_eq_some_iff.mp this).1
    rw [if_pos (by simp), if_pos (by simpa using hl)]
    show (match (some (Int.ofNat n).toNat).bind fun j => ds[j]? with | some v => Out.ok v | none => .bad) = _
    simp [this]
  | er e => exact (nthD_er _ _ _ h).elim
  | bad => exact Out.le_bad _
def qIx (d e : D) : Out D := dcs (dIxA d e) (fun _ => dIxA d e) (fun _ => dIxA d e) (fun _ => dIxA d e) (fun ds => dci (dIxA d e) (fun i => @Int.rec (fun _ => Out D) (fun n => nthD ds n) (fun _ => dIxA d e) i) e) (fun ds => dci (dIxA d e) (fun i => @Int.rec (fun _ => Out D) (fun n => nthD ds n) (fun _ => dIxA d e) i) e) (fun _ => dIxA d e) d
theorem qIx_def (d e : D) : qIx d e = match d, e with
  | .list ds, .int (.ofNat n) => nthD ds n
  | .tuple ds, .int (.ofNat n) => nthD ds n
  | d, e => dIxA d e := by
  cases d <;> first | rfl | (cases e <;> first | rfl | (rename_i i; cases i <;> rfl))
theorem qIx_le (d e : D) : (qIx d e).le (dIxA d e) := by
  rw [qIx_def]
  split
  · exact nthD_at _ _
  · exact nthD_at _ _
  · exact .refl _
theorem s_ixQ : S2 sIxA qIx := s_ixA.le qIx_le
/-! repr(a) == repr(b) -/
def oNeRepr (t u : Out (List D)) : Out D := t.bind fun a => match a with
  | [d] => bif reprOk d then (u.bind fun b => match b with
      | [e] => bif RN.sameD d e then .ok (.bool false) else (dRepr [e]).noer.bind fun y => (dNe (.str d.shown) y).noer
      | _ => .bad) else .bad
  | _ => .bad
def oEqRepr (t u : Out (List D)) : Out D := t.bind fun a => match a with
  | [d] => bif reprOk d then (u.bind fun b => match b with
      | [e] => bif RN.sameD d e then .ok (.bool true) else (dRepr [e]).noer.bind fun y => (dEq (.str d.shown) y).noer
      | _ => .bad) else .bad
  | _ => .bad
theorem dNe_str (x : Str) : dNe (.str x) (.str x) = .ok (.bool false) := by
  unfold dNe
  rw [if_pos (show eqOkB (.str x) (.str x) = true from rfl)]
  show Out.ok (PyData.bool (!PyData.eqv (.str x) (.str x))) = _
  simp [PyData.eqv]
theorem dEq_str (x : Str) : dEq (.str x) (.str x) = .ok (.bool true) := by
  unfold dEq
  rw [if_pos (show eqOkB (.str x) (.str x) = true from rfl)]
  show Out.ok (PyData.bool (PyData.eqv (.str x) (.str x))) = _
  simp [PyData.eqv]
theorem neRepr_le (t u : Out (List D)) : (oNeRepr t u).le (o2 dNe (oN dRepr t) (oN dRepr u)) := by
  unfold oNeRepr o2 oN
  cases t with
  | er e => exact .refl _
  | bad => exact .refl _
  | ok a =>
    simp only [Out.ok_bind]
    split
    · rename_i d
      cases h : reprOk d with
      | false => exact Out.le_bad _
      | true =>
        rw [dRepr_1, if_pos h]
        show Out.le (u.bind _) ((Out.bind u _).bind _)
        rw [Out.bind_assoc]
        refine Out.le.bind fun b => ?_
        split
        · rename_i e
          cases c : RN.sameD d e with
          | true =>
            obtain rfl := RN.sameD_eq c
            rw [dRepr_1, if_pos h]
            exact Out.le_ok (by rw [noer_ok, Out.ok_bind, dNe_str]; rfl)
          | false => exact .refl _
        · exact Out.le_bad _
    · exact Out.le_bad _
theorem eqRepr_le (t u : Out (List D)) : (oEqRepr t u).le (o2 dEq (oN dRepr t) (oN dRepr u)) := by
  unfold oEqRepr o2 oN
  cases t with
  | er e => exact .refl _
  | bad => exact .refl _
  | ok a =>
    simp only [Out.ok_bind]
    split
    · rename_i d
      cases h : reprOk d with
      | false => exact Out.le_bad _
      | true =>
        rw [dRepr_1, if_pos h]
        show Out.le (u.bind _) ((Out.bind u _).bind _)
        rw [Out.bind_assoc]
        refine Out.le.bind fun b => ?_
        split
        · rename_i e
          cases c : RN.sameD d e with
          | true =>
            obtain rfl := RN.sameD_eq c
            rw [dRepr_1, if_pos h]
            exact Out.le_ok (by rw [noer_ok, Out.ok_bind, dEq_str]; rfl)
          | false => exact .refl _
        · exact Out.le_bad _
    · exact Out.le_bad _
end
end VL
namespace VL
open PySem PySem.Spec PyProof.Rows L2
noncomputable section
variable {α β γ S S' L M ρ : Type} {s s0 s1 s2 s3 : List Sl} {X : Exc → Nat → Prop} {J : Jx S L}
theorem FL.ext' {v u : FL} (h : v.l = u.l) : v = u := by
  obtain ⟨n, r, h1⟩ := v
  obtain ⟨m, q, h2⟩ := u
  have : r = q := by
    have := congrArg List.reverse h
    simpa [FL.l] using this
  subst this
  subst h1
  subst h2
  rfl
theorem FL.of_l (v : FL) : FL.of v.l = v := FL.ext' (FL.l_of _)
theorem FL.of_app (v : FL) (d : D) : FL.of (v.l ++ [d]) = v.push d := FL.ext' (by rw [FL.l_of, FL.l_push])
theorem rs_appPopF {i j : Nat} {w : WE D} {b : WS} {v u : FL} {t : Out D} {k : FL → FL → So S L} {g : FL → FL → List Sl} (hx : s.getD i .no = .lst v.l) (hy : s.getD j .no = .lst u.l) (hx1 : s1.getD i .no = .lst v.l) (hy1 : s1.getD j .no = .lst u.l) (h : RO w s s1 t id X)
    (e : ∀ x y : FL, (s1.set j (.lst y.l)).set i (.lst x.l) = g x y) (hb : ∀ x y, RS b (g x y) (k x y) J X) :
    RS (wSeq (wAppPop i j w) b) s ((t.bind fun d => flPop v u d).so fun p => k p.1 p.2) J X := by
  have := rs_appPop (k := fun xs ys => k (FL.of xs) (FL.of ys)) (g := fun xs ys => g (FL.of xs) (FL.of ys)) hx hy hx1 hy1 h (fun xs ys => by have := e (FL.of xs) (FL.of ys); rwa [FL.l_of, FL.l_of] at this) (fun xs ys => hb _ _)
  suffices eq : ((t.bind fun d => if v.l.length < 16777216 then (dPop u.l d).noer else .bad).so fun p => k (FL.of (v.l ++ [p.1])) (FL.of p.2)) = (t.bind fun d => flPop v u d).so fun p => k p.1 p.2 from by
    rw [← eq]; exact this
  cases t with
  | er e => rfl
  | bad => rfl
  | ok d =>
    show Out.so _ _ = Out.so _ _
    exact (flPop_is v u d (k' := fun xs ys => k (FL.of xs) (FL.of ys)) fun x y => by rw [FL.of_l, FL.of_l]).symm
theorem pj_appPopF {i j : Nat} {w : WE D} {b : WS} {v u : FL} {t : Pn D} {k : FL → FL → Pn (So S L)} {g : FL → FL → List Sl} (hx : s.getD i .no = .lst v.l) (hy : s.getD j .no = .lst u.l) (hx1 : s1.getD i .no = .lst v.l) (hy1 : s1.getD j .no = .lst u.l) (h : PO w s s1 t id)
    (e : ∀ x y : FL, (s1.set j (.lst y.l)).set i (.lst x.l) = g x y) (hb : ∀ x y, PSj b (g x y) (k x y) J X) :
    PSj (wSeq (wAppPop i j w) b) s (t.bind fun d => (Pn.lift (flPop v u d)).bind fun p => k p.1 p.2) J X := by
  have := pj_appPop (k := fun xs ys => k (FL.of xs) (FL.of ys)) (g := fun xs ys => g (FL.of xs) (FL.of ys)) hx hy hx1 hy1 h (fun xs ys => by have := e (FL.of xs) (FL.of ys); rwa [FL.l_of, FL.l_of] at this) (fun xs ys => hb _ _)
  suffices eq : (t.bind fun d => (Pn.lift (if v.l.length < 16777216 then dPop u.l d else .bad)).bind fun p => k (FL.of (v.l ++ [p.1])) (FL.of p.2)) = (t.bind fun d => (Pn.lift (flPop v u d)).bind fun p => k p.1 p.2) from by
    rw [← eq]; exact this
  show (fun c P => t c fun d c' => _) = fun c P => t c fun d c' => _
  funext c P
  congr 1
  funext d c'
  show Out.post _ _ _ = Out.post _ _ _
  unfold flPop
  rw [FL.len]
  by_cases h : v.n < 16777216
  · rw [if_pos h, show Nat.blt v.n 16777216 = true from Nat.ble_eq.mpr h, cond_true]
    cases dPop u.l d with
    | ok p =>
      show k (FL.of (v.l ++ [p.1])) (FL.of p.2) c' P = k (v.push p.1) (FL.of p.2) c' P
      rw [FL.of_app]
    | er e => rfl
    | bad => rfl
  · rw [if_neg h]
    cases hb : Nat.blt v.n 16777216 with
    | true => exact (h (Nat.ble_eq.mp hb)).elim
    | false => rfl
/-! dict([..]) with tuples for keys -/
def dDictTD (ds : List D) : Out TD := match ds with
  | [.list xs] => (match pairT xs with | some ps => .ok (ps.foldl (fun a p => a.put p.1 p.2) TD.nil) | none => .bad)
  | _ => .bad
theorem foldTD : ∀ (ps : List (List Key × D)) (a : TD), (ps.foldl (fun a p => a.put p.1 p.2) a).l = ps.foldl (fun a p => putP a p.1 p.2) a.l
  | [], _ => rfl
  | p :: r, a => by rw [List.foldl_cons, List.foldl_cons, foldTD r, TD.l_put]
theorem r_dictTD {ws : WE (List D)} {t : Out (List D)} (h : RO ws s s1 t id X) : RO (wN sDictT ws) s s1 (oN dDictTD t) (fun v : TD => .dt v.l) X := fun c P q => h c _ ((Out.post_bind q).imp fun a p => by
  have p := noer_post p
  unfold dDictTD at p
  show sDictT a _
  unfold sDictT
  split at p
  · split at p
    · rename_i ps hps
      have p : P (.dt (ps.foldl (fun a p => a.put p.1 p.2) TD.nil).l) ⟨s1, c⟩ := p
      rw [foldTD] at p
      exact ⟨ps, hps, p⟩
    · exact p.elim
  · exact p.elim)
end
end VL
/-! x = [..], x = {..}, the name a local: stored ahead of the block's end. -/
namespace VL
open PySem PySem.Spec PyProof.Rows L2
noncomputable section
section
variable {X : Cx} {G : Gh} {tg iter elt tg1 iter1 kx vx : Expr} {ifs ifs1 : List Expr} {pos spos pos' : Pos} {vs vs1 : List Nat}
theorem as_setLc (i : Nat) {x : Str} {wi : WE (List D)} {g : WG} {t : WE Bool} {w : WE Rv} {scope : Scope} (own : List (Str × Nat)) (hN : X.N.Nodup) (hi : AI X G tg iter wi) (ok : BlkOk X.N X.env.scope scope own)
    (hg : ∀ (Zb : Hp) (s : Shared) (H : Hp) (C : Addr) (cl : List (Str × Addr)) (fp : List Addr), AG (X.blk s H scope (compEnvC scope cl C X.env) fp) (G.wb Zb) tg vs g)
    (ht : ∀ (Zb : Hp) (s : Shared) (H : Hp) (C : Addr) (cl : List (Str × Addr)) (fp : List Addr), ATs (X.blk s H scope (compEnvC scope cl C X.env) fp) (G.wb Zb) ifs t)
    (he : ∀ (Zb : Hp) (s : Shared) (H : Hp) (C : Addr) (cl : List (Str × Addr)) (fp : List Addr), AE (X.blk s H scope (compEnvC scope cl C X.env) fp) (G.wb Zb) elt w)
    (hv : ∀ i ∈ vs, i ∈ own.map (·.2) := by decide) (hc : X.calm = true := by rfl) (hs : ∀ x, foldedSetIterable iter X.env x = pure x := by intro _; rfl) (hy : X.N[i]? = some x := by rfl) (hyl : X.env.scope.names.lookup x = some .local := by rfl)
    (hsw : swapsWith (.ListComp elt [⟨tg, iter, ifs, 0⟩] scope pos) (some (.Name x pos')) spos.line X.env = pure true := by exact sw_true rfl rfl rfl (by decide +kernel)) :
    AS X G (.Assign [.Name x pos'] (.ListComp elt [⟨tg, iter, ifs, 0⟩] scope pos) spos) (wSetZ i (wComp (own.map (·.2)) wi g t w)) := by
  have exTs : ∀ (s : Shared) (H : Hp) (C : Addr) (cl : List (Str × Addr)) (fp : List Addr), PTs (X.blk s H scope (compEnvC scope cl C X.env) fp) ifs (fun σ H1 Q => ∃ Zb, lift X.K (G.wb Zb) (fun _ _ _ _ (a b : Bool) => a = b) t σ H1 Q) := fun s H C cl fp => ⟨fun pins s1 σ H1 Q I ⟨Zb, q⟩ => (ht Zb s H C cl fp).run pins s1 σ H1 Q I q⟩
  refine PSi (ps_setLc hc hN hy hyl hsw hi ok (fun s H C cl fp => exG (t := fun Zb => liftG X.K (G.wb Zb) vs g) fun Zb => hg Zb s H C cl fp) exTs (fun s H C cl fp => exE (t := fun Zb => lift X.K (G.wb Zb) (fun _ Z _ _ r v => RvR X.K G.PN Z r v) w) fun Zb => he Zb s H C cl fp) hs) fun T σ H ⟨Γ, Z, O, E, R, w, k⟩ => ?_
  refine comp_of own hv ⟨Γ, Z, O, _, R, w, fun r Γ1 v Z1 O1 H1 p1 R1 S1 b1 => ?_⟩
  obtain ⟨O', R'⟩ := R1.setZ (fun a h => ⟨R.H0free h, R.pfree h⟩) i b1
  exact k.nx _ _ _ _ _ p1 R'
theorem as_setLc2 (i : Nat) {x : Str} {wi : WE (List D)} {g : WG} {t : WE Bool} {wi1 : WE (List D)} {g1 : WG} {t1 : WE Bool} {w : WE Rv} {scope : Scope} (own : List (Str × Nat)) (hN : X.N.Nodup) (hi : AI X G tg iter wi) (ok : BlkOk X.N X.env.scope scope own)
    (hg : ∀ (Zb : Hp) (s : Shared) (H : Hp) (C : Addr) (cl : List (Str × Addr)) (fp : List Addr), AG (cX X scope s H C cl fp) (G.wb Zb) tg vs g)
    (ht : ∀ (Zb : Hp) (s : Shared) (H : Hp) (C : Addr) (cl : List (Str × Addr)) (fp : List Addr), ATs (cX X scope s H C cl fp) (G.wb Zb) ifs t)
    (hi1 : ∀ (Zb : Hp) (s : Shared) (H : Hp) (C : Addr) (cl : List (Str × Addr)) (fp : List Addr), AI (cX X scope s H C cl fp) (G.wb Zb) tg1 iter1 wi1)
    (hg1 : ∀ (Zb : Hp) (s : Shared) (H : Hp) (C : Addr) (cl : List (Str × Addr)) (fp : List Addr), AG (cX X scope s H C cl fp) (G.wb Zb) tg1 vs1 g1)
    (ht1 : ∀ (Zb : Hp) (s : Shared) (H : Hp) (C : Addr) (cl : List (Str × Addr)) (fp : List Addr), ATs (cX X scope s H C cl fp) (G.wb Zb) ifs1 t1)
    (he : ∀ (Zb : Hp) (s : Shared) (H : Hp) (C : Addr) (cl : List (Str × Addr)) (fp : List Addr), AE (cX X scope s H C cl fp) (G.wb Zb) elt w)
    (hv : ∀ i ∈ vs, i ∈ own.map (·.2) := by decide) (hv1 : ∀ i ∈ vs1, i ∈ own.map (·.2) := by decide) (hc : X.calm = true := by rfl) (hs : ∀ x, foldedSetIterable iter X.env x = pure x := by intro _; rfl) (hs1 : ∀ env x, foldedSetIterable iter1 env x = pure x := by intro _ _; rfl) (hy : X.N[i]? = some x := by rfl) (hyl : X.env.scope.names.lookup x = some .local := by rfl)
    (hsw : swapsWith (.ListComp elt [⟨tg, iter, ifs, 0⟩, ⟨tg1, iter1, ifs1, 0⟩] scope pos) (some (.Name x pos')) spos.line X.env = pure true := by exact sw_true rfl rfl rfl (by decide +kernel)) :
    AS X G (.Assign [.Name x pos'] (.ListComp elt [⟨tg, iter, ifs, 0⟩, ⟨tg1, iter1, ifs1, 0⟩] scope pos) spos) (wSetZ i (wComp2 (own.map (·.2)) vs1 wi g t wi1 g1 t1 w)) := by
  have exTs : ∀ (s : Shared) (H : Hp) (C : Addr) (cl : List (Str × Addr)) (fp : List Addr), PTs (cX X scope s H C cl fp) ifs (fun σ H1 Q => ∃ Zb, lift X.K (G.wb Zb) (fun _ _ _ _ (a b : Bool) => a = b) t σ H1 Q) := fun s H C cl fp => ⟨fun pins s1 σ H1 Q I ⟨Zb, q⟩ => (ht Zb s H C cl fp).run pins s1 σ H1 Q I q⟩
  have exTs1 : ∀ (s : Shared) (H : Hp) (C : Addr) (cl : List (Str × Addr)) (fp : List Addr), PTs (cX X scope s H C cl fp) ifs1 (fun σ H1 Q => ∃ Zb, lift X.K (G.wb Zb) (fun _ _ _ _ (a b : Bool) => a = b) t1 σ H1 Q) := fun s H C cl fp => ⟨fun pins s1 σ H1 Q I ⟨Zb, q⟩ => (ht1 Zb s H C cl fp).run pins s1 σ H1 Q I q⟩
  have exI1 : ∀ (s : Shared) (H : Hp) (C : Addr) (cl : List (Str × Addr)) (fp : List Addr), PI (cX X scope s H C cl fp) tg1 iter1 (fun σ H1 R => ∃ Zb, liftI X.K (G.wb Zb) wi1 σ H1 R) := fun s H C cl fp => ⟨fun pins s1 σ H1 R I ⟨Zb, q⟩ => (hi1 Zb s H C cl fp).run pins s1 σ H1 R I q⟩
  refine PSi (ps_setLc2 (vs1 := vs1) hc hN hy hyl hsw hi ok hv1 (fun s H C cl fp => exG (t := fun Zb => liftG X.K (G.wb Zb) vs g) fun Zb => hg Zb s H C cl fp) exTs exI1 (fun s H C cl fp => exG (t := fun Zb => liftG X.K (G.wb Zb) vs1 g1) fun Zb => hg1 Zb s H C cl fp) exTs1
    (fun s H C cl fp => exE (t := fun Zb => lift X.K (G.wb Zb) (fun _ Z _ _ r v => RvR X.K G.PN Z r v) w) fun Zb => he Zb s H C cl fp) hs hs1) fun T σ H ⟨Γ, Z, O, E, R, w, k⟩ => ?_
  refine comp2_of own hv hv1 ⟨Γ, Z, O, _, R, w, fun r Γ1 v Z1 O1 H1 p1 R1 S1 b1 => ?_⟩
  obtain ⟨O', R'⟩ := R1.setZ (fun a h => ⟨R.H0free h, R.pfree h⟩) i b1
  exact k.nx _ _ _ _ _ p1 R'
theorem as_setDc {κ : Type} [DecidableEq κ] (B : DKind κ) (i : Nat) {x : Str} {wi : WE (List D)} {g : WG} {t : WE Bool} {wk wv : WE Rv} {scope : Scope} (own : List (Str × Nat)) (room : X.A.units < cLine) (nd : X.N.Nodup) (hi : AI X G tg iter wi) (blk : BlkOk X.N X.env.scope scope own)
    (hg : ∀ (Zb : Hp) (s : Shared) (H : Hp) (C : Addr) (cl : List (Str × Addr)) (fp : List Addr), AG (cX X scope s H C cl fp) (G.wb Zb) tg vs g)
    (ht : ∀ (Zb : Hp) (s : Shared) (H : Hp) (C : Addr) (cl : List (Str × Addr)) (fp : List Addr), ATs (cX X scope s H C cl fp) (G.wb Zb) ifs t)
    (hk : ∀ (Zb : Hp) (s : Shared) (H : Hp) (C : Addr) (cl : List (Str × Addr)) (fp : List Addr), AE (cX X scope s H C cl fp) (G.wb Zb) kx wk)
    (hw : ∀ (Zb : Hp) (s : Shared) (H : Hp) (C : Addr) (cl : List (Str × Addr)) (fp : List Addr), AE (cX X scope s H C cl fp) (G.wb Zb) vx wv)
    (hv : ∀ i ∈ vs, i ∈ own.map (·.2) := by decide) (calm : X.calm = true := by rfl) (fold : ∀ x, foldedSetIterable iter X.env x = pure x := by intro _; rfl) (hy : X.N[i]? = some x := by rfl) (hyl : X.env.scope.names.lookup x = some .local := by rfl)
    (hsw : swapsWith (.DictComp kx vx [⟨tg, iter, ifs, 0⟩] scope pos) (some (.Name x pos')) spos.line X.env = pure true := by exact sw_trueD rfl rfl rfl (by decide +kernel)) :
    AS X G (.Assign [.Name x pos'] (.DictComp kx vx [⟨tg, iter, ifs, 0⟩] scope pos) spos) (wSetZ i (wDComp B (own.map (·.2)) wi g t wk wv)) := by
  have tests : ∀ (s : Shared) (H : Hp) (C : Addr) (cl : List (Str × Addr)) (fp : List Addr), PTs (cX X scope s H C cl fp) ifs (fun σ H1 Q => ∃ Zb, lift X.K (G.wb Zb) (fun _ _ _ _ (a b : Bool) => a = b) t σ H1 Q) := fun s H C cl fp => ⟨fun pins s1 σ H1 Q I ⟨Zb, q⟩ => (ht Zb s H C cl fp).run pins s1 σ H1 Q I q⟩
  refine PSi (ps_setDc B.emp room calm nd hy hyl hsw hi blk (fun s H C cl fp => exG (t := fun Zb => liftG X.K (G.wb Zb) vs g) fun Zb => hg Zb s H C cl fp) tests (fun s H C cl fp => exE (t := fun Zb => lift X.K (G.wb Zb) (fun _ Z _ _ r v => RvR X.K G.PN Z r v) wk) fun Zb => hk Zb s H C cl fp)
    (fun s H C cl fp => exE (t := fun Zb => lift X.K (G.wb Zb) (fun _ Z _ _ r v => RvR X.K G.PN Z r v) wv) fun Zb => hw Zb s H C cl fp) fold) fun T σ H ⟨Γ, Z, O, E, R, w, k⟩ => ?_
  refine dcomp_of B own hv ⟨Γ, Z, O, _, R, w, fun r Γ1 v Z1 O1 H1 p1 R1 S1 b1 => ?_⟩
  obtain ⟨O', R'⟩ := R1.setZ (fun a h => ⟨R.H0free h, R.pfree h⟩) i b1
  exact k.nx _ _ _ _ _ p1 R'
end
/-- what a slot may hold that no list or dict of one's own stands in -/
abbrev Pl := {x : Sl // plainSl x}
theorem plain_cons {s : List Sl} {v : Nat} {vs : List Nat} (h : plainSl (s.getD v .no)) (r : ∀ v ∈ vs, plainSl (s.getD v .no)) : ∀ w ∈ v :: vs, plainSl (s.getD w .no) := fun w hw => by
  rcases List.mem_cons.mp hw with rfl | hw
  · exact h
  · exact r w hw
theorem plain_nil {s : List Sl} : ∀ w ∈ ([] : List Nat), plainSl (s.getD w .no) := fun _ h => (List.not_mem_nil h).elim
/-! dict([..]) with ints or texts for keys -/
variable {s s1 : List Sl} {X : Exc → Nat → Prop}
def rDictK (K : Fg) : List V → Hp → VK → Prop := fun xs H Q => ∃ (a : Addr) (ps : List Addr) (kvs : List (Key × V)), xs = [.ref a] ∧ SqL K H a (ps.map V.ref) ∧ Paired (fun p kv => SqT K H p [kV kv.1, kv.2]) ps kvs ∧
    ∀ p, H p = none → Q (.ref p) (upd H p (.dK (mergeK [] kvs)))
theorem pairK_is {K : Fg} {Z : Hp} : ∀ {xs : List D} {ps : List (Key × D)} {vs : List V}, pairK xs = some ps → DRs K Z vs xs → ∃ (as : List Addr) (es : List (Key × V)), vs = as.map V.ref ∧ Paired (fun p e => SqT K Z p [kV e.1, e.2]) as es ∧ dkR K Z es ps := by
  intro xs
  induction xs with
  | nil => intro ps vs h hv; cases h; cases hv; exact ⟨[], [], rfl, .nil, .nil⟩
  | cons x r ih =>
    intro ps vs h hv
    unfold pairK at h
    split at h
    · rename_i e; cases e
    · rename_i k v r' e
      cases e
      split at h
      · rename_i q ps' hq hr
        cases h
        cases hv with
        | cons hx ht =>
          obtain ⟨as, es, rfl, pr, rel⟩ := ih hr ht
          cases hx with
          | tup hs hd =>
            cases hd with
            | cons hk hd2 => cases hd2 with
              | cons hv' hd3 =>
                cases hd3
                have := keyOf_is hq
                subst this
                have ek := keysV (ks := [q]) (.cons hk .nil)
                cases ek
                exact ⟨_ :: as, (q, _) :: es, rfl, .cons hs pr, .cons ⟨rfl, hv'⟩ rel⟩
      · cases h
    · cases h
theorem foldK_rel {K : Fg} {Z : Hp} : ∀ (es : List (Key × V)) (ps : List (Key × D)) (a : List (Key × V)) (b : List (Key × D)), dkR K Z es ps → dkR K Z a b → dkR K Z (mergeK a es) (ps.foldl (fun a p => putP a p.1 p.2) b)
  | [], _, a, b, .nil, h => h
  | p :: es, q :: ps, a, b, .cons ⟨e1, e2⟩ t, h => by
    show dkR K Z (mergeK (putK a p.1 p.2) es) _
    rw [List.foldl_cons, ← e1]
    exact foldK_rel es ps _ _ t (h.put p.1 e2)
theorem p_dictK {K : Fg} : PureN K (rDictK K) sDictK := by
  intro PN Z H xs ds P Q C b s k
  unfold sDictK at s
  split at s
  · obtain ⟨ps, hps, p⟩ := s
    obtain ⟨v, rfl, bb⟩ := b.one
    obtain ⟨a, vs, rfl, h, t⟩ := bb.listI C.sub
    obtain ⟨as, es, rfl, pr, rel⟩ := pairK_is hps t
    refine ⟨a, as, es, rfl, SqL.of h, Paired.mapP pr fun p e q => C.sub.sqT q, fun q hq => k _ _ _ _ p (Grow.new' C.sub hq) ⟨q, _, rfl, hq, C.sub.free hq, upd_same, foldK_rel es ps [] [] rel .nil⟩⟩
  · exact s.elim
def dDictK (ds : List D) : Out (List (Key × D)) := match ds with
  | [.list xs] => (match pairK xs with | some ps => .ok (foldP ps) | none => .bad)
  | _ => .bad
theorem r_dictK {ws : WE (List D)} {t : Out (List D)} (h : RO ws s s1 t id X) : RO (wN sDictK ws) s s1 (oN dDictK t) .dk X := fun c P q => h c _ ((Out.post_bind q).imp fun a p => by
  have p := noer_post p
  unfold dDictK at p
  show sDictK a _
  unfold sDictK
  split at p
  · split at p
    · rename_i ps hps; exact ⟨ps, hps, p⟩
    · exact p.elim
  · exact p.elim)
end
end VL
/-! len(d), list(d), sorted(d): a dict's keys. -/
namespace VL
open PySem PySem.Spec PyProof.Rows L2
noncomputable section
/-- a dict stands at x; its keys -/
def KeysR (K : Fg) (H : Hp) (x : V) (vs : List V) : Prop := ∃ a, x = .ref a ∧ ((∃ es, RdK H a es ∧ vs = es.map fun p => kV p.1) ∨ ∃ es, RdX H a es ∧ KeysX K H es ∧ vs = es.map fun p => .ref p.2.1)
section
variable {X : Cx} {pins : List (Addr × Obj)} {s : Shared} {σ : L2.St} {H : Hp}
theorem keys_raw (I : Inv X pins σ H s) {x : V} {v : Value} {vs : List V} (rx : RelV x v) (k : KeysR X.K H x vs) : ∃ d, v = .ref d ∧ (d == sysModules) = false ∧ ∃ es ep, s.heap.DictRaw d es ep ∧ es.size = vs.length ∧ ∀ i (hi : i < es.size), ∃ w, vs[i]? = some w ∧ RelV w es[i].key := by
  obtain ⟨a, rfl, k⟩ := k
  cases rx
  rcases k with ⟨es, r, rfl⟩ | ⟨es, r, ks, rfl⟩
  · obtain ⟨nm, ws, rel, dd⟩ := r.is I.hok I.kIn
    obtain ⟨en, ep, raw, hs, hk⟩ := dd.raw
    have hl : es.length = ws.length := rel.length
    refine ⟨a, rfl, nm, en, ep, raw, by rw [hs, List.length_map, hl], fun i hi => ?_⟩
    have h1 : i < es.length := by omega
    have h2 : i < ws.length := by omega
    have e1 : es[i]? = some es[i] := List.getElem?_eq_getElem h1
    refine ⟨kV es[i].1, by rw [List.getElem?_map, e1]; rfl, ?_⟩
    have e2 : ws[i]? = some ws[i] := List.getElem?_eq_getElem h2
    have hk' := (hk i hi ws[i].1 ws[i].2 e2).1
    have same : es[i].1 = ws[i].1 := by
      have key : ∀ {a : List (Key × V)} {b : List (Key × Value)}, KV a b → ∀ i (h1 : i < a.length) (h2 : i < b.length), a[i].1 = b[i].1 := by
        intro a b r
        induction r with
        | nil => intro i h1; exact (Nat.not_lt_zero _ h1).elim
        | cons h _ ih => intro i h1 h2; cases i with
          | zero => exact h.1
          | succ i => exact ih i (Nat.lt_of_succ_lt_succ h1) (Nat.lt_of_succ_lt_succ h2)
      exact key rel i h1 h2
    rw [same]
    generalize ws[i].1 = q at hk'
    cases q with
    | inl n => exact (by
        have : (mixKind X.prog X.w).is (.inl n) en[i].key = true := hk'
        revert this
        generalize en[i].key = v
        intro this
        exact relV_key this)
    | inr n => exact relV_key hk'
  · obtain ⟨nm, xs, rel, dd⟩ := r.is I.hok I.kIn ks
    obtain ⟨en, ep, raw, hs, hk⟩ := dd.raw
    have hl : es.length = xs.length := Paired.length rel
    refine ⟨a, rfl, nm, en, ep, raw, by rw [hs, List.length_map, hl], fun i hi => ?_⟩
    have h1 : i < es.length := by omega
    have h2 : i < xs.length := by omega
    obtain ⟨y, ey, ek, _, _⟩ := hk i hi
    have e1 : es[i]? = some es[i] := List.getElem?_eq_getElem h1
    have e2 : xs[i]? = some xs[i] := List.getElem?_eq_getElem h2
    rw [e2] at ey; cases ey
    have same : es[i].2.1 = xs[i].2.1 := by
      have key : ∀ {a : List TKey} {b : List (List Key × Addr × Value)}, Paired pairX a b → ∀ i (h1 : i < a.length) (h2 : i < b.length), a[i].2.1 = b[i].2.1 := by
        intro a b r
        induction r with
        | nil => intro i h1; exact (Nat.not_lt_zero _ h1).elim
        | cons h _ ih => intro i h1 h2; cases i with
          | zero => exact h.2.1
          | succ i => exact ih i (Nat.lt_of_succ_lt_succ h1) (Nat.lt_of_succ_lt_succ h2)
      exact key rel i h1 h2
    refine ⟨.ref es[i].2.1, by rw [List.getElem?_map, e1]; rfl, ?_⟩
    rw [ek, same]
    exact rfl
theorem keys_len (I : Inv X pins σ H s) {x : V} {vs : List V} (k : KeysR X.K H x vs) : vs.length ≤ sizeLine := by
  obtain ⟨a, rfl, ⟨es, r, rfl⟩ | ⟨es, r, ks, rfl⟩⟩ := k
  · rw [List.length_map]
    rcases r with e | ⟨rfl, e⟩
    · exact (dk_rd I.hok e).1
    · exact Nat.zero_le _
  · rw [List.length_map]
    rcases r with e | ⟨rfl, e⟩
    · exact (dX_is I.hok I.kIn e ks).1
    · exact Nat.zero_le _
end
section
variable {X : Cx}
def rLenA (K : Fg) : List V → Hp → VK → Prop := fun xs H Q => ∃ x vs, xs = [x] ∧ KeysR K H x vs ∧ Q (.int (vs.length : Nat)) H
theorem call_lenA : CallR X (.builtin "len") (rLenA X.K) := by
  intro pins s σ H xs us Q I r h
  obtain ⟨x, vs, rfl, k, q⟩ := h
  obtain ⟨u, rfl, rx⟩ := vals1 r
  have hz := keys_len I k
  have l63 := line63
  obtain ⟨a, rfl, k⟩ := k
  cases rx
  rcases k with ⟨es, r, rfl⟩ | ⟨es, r, ks, rfl⟩
  · obtain ⟨nm, ws, rel, dd⟩ := r.is I.hok I.kIn
    have hl : es.length = ws.length := rel.length
    rw [List.length_map] at q hz
    refine call_len_dict nm dd (by rw [← hl]; rw [sizeLine_eq] at hz; omega) ?_
    rw [← hl]
    exact ⟨.int es.length, H, I.tok _, ⟨_, rfl⟩, q⟩
  · obtain ⟨nm, ws, rel, dd⟩ := r.is I.hok I.kIn ks
    have hl : es.length = ws.length := Paired.length rel
    rw [List.length_map] at q hz
    refine call_len_dictH nm dd (by rw [← hl]; rw [sizeLine_eq] at hz; omega) ?_
    rw [← hl]
    exact ⟨.int es.length, H, I.tok _, ⟨_, rfl⟩, q⟩
/-- what is gathered from a dict -/
theorem items_vals {n : Nat} {vs : List V} {es : Array DictEntry} {acc : Array Value} (hn : es.size = vs.length) (hk : ∀ i (hi : i < es.size), ∃ w, vs[i]? = some w ∧ RelV w es[i].key) (h : ItemsOf (fun i v => ∃ hi : i < es.size, v = es[i].key) acc es.size) : Vals vs acc.toList := by
  have key : ∀ (xs : List V) (us : List Value), xs.length = us.length → (∀ (i : Nat) (w : V) (u : Value), xs[i]? = some w → us[i]? = some u → RelV w u) → Vals xs us := by
    intro xs
    induction xs with
    | nil => intro us hl _; cases us with
      | nil => exact .nil
      | cons _ _ => cases hl
    | cons x r ih => intro us hl hr; cases us with
      | nil => cases hl
      | cons u us => exact .cons (hr 0 x u rfl rfl) (ih us (Nat.succ.inj hl) fun i w v e e' => hr (i + 1) w v e e')
  refine key vs acc.toList (by rw [← hn, ← h.1]; exact (Array.length_toList ..).symm) fun i w u e e' => ?_
  rw [Array.getElem?_toList] at e'
  obtain ⟨hi, rfl⟩ := h.2 i u e'
  obtain ⟨w', e2, r⟩ := hk i hi
  rw [e] at e2; cases e2
  exact r
def rListA (K : Fg) : List V → Hp → VK → Prop := fun xs H Q => ∃ x vs, xs = [x] ∧ KeysR K H x vs ∧ ∀ l, H l = none → Q (.ref l) (upd H l (.lst vs))
theorem call_listA (calm : X.calm = true) : CallR X (.type "list") (rListA X.K) := by
  intro pins s σ H xs us Q I r h
  obtain ⟨x, vs, rfl, k, q⟩ := h
  obtain ⟨u, rfl, rx⟩ := vals1 r
  have hz := keys_len I k
  obtain ⟨d, rfl, nm, es, ep, raw, hs, hk⟩ := keys_raw I rx k
  refine PySem.W.kdl_call (PySem.KdlSrc.rawDict nm) (I.ok.hd calm) raw (by rw [hs]; exact hz) fun h' tk acc' c' keep hg hi => ?_
  have rv := items_vals (n := es.size) hs hk hi
  exact ⟨.ref s.heap.objs.size, _, I.laid (t' := tk) (o := .lst vs) keep (Nat.le_refl _) ⟨hz, acc'.toList, c', rv, by simpa using hg⟩, rfl, q _ (I.hok.fresh (Nat.le_refl _))⟩
end
section
open PySem.Calls
variable {prog : Program} {w : World} {A : Around} {E : Value → Shared → Prop} {s : Shared} {d : Addr}
theorem sorted_dict {β : Type} {bs : List β} {enc : β → PyData} {R : Value → β → Prop} {Q : Value → Shared → Prop} {es : Array DictEntry} {ep : Nat} (nm : (d == sysModules) = false) (raw : s.heap.DictRaw d es ep) (hh : A.handled = none) (hn : es.size ≤ sizeLine) (hl : es.size = bs.length)
    (each : ∀ acc : Array Value, ItemsOf (fun i v => ∃ hi : i < es.size, v = es[i].key) acc es.size → PySem.W.EachIs R acc.toList bs ∧ PySem.W.EachIs (fun v b => ∃ as, Reads s.heap v (enc b) as) acc.toList bs)
    (al : PySem.W.AllAlike (bs.map enc)) (so : PySem.W.Sortable (bs.map enc)) (hu : ∀ b, b ∈ bs → A.units + 2 + (enc b).depth < cLine)
    (h : ∀ (h' : Heap) (tk : Nat) (D : Addr) (out : List Value), (∀ b o, s.heap.get? b = some o → h'.get? b = some o) → (∃ h0 : Heap, (∀ b o, s.heap.get? b = some o → h0.get? b = some o) ∧ D = h0.objs.size) → (∃ n, h'.get? D = some (seqObj "list" out.toArray n)) → out.length = bs.length → PySem.W.EachIs R out (bs.mergeSort (PySem.W.dataLe false enc)) → Q (.ref D) { s with heap := h', toks := tk }) :
    wpAny (model prog w) A (call (.builtin "sorted") [.ref d]) Q E s := by
  refine call_function_entry_kw kind_sorted plain_sorted entry_sorted (args_sorted1 _) ?_
  unfold Builtin.«sorted»
  refine wpAny_bind (m := checkCount "sorted" 1 1 _) (wpAny_pure (wpAny_bind (PySem.W.kdu_collect (A := A.in1) (PySem.KdlSrc.rawDict nm) hh raw hn fun h' tk acc keep hi => ?_)))
  obtain ⟨e, er⟩ := each acc hi
  have hv : acc.toList.length ≤ sizeLine := by rw [e.length, ← hl]; exact hn
  refine wpAny_bind (wpAny_newList ?_ hv)
  generalize hvs : acc.toList = vs at e er hv ⊢
  show wpAny _ _ _ _ _ { s with heap := h'.push (seqObj "list" vs.toArray 0), toks := tk }
  have ho : (h'.push (seqObj "list" vs.toArray 0)).get? h'.objs.size = some (seqObj "list" vs.toArray 0) := Heap.get?_push_size _ rfl
  have keep2 : ∀ b o, s.heap.get? b = some o → b ≠ h'.objs.size ∧ (h'.push (seqObj "list" vs.toArray 0)).get? b = some o := fun b o g => ⟨Nat.ne_of_lt (Heap.lt_size (keep b o g)), Heap.get?_push_of_some _ (keep b o g)⟩
  have er' : PySem.W.EachIs (fun v b => ∃ as, Reads (PySem.W.sortingHeap (h'.push (seqObj "list" vs.toArray 0)) h'.objs.size vs) v (enc b) as) vs bs := er.mono fun _ _ ⟨as, r⟩ => ⟨as, PyProof.Rows.Reads.keeps (fun b o q => by
    obtain ⟨n1, g⟩ := keep2 b o q
    exact PySem.W.sortingHeap_old n1 g) r⟩
  have sv := PySem.W.sortVals_data (R := R) false e er' al
  refine wpAny_bind (wpAny_holding (wpAny_call_entry_kw slot_list_sort ⟨_, ho, rfl⟩ entry_list_sort (wpAny_mono (PySem.W.list_sort_vals (P := fun f s' => f = .done (.ret .none) ∧ Q (.ref h'.objs.size) s') (s := { s with heap := h'.push (seqObj "list" vs.toArray 0), toks := tk }) ho
    (PySem.W.SortsAt.data (s := { s with heap := PySem.W.sortingHeap (h'.push (seqObj "list" vs.toArray 0)) h'.objs.size vs, toks := tk }) (PySem.W.each_map (R := fun v d => ∃ as, Reads (PySem.W.sortingHeap (h'.push (seqObj "list" vs.toArray 0)) h'.objs.size vs) v d as) enc er') al so (PySem.W.bound_map hu)) hv ⟨rfl, h _ tk _ _ (fun b o g => ?_) ?_ (PyProof.Rows.sortedHeap_at ho) (by rw [PySem.W.sortVals_length false rfl]; exact e.length) sv⟩)
    (fun f s' hf => ?_) fun _ _ e => e) (args_list_sort _)))
  · obtain ⟨n1, g2⟩ := keep2 b o g
    rw [PyProof.Rows.sortedHeap_old n1 (Heap.lt_size g2)]; exact g2
  · exact ⟨h', keep, rfl⟩
  · obtain ⟨rfl, hq⟩ := hf
    exact ⟨_, rfl, wpAny_pure ⟨_, rfl, hq⟩⟩
end
def rSortA (K : Fg) : List V → Hp → VK → Prop := fun xs H Q => ∃ (x : V) (vs : List V) (ds : List D) (T : V → D → Prop), xs = [x] ∧ KeysR K H x vs ∧ Paired T vs ds ∧ (∀ v d, T v d → Dp K H v d) ∧ PySem.W.AllAlike ds ∧ PySem.W.Sortable ds ∧ (∀ d ∈ ds, d.depth ≤ 60) ∧
  ∀ (vs' : List V) (p : Addr), Paired T vs' (ds.mergeSort (PySem.W.dataLe false fun d => d)) → H p = none → Q (.ref p) (upd H p (.lst vs'))
theorem c_sortA {X : Cx} (hu : X.A.units + 66 < cLine) (calm : X.calm = true) : CallR X (.builtin "sorted") (rSortA X.K) := by
  intro pins s σ H xs us Q I r h
  obtain ⟨x, vs, ds, T, rfl, k, pt, td, al, so, dp, q⟩ := h
  obtain ⟨u, rfl, rx⟩ := vals1 r
  have hz := keys_len I k
  obtain ⟨d, rfl, nm, es, ep, raw, hs, hk⟩ := keys_raw I rx k
  have hl := Paired.length pt
  have al' : PySem.W.AllAlike (ds.map fun d => d) := by rw [List.map_id']; exact al
  have so' : PySem.W.Sortable (ds.map fun d => d) := by rw [List.map_id']; exact so
  have hu' : ∀ b, b ∈ ds → X.A.units + 2 + b.depth < cLine := fun b hb => by have := dp b hb; omega
  refine sorted_dict (bs := ds) (enc := fun d => d) (R := fun u d => ∃ v, RelV v u ∧ T v d) nm raw (I.ok.hd calm) (by rw [hs]; exact hz) (by rw [hs, hl]) (fun acc hi => ?_) al' so' hu' fun h' tk D out keep hD hg ho eo => ?_
  · have rv := items_vals (n := es.size) hs hk hi
    exact ⟨each_of (fun v d u a b => ⟨v, b, a⟩) pt rv, each_of (fun v d u a b => Dp.reads I d v u (td v d a) b) pt rv⟩
  · obtain ⟨vs', hv, hp⟩ := back_of eo
    obtain ⟨n, hg⟩ := hg
    have hlen : vs'.length ≤ sizeLine := by rw [hv.length, ho, ← hl]; exact hz
    obtain ⟨h0, k0, rfl⟩ := hD
    have hn : H h0.objs.size = none := (I.hok.kept k0).fresh (Nat.le_refl _)
    have hp0 : s.heap.get? h0.objs.size = none := by
      cases e : s.heap.get? h0.objs.size with
      | none => rfl
      | some o => exact (Nat.lt_irrefl _ (Heap.lt_size (k0 _ _ e))).elim
    exact ⟨.ref _, upd H h0.objs.size (.lst vs'), I.laidN (t' := tk) keep hp0 hn ⟨hlen, out, n, hv, hg⟩, rfl, q _ _ hp hn⟩
end
end VL
/-! len(d), list(d), sorted(d), by data. -/
namespace VL
open PySem PySem.Spec PyProof.Rows L2
noncomputable section
section
variable {K : Fg}
theorem kd_rel {Z : Hp} : ∀ (k : Key), DR K Z (kV k) (keyD k)
  | .inl i => .int i
  | .inr x => .str x
theorem kds_rel {Z : Hp} : ∀ (k : List Key), DRs K Z (k.map kV) (k.map keyD)
  | [] => .nil
  | k :: r => .cons (kd_rel k) (kds_rel r)
theorem dk_keys {Z : Hp} : ∀ {es : List (Key × V)} {ts : List (Key × D)}, dkR K Z es ts → DRs K Z (es.map fun p => kV p.1) ((ts.map fun p => (keyD p.1, p.2)).map (·.1))
  | _, _, .nil => .nil
  | p :: _, q :: _, .cons ⟨e, _⟩ t => .cons (by show DR K Z (kV p.1) (keyD q.1); rw [e]; exact kd_rel _) (dk_keys t)
theorem dt_keys {Z : Hp} : ∀ {es : List TKey} {ts : List (List Key × D)}, dtR K Z es ts → DRs K Z (es.map fun p => V.ref p.2.1) ((ts.map fun p => (tupD p.1, p.2)).map (·.1))
  | _, _, .nil => .nil
  | p :: _, q :: _, .cons ⟨e, h, _⟩ t => .cons (by show DR K Z (.ref p.2.1) (tupD q.1); rw [← e]; exact .tup h (kds_rel _)) (dt_keys t)
theorem keys_br {PN : Addr → Prop} {Z H : Hp} (C : Ctx PN Z H) {v : V} {ds : List (D × D)} (b : BR K PN Z H v (.dict ds)) : ∃ vs, KeysR K H v vs ∧ DRs K Z vs (ds.map (·.1)) := by
  obtain ⟨a, rfl, ⟨es, ts, rd, rel, rfl⟩ | ⟨es, ts, rd, rel, rfl⟩⟩ := b.dictI C.sub
  · exact ⟨_, ⟨a, rfl, .inl ⟨es, .inl rd, rfl⟩⟩, dk_keys rel⟩
  · exact ⟨_, ⟨a, rfl, .inr ⟨es, .inl rd, rel.keys C.sub, rfl⟩⟩, dt_keys rel⟩
def sLenQ : SemN := fun ds P => match ds with
  | [.dict kvs] => P (vI kvs.length)
  | [.str z] => z.length ≤ 16777216 ∧ P (vI z.length)
  | ds => sLen ds P
theorem p_lenQ : PureN K (fun xs H Q => rLen K xs H Q ∨ rLenA K xs H Q) sLenQ := by
  intro PN Z H xs ds P Q C b s k
  unfold sLenQ at s
  split at s
  · obtain ⟨v, rfl, bb⟩ := b.one
    obtain ⟨vs, h1, h2⟩ := keys_br C bb
    refine .inr ⟨v, vs, rfl, h1, ?_⟩
    rw [h2.length, List.length_map]
    exact keepS C k s (.int _)
  · obtain ⟨v, rfl, bb⟩ := b.one
    obtain rfl := bb.strI
    exact .inl ⟨_, _, rfl, ⟨by rw [← line_is]; exact s.1, rfl⟩, keepS C k s.2 (.int _)⟩
  · exact .inl (p_len PN Z H xs ds P Q C b s k)
def sListA : SemN := fun ds P => match ds with
  | [.dict kvs] => P (.ls (kvs.map (·.1)))
  | ds => sList ds P
theorem p_listA : PureN K (fun xs H Q => rList K xs H Q ∨ rListA K xs H Q) sListA := by
  intro PN Z H xs ds P Q C b s k
  unfold sListA at s
  split at s
  · obtain ⟨v, rfl, bb⟩ := b.one
    obtain ⟨vs, h1, h2⟩ := keys_br C bb
    exact .inr ⟨v, vs, rfl, h1, newL C k s h2⟩
  · exact .inl (p_list PN Z H xs ds P Q C b s k)
def sSortA : SemN := fun ds P => match ds with
  | [.dict kvs] => nodicts (kvs.map (·.1)) = true ∧ PySem.W.AllAlike (kvs.map (·.1)) ∧ PySem.W.Sortable (kvs.map (·.1)) ∧ (∀ d ∈ kvs.map (·.1), d.depth ≤ 60) ∧ P (.ls ((kvs.map (·.1)).mergeSort (PySem.W.dataLe false fun d => d)))
  | ds => sSortD ds P
theorem p_sortA : PureN K (fun xs H Q => rSortDt K xs H Q ∨ rSortA K xs H Q) sSortA := by
  intro PN Z H xs ds P Q C b s k
  unfold sSortA at s
  split at s
  · obtain ⟨n, al, so, dp, s⟩ := s
    obtain ⟨v, rfl, bb⟩ := b.one
    obtain ⟨vs, h1, h2⟩ := keys_br C bb
    exact .inr ⟨v, vs, _, _, rfl, h1, h2.pair n, fun v d q => q.1.dp C.sub q.2, al, so, dp, fun vs' p h1 hp => newL C k s (DRs.ofPair h1) p hp⟩
  · exact .inl (p_sortD PN Z H xs ds P Q C b s k)
theorem c_lenA {X : Cx} : CallR X (.builtin "len") (fun xs H Q => rLen X.K xs H Q ∨ rLenA X.K xs H Q) := call_len.or call_lenA
theorem c_listA {X : Cx} (calm : X.calm = true) : CallR X (.type "list") (fun xs H Q => rList X.K xs H Q ∨ rListA X.K xs H Q) := call_list_of.or (call_listA calm)
theorem c_sortAll {X : Cx} (hu : X.A.units + 66 < cLine) (calm : X.calm = true) : CallR X (.builtin "sorted") (fun xs H Q => rSortDt X.K xs H Q ∨ rSortA X.K xs H Q) := (c_sortD hu).or (c_sortA hu calm)
end
/-! the plain side -/
def dLenQ (ds : List D) : Out D := match ds with
  | [.dict kvs] => .ok (.int kvs.length)
  | [.str z] => bif Nat.ble z.length 16777216 then .ok (.int z.length) else .bad
  | ds => dLen ds
theorem s_lenQ : SN sLenQ dLenQ := fun d P h => by
  unfold dLenQ at h
  unfold sLenQ
  split at h
  · exact h _ rfl
  · obtain ⟨h1, h2⟩ := post_bif h
    exact ⟨Nat.le_of_ble_eq_true h1, h2 _ rfl⟩
  · rename_i h1 h2
    exact s_len _ _ h
def dListA (ds : List D) : Out (List D) := match ds with
  | [.dict kvs] => .ok (kvs.map (·.1))
  | ds => dListL ds
theorem s_listA : SNl sListA dListA := fun d P h => by
  unfold dListA at h
  unfold sListA
  split at h
  · exact h
  · rename_i h1
    exact s_listL _ _ h
def dSortA (ds : List D) : Out (List D) := match ds with
  | [.dict kvs] => dSortL [.list (kvs.map (·.1))]
  | ds => dSortL ds
theorem s_sortA : SNl sSortA dSortA := fun d P h => by
  unfold dSortA at h
  unfold sSortA
  split at h
  · have := s_sortL _ _ h
    obtain ⟨h1, h2, h3, h4, h5, h6⟩ := this
    exact ⟨h1, h2, h3, h4, h6⟩
  · rename_i h1
    exact s_sortL _ _ h
end
end VL
/-! x.extend(e); xs.index(i), xs.count(i), max(xs), min(xs) of ints. -/
namespace VL
open PySem PySem.Spec PyProof.Rows L2
noncomputable section
section
variable {X : Cx} {G : Gh} {e : Expr} {x : Str} {px apos cpos pos : Pos}
def wExtend (i : Nat) (w : WE D) : WS := fun E Γ => (∃ ds, Γ.at i = .lst ds) ∧ w Γ fun d Γ1 => match d, Γ1.at i with
  | .list es, .lst ds => ds.length + es.length ≤ 16777216 ∧ E.nx (Γ1.set i (.lst (ds ++ es)))
  | _, _ => False
theorem as_extend (i : Nat) {w : WE D} (h : AB X G e w) (hN : X.N[i]? = some x := by rfl) (hv : Vis X.env.scope x := by first | exact Or.inl rfl | exact Or.inr (Or.inl rfl) | exact Or.inr (Or.inr rfl)) (hd : (x == ("__debug__" : Str)) = false := by decide) (hcd : (x == ("__classdict__" : Str)) = false := by decide)
    (hbase : attributeBase (.Name x px) "extend" X.env (eval (.Name x px) X.env) = eval (.Name x px) X.env := by rfl)
    (hfew : ((backTo cpos (starEach [e] X.env)).all (fun x => !x.1) && (backToKw cpos (keywordEach [] X.env)).all (fun x => x.1.isSome) && decide ([e].length + ([] : List Keyword).length + (if ([] : List Keyword).isEmpty then 0 else 1) < 30)) = true := by rfl)
    (hline : (apos.endLine == cpos.line) = true := by rfl) (hs : starEach [e] X.env = (false, eval e X.env) :: starEach [] X.env := by rfl) (hsw : swapsWith (.Call (.Attribute (.Name x px) "extend" apos) [e] [] cpos) none pos.line X.env = pure false := by rfl) :
    AS X G (.Expr (.Call (.Attribute (.Name x px) "extend" apos) [e] [] cpos) pos) (wExtend i w) :=
  PSi (ps_expr (pe_bm PySem.F.plainAttrs_list PySem.F.slot_list_extend PySem.F.type_list_extend mt_extend (pe_var hN hv hd hcd) (pa_cons h pa_nil hs) hbase hfew hline hs rfl) hsw) fun T σ H ⟨Γ, Z, O, E, R, ⟨⟨ds0, h0⟩, w⟩, k⟩ => by
    obtain ⟨a, vs0, e1, o1, q1, r1⟩ := R.slAt h0
    refine ⟨_, getD_some e1, .inl ⟨rfl, _, SqL.of q1⟩, Γ, Z, O, _, R, w, fun r Γ1 v Z1 O1 H1 p1 R1 S1 b1 => ?_⟩
    split at p1
    · rename_i es ds h1
      obtain ⟨a', vs, e2, o2, q2, r2⟩ := R1.slAt h1
      have ea : a' = a := by rw [e1] at e2; cases e2; rfl
      subst ea
      obtain ⟨hl, p1⟩ := p1
      obtain ⟨b, us, rfl, hb, r3⟩ := b1.listI R1.sub
      refine ⟨a', b, vs, us, rfl, rfl, q2, hb, by rw [r2.length, r3.length, ← line_is]; exact hl, ?_⟩
      refine k.nx _ _ _ _ _ p1 (R1.updOwn o2 ?_)
      exact ⟨a', _, e2, o2, upd_same, r2.append r3⟩
    · exact p1.elim
end
theorem dr_tup {K : Fg} {Z : Hp} {a : Addr} {od : Option Addr} {its : Array Value} {n : Nat} {sl : Array (Option Value)} {vs : List V} {ds : List D} (h : K.lookup a = some ⟨.type "tuple", od, .seq its n, sl⟩) (hz : its.size ≤ 16777216) (hv : Vals vs its.toList) (hd : DRs K Z vs ds) : DR K Z (.ref a) (.tuple ds) :=
  .tup (.inr ⟨_, its, n, h, rfl, rfl, by rw [← line_is]; exact hz, hv⟩) hd
/-! ints in a list -/
def ixNat (k : Int) : List Int → Nat → Option Nat
  | [], _ => none
  | n :: r, j => bif iBeq n k then some j else ixNat k r (j + 1)
theorem ixNat_is (k : Int) : ∀ (ns : List Int) (o j : Nat), ixNat k ns o = some j → o ≤ j ∧ ns[j - o]? = some k ∧ ∀ m n, m < j - o → ns[m]? = some n → n ≠ k
  | [], _, _, h => by cases h
  | n :: r, o, j, h => by
    unfold ixNat at h
    cases c : iBeq n k with
    | true =>
      rw [c] at h
      cases h
      rw [iBeq_is, decide_eq_true_eq] at c
      subst c
      exact ⟨Nat.le_refl _, by simp, fun m _ hm => by omega⟩
    | false =>
      rw [c] at h
      obtain ⟨h1, h2, h3⟩ := ixNat_is k r (o + 1) j h
      rw [iBeq_is, decide_eq_false_iff_not] at c
      have e : j - o = (j - (o + 1)) + 1 := by omega
      refine ⟨by omega, by rw [e]; simpa using h2, fun m x hm hx => ?_⟩
      cases m with
      | zero => simp at hx; subst hx; exact c
      | succ m => exact h3 m x (by omega) (by simpa using hx)
section
variable {K : Fg}
def sIndexI : SemM := fun d ds P => match d, ds with
  | .list xs, [.int k] => ∃ ns j, xs = ns.map PyData.int ∧ ixNat k ns 0 = some j ∧ P (vI (j : Nat))
  | _, _ => False
theorem p_indexI : PureM K (rIndex K) sIndexI := by
  intro PN Z H x xs d ds P Q C bx bs s k
  unfold sIndexI at s
  split at s
  · rename_i xs' kk
    obtain ⟨ns, j, rfl, hj, s⟩ := s
    obtain ⟨a, vs, rfl, h, t⟩ := bx.listI C.sub
    obtain ⟨y, rfl, by_⟩ := bs.one
    obtain rfl := by_.intI
    obtain rfl := t.intsI
    obtain ⟨_, h2, h3⟩ := ixNat_is kk ns 0 j hj
    simp only [Nat.sub_zero] at h2 h3
    refine ⟨a, _, _, j, .int kk, rfl, rfl, SqL.of h, rfl, ?_, by rw [List.getElem?_map, h2]; rfl, by simp [eqV], fun m z' hm hz => ?_, keepS C k s (.int _)⟩
    · rw [List.all_eq_true]
      intro z hz
      obtain ⟨n, _, rfl⟩ := List.mem_map.mp hz
      rfl
    · rw [List.getElem?_map] at hz
      cases e : ns[m]? with
      | none => rw [e] at hz; cases hz
      | some n =>
        rw [e] at hz; cases hz
        have := h3 m n hm e
        simp [eqV, this]
  · exact s.elim
def sCountI : SemM := fun d ds P => match d, ds with
  | .list xs, [.int k] => ∃ ns : List Int, xs = ns.map PyData.int ∧ P (vI (ns.count k : Nat))
  | _, _ => False
theorem p_countI : PureM K (rCntI K) sCountI := by
  intro PN Z H x xs d ds P Q C bx bs s k
  unfold sCountI at s
  split at s
  · obtain ⟨ns, rfl, s⟩ := s
    obtain ⟨a, vs, rfl, h, t⟩ := bx.listI C.sub
    obtain ⟨y, rfl, by_⟩ := bs.one
    obtain rfl := by_.intI
    obtain rfl := t.intsI
    exact ⟨a, ns, _, rfl, rfl, SqL.of h, keepS C k s (.int _)⟩
  · exact s.elim
def maxI : List Int → Int → Int
  | [], m => m
  | n :: r, m => maxI r (bif iLt m n then n else m)
def minI : List Int → Int → Int
  | [], m => m
  | n :: r, m => minI r (bif iLt n m then n else m)
theorem maxI_is : ∀ (ns : List Int) (m : Int), maxI ns m ∈ m :: ns ∧ ∀ y ∈ m :: ns, y ≤ maxI ns m
  | [], m => ⟨List.mem_cons_self .., fun y hy => by simp at hy; subst hy; exact Int.le_refl _⟩
  | n :: r, m => by
    unfold maxI
    have h := maxI_is r (bif iLt m n then n else m)
    cases c : iLt m n with
    | true =>
      rw [c] at h
      simp only [cond_true] at h ⊢
      rw [iLt_is, decide_eq_true_eq] at c
      refine ⟨List.mem_cons_of_mem _ h.1, fun y hy => ?_⟩
      rcases List.mem_cons.mp hy with rfl | hy
      · have := h.2 n (List.mem_cons_self ..); omega
      · exact h.2 y hy
    | false =>
      rw [c] at h
      simp only [cond_false] at h ⊢
      rw [iLt_is, decide_eq_false_iff_not] at c
      refine ⟨?_, fun y hy => ?_⟩
      · rcases List.mem_cons.mp h.1 with e | e
        · rw [e]; exact List.mem_cons_self ..
        · exact List.mem_cons_of_mem _ (List.mem_cons_of_mem _ e)
      · rcases List.mem_cons.mp hy with rfl | hy
        · exact h.2 _ (List.mem_cons_self ..)
        · rcases List.mem_cons.mp hy with rfl | hy
          · have := h.2 m (List.mem_cons_self ..); omega
          · exact h.2 y (List.mem_cons_of_mem _ hy)
theorem minI_is : ∀ (ns : List Int) (m : Int), minI ns m ∈ m :: ns ∧ ∀ y ∈ m :: ns, minI ns m ≤ y
  | [], m => ⟨List.mem_cons_self .., fun y hy => by simp at hy; subst hy; exact Int.le_refl _⟩
  | n :: r, m => by
    unfold minI
    have h := minI_is r (bif iLt n m then n else m)
    cases c : iLt n m with
    | true =>
      rw [c] at h
      simp only [cond_true] at h ⊢
      rw [iLt_is, decide_eq_true_eq] at c
      refine ⟨List.mem_cons_of_mem _ h.1, fun y hy => ?_⟩
      rcases List.mem_cons.mp hy with rfl | hy
      · have := h.2 n (List.mem_cons_self ..); omega
      · exact h.2 y hy
    | false =>
      rw [c] at h
      simp only [cond_false] at h ⊢
      rw [iLt_is, decide_eq_false_iff_not] at c
      refine ⟨?_, fun y hy => ?_⟩
      · rcases List.mem_cons.mp h.1 with e | e
        · rw [e]; exact List.mem_cons_self ..
        · exact List.mem_cons_of_mem _ (List.mem_cons_of_mem _ e)
      · rcases List.mem_cons.mp hy with rfl | hy
        · exact h.2 _ (List.mem_cons_self ..)
        · rcases List.mem_cons.mp hy with rfl | hy
          · have := h.2 m (List.mem_cons_self ..); omega
          · exact h.2 y (List.mem_cons_of_mem _ hy)
/-- the greatest of a list's ints -/
def sMaxQ : SemN := fun ds P => match ds with
  | [.list xs] => ∃ n ns, xs = (n :: ns : List Int).map PyData.int ∧ P (vI (maxI ns n))
  | ds => sMax2 ds P
def sMinQ : SemN := fun ds P => match ds with
  | [.list xs] => ∃ n ns, xs = (n :: ns : List Int).map PyData.int ∧ P (vI (minI ns n))
  | ds => sMin2 ds P
theorem p_maxQ : PureN K (fun xs H Q => rMax2 xs H Q ∨ rMax K xs H Q) sMaxQ := by
  intro PN Z H xs ds P Q C b s k
  unfold sMaxQ at s
  split at s
  · obtain ⟨n, ns, rfl, s⟩ := s
    obtain ⟨v, rfl, bb⟩ := b.one
    obtain ⟨a, vs, rfl, h, t⟩ := bb.listI C.sub
    obtain rfl := t.intsI
    refine .inr ⟨a, n :: ns, rfl, SqL.of h, Nat.succ_pos _, fun m hm hle => ?_⟩
    obtain ⟨h1, h2⟩ := maxI_is ns n
    obtain rfl : m = maxI ns n := Int.le_antisymm (h2 m hm) (hle _ h1)
    exact keepS C k s (.int _)
  · exact .inl (p_max2 PN Z H xs ds P Q C b s k)
theorem p_minQ : PureN K (fun xs H Q => rMin2 xs H Q ∨ rMin K xs H Q) sMinQ := by
  intro PN Z H xs ds P Q C b s k
  unfold sMinQ at s
  split at s
  · obtain ⟨n, ns, rfl, s⟩ := s
    obtain ⟨v, rfl, bb⟩ := b.one
    obtain ⟨a, vs, rfl, h, t⟩ := bb.listI C.sub
    obtain rfl := t.intsI
    refine .inr ⟨a, n :: ns, rfl, SqL.of h, Nat.succ_pos _, fun m hm hle => ?_⟩
    obtain ⟨h1, h2⟩ := minI_is ns n
    obtain rfl : m = minI ns n := Int.le_antisymm (hle _ h1) (h2 m hm)
    exact keepS C k s (.int _)
  · exact .inl (p_min2 PN Z H xs ds P Q C b s k)
theorem c_maxQ {X : Cx} (calm : X.calm = true) : CallR X (.builtin "max") (fun xs H Q => rMax2 xs H Q ∨ rMax X.K xs H Q) := (call_max2 calm).or (cr_max calm)
theorem c_minQ {X : Cx} (calm : X.calm = true) : CallR X (.builtin "min") (fun xs H Q => rMin2 xs H Q ∨ rMin X.K xs H Q) := (call_min2 calm).or (cr_min calm)
end
/-! ### the plain side -/
variable {α β γ S S' L M ρ : Type} {s s0 s1 s2 s3 : List Sl} {X : Exc → Nat → Prop} {J : Jx S L}
def flExt (v : FL) (d : D) : Out FL := match d with
  | .list es => bif Nat.ble (v.n + es.length) 16777216 then .ok (FL.of (v.l ++ es)) else .bad
  | _ => .bad
/-- .. one after the other -/
def pushAll (v : FL) : List D → FL
  | [] => v
  | d :: r => pushAll (v.push d) r
theorem pushAll_is : ∀ (es : List D) (v : FL), FL.of (v.l ++ es) = pushAll v es
  | [], v => by rw [List.append_nil, FL.of_l]; rfl
  | d :: r, v => by
    rw [show v.l ++ d :: r = (v.push d).l ++ r by rw [FL.l_push]; simp, pushAll_is r]; rfl
def flExtQ (v : FL) (d : D) : Out FL := match d with
  | .list es => bif Nat.ble (v.n + es.length) 16777216 then .ok (pushAll v es) else .bad
  | _ => .bad
theorem rs_extendF {i : Nat} {w : WE D} {b : WS} {v : FL} {t : Out D} {k : FL → So S L} {g : FL → List Sl} (hx : s.getD i .no = .lst v.l) (hx1 : s1.getD i .no = .lst v.l) (h : RO w s s1 t id X) (e : ∀ d : FL, s1.set i (.lst d.l) = g d) (hb : ∀ d, RS b (g d) (k d) J X) :
    RS (wSeq (wExtend i w) b) s ((t.bind fun d => flExtQ v d).so k) J X := fun E c q => by
  refine ⟨⟨_, hx⟩, h c _ ?_⟩
  cases t with
  | ok y =>
    show (match (generalizing := false) id y, (⟨s1, c⟩ : Ga).at i with | .list es, .lst ds => ds.length + es.length ≤ 16777216 ∧ b E ((⟨s1, c⟩ : Ga).set i (.lst (ds ++ es))) | _, _ => False)
    rw [show (⟨s1, c⟩ : Ga).at i = .lst v.l from hx1]
    have q : ((flExtQ v y).so k).post E J X c := q
    unfold flExtQ at q
    cases y with
    | list es =>
      dsimp only at q ⊢
      cases hl : Nat.ble (v.n + es.length) 16777216 with
      | true =>
        rw [hl] at q
        refine ⟨by rw [FL.len]; exact Nat.le_of_ble_eq_true hl, ?_⟩
        show b E ⟨s1.set i (.lst (v.l ++ es)), c⟩
        have := e (pushAll v es)
        rw [← pushAll_is, FL.l_of] at this
        rw [this, pushAll_is]
        exact hb _ E c q
      | false => rw [hl] at q; exact q.elim
    | _ => exact q.elim
  | er e => exact q
  | bad => exact q
theorem pj_extendF {i : Nat} {w : WE D} {b : WS} {v : FL} {t : Pn D} {k : FL → Pn (So S L)} {g : FL → List Sl} (hx : s.getD i .no = .lst v.l) (hx1 : s1.getD i .no = .lst v.l) (h : PO w s s1 t id) (e : ∀ d : FL, s1.set i (.lst d.l) = g d) (hb : ∀ d, PSj b (g d) (k d) J X) :
    PSj (wSeq (wExtend i w) b) s (t.bind fun d => (Pn.lift (flExtQ v d)).bind k) J X := fun E c Q q kk => by
  refine ⟨⟨_, hx⟩, h c _ _ q fun y c' z => ?_⟩
  show (match (generalizing := false) id y, (⟨s1, c'⟩ : Ga).at i with | .list es, .lst ds => ds.length + es.length ≤ 16777216 ∧ b E ((⟨s1, c'⟩ : Ga).set i (.lst (ds ++ es))) | _, _ => False)
  rw [show (⟨s1, c'⟩ : Ga).at i = .lst v.l from hx1]
  have z : (flExtQ v y).post (fun a => k a c' Q) fun _ => False := z
  unfold flExtQ at z
  cases y with
  | list es =>
    dsimp only at z ⊢
    cases hl : Nat.ble (v.n + es.length) 16777216 with
    | true =>
      rw [hl] at z
      refine ⟨by rw [FL.len]; exact Nat.le_of_ble_eq_true hl, ?_⟩
      show b E ⟨s1.set i (.lst (v.l ++ es)), c'⟩
      have := e (pushAll v es)
      rw [← pushAll_is, FL.l_of] at this
      rw [this, pushAll_is]
      exact hb _ E c' _ z kk
    | false => rw [hl] at z; exact z.elim
  | _ => exact z.elim
def dIndexI (d : D) (ds : List D) : Out D := match d, ds with
  | .list xs, [.int k] => (match unI xs with
    | some ns => (match ixNat k ns 0 with | some j => .ok (.int (j : Nat)) | none => .bad)
    | none => .bad)
  | _, _ => .bad
theorem s_indexI : SM sIndexI dIndexI := fun d ds P h => by
  unfold dIndexI at h
  unfold sIndexI
  split at h
  · split at h
    · rename_i ns hn
      split at h
      · rename_i j hj
        exact ⟨ns, j, unI_is hn, hj, h _ rfl⟩
      · exact h.elim
    · exact h.elim
  · exact h.elim
def dCountI (d : D) (ds : List D) : Out D := match d, ds with
  | .list xs, [.int k] => (match unI xs with | some ns => .ok (.int (ns.count k : Nat)) | none => .bad)
  | _, _ => .bad
theorem s_countI : SM sCountI dCountI := fun d ds P h => by
  unfold dCountI at h
  unfold sCountI
  split at h
  · split at h
    · rename_i ns hn; exact ⟨ns, unI_is hn, h _ rfl⟩
    · exact h.elim
  · exact h.elim
def dMaxQ (ds : List D) : Out D := match ds with
  | [.list xs] => (match unI xs with | some (n :: ns) => .ok (.int (maxI ns n)) | _ => .bad)
  | ds => dMax2 ds
theorem s_maxQ : SN sMaxQ dMaxQ := fun d P h => by
  unfold dMaxQ at h
  unfold sMaxQ
  split at h
  · split at h
    · rename_i n ns hn; exact ⟨n, ns, unI_is hn, h _ rfl⟩
    · exact h.elim
  · exact s_max2 _ _ h
def dMinQ (ds : List D) : Out D := match ds with
  | [.list xs] => (match unI xs with | some (n :: ns) => .ok (.int (minI ns n)) | _ => .bad)
  | ds => dMin2 ds
theorem s_minQ : SN sMinQ dMinQ := fun d P h => by
  unfold dMinQ at h
  unfold sMinQ
  split at h
  · split at h
    · rename_i n ns hn; exact ⟨n, ns, unI_is hn, h _ rfl⟩
    · exact h.elim
  · exact s_min2 _ _ h
end
end VL
/-! What is drawn, step by step; items in another order. -/
namespace VL
open PySem PySem.Spec PyProof.Rows L2
noncomputable section
variable {α β γ S S' L M ρ : Type}
theorem L_let {t : Out α} {k : α → Pn β} {a : α} (h : t = .ok a) {c : Nat} {P : β → Nat → Prop} (q : k a c P) : ((Pn.lift t).bind k) c P := by subst h; exact q
theorem L_guard {t : Out Bool} (h : t = .ok false) {x : Pn (So Unit L)} {k : Unit → Pn (So S' L)} {c : Nat} {P : So S' L → Nat → Prop} (q : k () c P) : (Pn.seq ((Pn.lift t).bind fun v => if v = true then x else Pn.ret (.nx ())) k) c P := by subst h; exact q
theorem lift_bind {α β : Type} (a : α) (k : α → Pn β) : (Pn.lift (Out.ok a)).bind k = k a := rfl
theorem seq_bind {α S S' L : Type} (t : Pn α) (f : α → Pn (So S L)) (k : S → Pn (So S' L)) (c : Nat) (Q : So S' L → Nat → Prop) : (Pn.seq (t.bind f) k) c Q = t c fun a c' => (Pn.seq (f a) k) c' Q := rfl
theorem forP_nx {L M : Type} {f : L → D → Pn (So L L)} {d : D} {r : List D} {l l' : L} {c : Nat} {Q : So L M → Nat → Prop} (h : ∀ P : So L L → Nat → Prop, (∀ c', P (.nx l') c') → f l d c P) (hr : ∀ c', forP f r l' c' Q) : forP f (d :: r) l c Q := h _ hr
theorem draw_ok (mi : Int) (m : Nat) (e : mi = m) (c : Nat) (P : D → Nat → Prop) (h0 : 0 < m) (h1 : m < 1073741824) (hc : c < 2 ^ 40) (h : ∀ r : Nat, r < m → P (.int r) (c + 1)) : drawP (.int mi) c P := by
  subst e
  refine ⟨by omega, by omega, by omega, fun r hr hr' => ?_⟩
  obtain ⟨r, rfl⟩ := Int.eq_ofNat_of_zero_le hr
  exact h r (by omega)
/-! ### items in another order -/
theorem compO_yes (f : D → Out D) : ∀ {xs : List D} {ys : List D}, compO tgName (fun _ => Out.ok true) f xs = .ok ys → ∀ (f' : D → Out D), (∀ b ∈ xs, ∀ y, f b = .ok y → f' b = .ok y) → compO tgName (fun _ => Out.ok true) f' xs = .ok ys
  | [], ys, h, f', _ => h
  | x :: r, ys, h, f', hf => by
    rw [compO_cons, tgName_is, Out.ok_bind, Out.ok_bind, if_pos rfl] at h ⊢
    cases e : f x with
    | ok y =>
      rw [e] at h
      rw [hf x (List.mem_cons_self ..) y e]
      simp only [Out.ok_bind] at h ⊢
      cases e2 : compO tgName (fun _ => Out.ok true) f r with
      | ok zs =>
        have e2' : compO (fun d => Out.ok d) (fun _ => Out.ok true) f r = .ok zs := e2
        have := compO_yes f e2 f' fun b hb => hf b (List.mem_cons_of_mem _ hb)
        have this' : compO (fun d => Out.ok d) (fun _ => Out.ok true) f' r = .ok zs := this
        first
          | (rw [e2] at h; rw [this]; exact h)
          | (rw [e2'] at h; rw [this']; exact h)
      | er z =>
        have e2' : compO (fun d => Out.ok d) (fun _ => Out.ok true) f r = .er z := e2
        first | (rw [e2] at h; cases h) | (rw [e2'] at h; cases h)
      | bad =>
        have e2' : compO (fun d => Out.ok d) (fun _ => Out.ok true) f r = .bad := e2
        first | (rw [e2] at h; cases h) | (rw [e2'] at h; cases h)
    | er z => rw [e] at h; cases h
    | bad => rw [e] at h; cases h
/-- a comprehension as a filter, where its test and its items are told -/
theorem compO_tests (t : D → Out Bool) : ∀ {xs ys : List D}, compO tgName t (fun b => Out.ok b) xs = .ok ys → (∀ x ∈ xs, ∃ k, t x = .ok k) ∧ ys = xs.filter fun x => match t x with | .ok true => true | _ => false
  | [], ys, h => by cases h; exact ⟨fun _ hx => (List.not_mem_nil hx).elim, rfl⟩
  | x :: r, ys, h => by
    have hu : compO tgName t (fun b => Out.ok b) (x :: r) = (t x).bind fun k => if k = true then (compO tgName t (fun b => Out.ok b) r).bind fun es => .ok (x :: es) else compO tgName t (fun b => Out.ok b) r := by rw [compO_cons, tgName_is, Out.ok_bind]; rfl
    rw [hu] at h
    cases e : t x with
    | ok k =>
      rw [e, Out.ok_bind] at h
      cases k with
      | true =>
        rw [if_pos rfl] at h
        cases e2 : compO tgName t (fun b => Out.ok b) r with
        | ok zs =>
          rw [e2] at h; cases h
          obtain ⟨h1, h2⟩ := compO_tests t e2
          refine ⟨fun y hy => ?_, ?_⟩
          · rcases List.mem_cons.mp hy with rfl | hy
            · exact ⟨_, e⟩
            · exact h1 y hy
          · rw [List.filter_cons_of_pos (by rw [e]), h2]
        | er z => rw [e2] at h; cases h
        | bad => rw [e2] at h; cases h
      | false =>
        rw [if_neg (by decide)] at h
        obtain ⟨h1, h2⟩ := compO_tests t h
        refine ⟨fun y hy => ?_, ?_⟩
        · rcases List.mem_cons.mp hy with rfl | hy
          · exact ⟨_, e⟩
          · exact h1 y hy
        · rw [List.filter_cons_of_neg (by rw [e]; decide), h2]
    | er z => rw [e] at h; cases h
    | bad => rw [e] at h; cases h
theorem compO_filter (t : D → Out Bool) : ∀ (xs : List D), (∀ x ∈ xs, ∃ k, t x = .ok k) → compO tgName t (fun b => Out.ok b) xs = .ok (xs.filter fun x => match t x with | .ok true => true | _ => false)
  | [], _ => rfl
  | x :: r, h => by
    have hu : compO tgName t (fun b => Out.ok b) (x :: r) = (t x).bind fun k => if k = true then (compO tgName t (fun b => Out.ok b) r).bind fun es => .ok (x :: es) else compO tgName t (fun b => Out.ok b) r := by rw [compO_cons, tgName_is, Out.ok_bind]; rfl
    rw [hu]
    obtain ⟨k, e⟩ := h x (List.mem_cons_self ..)
    rw [e, Out.ok_bind, compO_filter t r fun y hy => h y (List.mem_cons_of_mem _ hy)]
    cases k with
    | true => rw [if_pos rfl, List.filter_cons_of_pos (by rw [e])]; rfl
    | false => rw [if_neg (by decide), List.filter_cons_of_neg (by rw [e]; decide)]
theorem compO_perm {t : D → Out Bool} {xs xs' ys : List D} (p : xs'.Perm xs) (h : compO tgName t (fun b => Out.ok b) xs = .ok ys) : ∃ ys', compO tgName t (fun b => Out.ok b) xs' = .ok ys' ∧ ys'.Perm ys := by
  obtain ⟨h1, h2⟩ := compO_tests t h
  refine ⟨_, compO_filter t xs' fun x hx => h1 x (p.mem_iff.mp hx), ?_⟩
  rw [h2]
  exact p.filter _
/-- a loop whose turns go on -/
def allNx (f : Unit → D → So Unit Unit) : List D → Bool
  | [] => true
  | d :: r => (match f () d with | .nx _ => true | _ => false) && allNx f r
theorem allNx_mem {f : Unit → D → So Unit Unit} : ∀ {xs : List D}, allNx f xs = true → ∀ d ∈ xs, f () d = .nx ()
  | [], _, _, h => (List.not_mem_nil h).elim
  | x :: r, h, d, hd => by
    unfold allNx at h
    rw [Bool.and_eq_true] at h
    rcases List.mem_cons.mp hd with rfl | hd
    · revert h
      cases f () d <;> simp
    · exact allNx_mem h.2 d hd
theorem forO_nx {f : Unit → D → So Unit Unit} : ∀ (xs : List D), (∀ d ∈ xs, f () d = .nx ()) → (forO f xs () : So Unit M) = .nx ()
  | [], _ => rfl
  | x :: r, h => by
    rw [forO_cons, h x (List.mem_cons_self ..)]
    exact forO_nx r fun d hd => h d (List.mem_cons_of_mem _ hd)
/-! the keys of a dict that is made of items -/
theorem TD.put_ks (x : TD) (k : List Key) (v : D) : ∀ q, q ∈ (x.put k v).ks ↔ q = k ∨ q ∈ x.ks := by
  intro q
  obtain ⟨_, ⟨h, _, e⟩ | ⟨_, _, e⟩⟩ := x.put_cases k v
  · rw [e]
    constructor
    · exact .inr
    · rintro (rfl | h')
      · exact (x.mem q).mpr h
      · exact h'
  · rw [e]; exact List.mem_cons
def keyd (items : List D) : Bool := items.all fun d => match keysOf d with | some q => q.all isIK | none => false
theorem TD.put_n (x : TD) (k : List Key) (v : D) : (x.put k v).n ≤ x.n + 1 := by
  obtain ⟨_, ⟨_, e, _⟩ | ⟨_, e, _⟩⟩ := x.put_cases k v
  · omega
  · omega
theorem dset_ok : ∀ (items : List D) (acc : TD), keyd items = true → acc.n + items.length ≤ 16777216 → ∃ v : TD, dcompF tgName (fun _ => Out.ok true) (fun b => Out.ok b) (fun _ => Out.ok (PyData.bool true)) items acc = .ok v ∧ ∀ q, q ∈ v.ks ↔ q ∈ acc.ks ∨ ∃ d ∈ items, keysOf d = some q
  | [], acc, _, _ => ⟨acc, rfl, fun q => ⟨.inl, fun h => h.elim id fun ⟨d, hd, _⟩ => (List.not_mem_nil hd).elim⟩⟩
  | d :: r, acc, hk, hn => by
    unfold keyd at hk
    rw [List.all_cons, Bool.and_eq_true] at hk
    cases e : keysOf d with
    | none => rw [e] at hk; cases hk.1
    | some q0 =>
      rw [e] at hk
      have hik : q0.all isIK = true := hk.1
      rw [List.length_cons] at hn
      have hput : putTDO acc d (PyData.bool true) = .ok (acc.put q0 (PyData.bool true)) := by
        rw [putTDO_def, e]
        dsimp only
        rw [hik, show Nat.blt acc.n 16777216 = true from blt_iff.mpr (by omega)]; rfl
      have h2 := acc.put_n q0 (PyData.bool true)
      obtain ⟨v, hv, hm⟩ := dset_ok r (acc.put q0 (PyData.bool true)) hk.2 (by omega)
      refine ⟨v, ?_, fun q => ?_⟩
      · have hu : dcompF tgName (fun _ => Out.ok true) (fun b => Out.ok b) (fun _ => Out.ok (PyData.bool true)) (d :: r) acc = (putTDO acc d (PyData.bool true)).bind fun acc => dcompF tgName (fun _ => Out.ok true) (fun b => Out.ok b) (fun _ => Out.ok (PyData.bool true)) r acc := by rw [dcompF_cons]; rfl
        rw [hu, hput]; exact hv
      · rw [hm q, acc.put_ks]
        constructor
        · rintro ((rfl | h) | ⟨d', hd', h⟩)
          · exact .inr ⟨d, List.mem_cons_self .., e⟩
          · exact .inl h
          · exact .inr ⟨d', List.mem_cons_of_mem _ hd', h⟩
        · rintro (h | ⟨d', hd', h⟩)
          · exact .inl (.inr h)
          · rcases List.mem_cons.mp hd' with rfl | hd'
            · rw [e] at h; cases h; exact .inl (.inl rfl)
            · exact .inr ⟨d', hd', h⟩
theorem nodup_len {κ : Type} [DecidableEq κ] {xs ys : List κ} (hx : xs.Nodup) (hy : ys.Nodup) (h : ∀ q, q ∈ xs ↔ q ∈ ys) : xs.length = ys.length := by
  have key : ∀ {xs ys : List κ}, xs.Nodup → (∀ q, q ∈ xs → q ∈ ys) → xs.length ≤ ys.length := by
    intro xs
    induction xs with
    | nil => intro ys _ _; exact Nat.zero_le _
    | cons x r ih =>
      intro ys hn hs
      rw [List.nodup_cons] at hn
      have hm := hs x (List.mem_cons_self ..)
      have := ih (ys := ys.erase x) hn.2 fun q hq => (List.mem_erase_of_ne (fun e => hn.1 (by rw [← e]; exact hq))).mpr (hs q (List.mem_cons_of_mem _ hq))
      rw [List.length_erase_of_mem hm] at this
      have hp : 0 < ys.length := List.length_pos_of_mem hm
      rw [List.length_cons]; omega
  exact Nat.le_antisymm (key hx fun q => (h q).mp) (key hy fun q => (h q).mpr)
theorem dset_perm {items items' : List D} (p : items'.Perm items) (hk : keyd items = true) (hn : items.length ≤ 16777216) : ∃ v v' : TD, dcompF tgName (fun _ => Out.ok true) (fun b => Out.ok b) (fun _ => Out.ok (PyData.bool true)) items TD.nil = .ok v ∧ dcompF tgName (fun _ => Out.ok true) (fun b => Out.ok b) (fun _ => Out.ok (PyData.bool true)) items' TD.nil = .ok v' ∧ v'.l.length = v.l.length := by
  have hk' : keyd items' = true := by
    unfold keyd at hk ⊢
    rw [List.all_eq_true] at hk ⊢
    exact fun x hx => hk x (p.mem_iff.mp hx)
  obtain ⟨v, h1, h2⟩ := dset_ok items TD.nil hk (by show 0 + _ ≤ _; omega)
  obtain ⟨v', h1', h2'⟩ := dset_ok items' TD.nil hk' (by show 0 + _ ≤ _; rw [p.length_eq]; omega)
  refine ⟨v, v', h1, h1', ?_⟩
  rw [TD.len, TD.len, ← v.hn, ← v'.hn]
  refine nodup_len v'.nd v.nd fun q => ?_
  rw [h2, h2']
  constructor
  · rintro (h | ⟨d, hd, h⟩)
    · exact .inl h
    · exact .inr ⟨d, p.mem_iff.mp hd, h⟩
  · rintro (h | ⟨d, hd, h⟩)
    · exact .inl h
    · exact .inr ⟨d, p.mem_iff.mpr hd, h⟩
end
end VL
/-! sums, differences and sorted lists: quick forms -/
namespace VL
open PySem PySem.Spec PyProof.Rows L2
noncomputable section
variable {α β γ S S' L M ρ : Type} {s s0 s1 s2 s3 : List Sl} {X : Exc → Nat → Prop}
def lenF {κ : Type} (l : List κ) : Nat := @List.rec κ (fun _ => Nat) 0 (fun _ _ ih => Nat.succ ih) l
theorem lenF_is {κ : Type} (l : List κ) : lenF l = l.length := by
  induction l with
  | nil => rfl
  | cons x r ih => exact congrArg Nat.succ ih
def appF {κ : Type} (a b : List κ) : List κ := @List.rec κ (fun _ => List κ) b (fun x _ ih => x :: ih) a
theorem appF_is {κ : Type} (a b : List κ) : appF a b = a ++ b := by
  induction a with
  | nil => rfl
  | cons x r ih => exact congrArg (x :: ·) ih
def iAdd (i j : Int) : Int := ii (fun a b => Int.ofNat (Nat.add a b)) (fun i j => i + j) i j
theorem iAdd_is (i j : Int) : iAdd i j = i + j := by cases i <;> cases j <;> rfl
def dcl {α : Type} (z : α) (l : List D → α) (d : D) : α := dcs z (fun _ => z) (fun _ => z) (fun _ => z) l (fun _ => z) (fun _ => z) d
def dct {α : Type} (z : α) (t : List D → α) (d : D) : α := dcs z (fun _ => z) (fun _ => z) (fun _ => z) (fun _ => z) t (fun _ => z) d
def qAdd (d e : D) : Out D := dcs (dAdd d e) (fun _ => dAdd d e) (fun i => dci (dAdd d e) (fun j => .ok (.int (iAdd i j))) e) (fun _ => dAdd d e)
  (fun a => dcl (dAdd d e) (fun b => bcs (Nat.ble (Nat.add (lenF a) (lenF b)) 16777216) (.ok (.list (appF a b))) .bad) e)
  (fun a => dct (dAdd d e) (fun b => bcs (Nat.ble (Nat.add (lenF a) (lenF b)) 16777216) (.ok (.tuple (appF a b))) .bad) e) (fun _ => dAdd d e) d
theorem ble_if {α : Type} (n : Nat) (t z : α) : bcs (Nat.ble n 16777216) t z = if n ≤ 16777216 then t else z := by
  rw [bcs_is]
  by_cases h : n ≤ 16777216
  · rw [if_pos h, if_pos (Nat.ble_eq.mpr h)]
  · rw [if_neg h, if_neg (fun q => h (Nat.ble_eq.mp q))]
theorem len_bcs {a b : List D} {t : Out D} : bcs (Nat.ble (Nat.add (lenF a) (lenF b)) 16777216) t .bad = if a.length + b.length ≤ 16777216 then t else .bad := by
  rw [lenF_is, lenF_is]
  exact ble_if (a.length + b.length) _ _
theorem qAdd_is (d e : D) : qAdd d e = dAdd d e := by
  cases d with
  | int i => cases e with
    | int j => exact congrArg (fun x => Out.ok (PyData.int x)) (iAdd_is i j)
    | _ => rfl
  | list a => cases e with
    | list b =>
      show bcs _ (Out.ok (PyData.list (appF a b))) _ = _
      rw [len_bcs, appF_is]; rfl
    | _ => rfl
  | tuple a => cases e with
    | tuple b =>
      show bcs _ (Out.ok (PyData.tuple (appF a b))) _ = _
      rw [len_bcs, appF_is]; rfl
    | _ => rfl
  | _ => rfl
theorem s_addQ : S2 sAdd qAdd := s_add.le fun d e => by rw [qAdd_is]; exact .refl _
def qAddL (d e : D) : Out (List D) := dcl (dAddL d e) (fun a => dcl (dAddL d e) (fun b => bcs (Nat.ble (Nat.add (lenF a) (lenF b)) 16777216) (.ok (appF a b)) .bad) e) d
theorem qAddL_is (d e : D) : qAddL d e = dAddL d e := by
  cases d with
  | list a => cases e with
    | list b =>
      show bcs _ (Out.ok (appF a b)) _ = _
      rw [lenF_is, lenF_is, appF_is, dAddL_l]
      exact ble_if (a.length + b.length) _ _
    | _ => rfl
  | _ => rfl
theorem s_addLQ : S2l sAdd qAddL := fun d e P h => s_addL d e P (by rw [← qAddL_is]; exact h)
def qSub (d e : D) : Out D := dnn (fun a b => bcs (Nat.ble b a) (.ok (.int (.ofNat (Nat.sub a b)))) (dSub (.int (.ofNat a)) (.int (.ofNat b)))) (dSub d e) d e
theorem qSub_is (d e : D) : qSub d e = dSub d e := by
  refine (dnn_is (fun a b => bcs (Nat.ble b a) (.ok (.int (.ofNat (Nat.sub a b)))) (dSub (.int (.ofNat a)) (.int (.ofNat b)))) (fun d e => dSub d e) d e).trans ?_
  split
  · rename_i a b
    rw [bcs_is]
    split
    · rename_i h
      have h := Nat.ble_eq.mp h
      show Out.ok (PyData.int (Int.ofNat (a - b))) = Out.ok (PyData.int (Int.ofNat a - Int.ofNat b))
      rw [show Int.ofNat (a - b) = Int.ofNat a - Int.ofNat b from Int.ofNat_sub h]
    · rfl
  · rfl
theorem s_subQ : S2 sSub qSub := s_sub.le fun d e => by rw [qSub_is]; exact .refl _
/-! a list that never falls -/
def ascD (a : D) (r : List D) : Bool := @List.rec D (fun _ => D → Bool) (fun _ => true) (fun b _ ih a => @Out.rec D (fun _ => Bool) (dcb false fun k => bcs k false (ih b)) (fun _ => false) false (qGtA a b)) r a
end
end VL
namespace Lk22
open PySem PySem.Spec PyProof.Rows L2 VL
noncomputable section
def top (i : Nat) : Stmt := PySem.Challenge.pw_pairsinthrees_k22_whole_most.main.body.getD i (.Pass ⟨0, 0, 0, 0⟩)
abbrev s__law_pen : Stmt := top 35
abbrev s__law_draw : Stmt := top 36
abbrev s__law_bar : Stmt := top 43
abbrev s_is_whole : Stmt := top 4
abbrev s_is_count : Stmt := top 5
abbrev s_need_count : Stmt := top 6
abbrev s_most_bar_in : Stmt := top 25
abbrev s_most_bar : Stmt := top 26
abbrev s_most_number : Stmt := top 27
abbrev s_threes_in : Stmt := top 9
abbrev s_thing_of : Stmt := top 16
abbrev s_columns : Stmt := top 18
abbrev s_all_pairs : Stmt := top 10
abbrev s_crossed : Stmt := top 17
abbrev s_still_across : Stmt := top 12
abbrev s_half_of : Stmt := top 13
abbrev s_half_still_across : Stmt := top 14
abbrev s_once_in : Stmt := top 19
abbrev s_nexts : Stmt := top 21
abbrev s_five_in : Stmt := top 22
abbrev s_most_in : Stmt := top 28
abbrev s_most_threes : Stmt := top 29
abbrev s__law_is_thing : Stmt := top 38
abbrev s__law_are_threes : Stmt := top 39
abbrev s__law_pairs : Stmt := top 40
abbrev s__law_held : Stmt := top 41
abbrev s__law_shape : Stmt := top 42
abbrev s_left_shape : Stmt := top 33
abbrev s_is_thing : Stmt := top 8
abbrev s_need_pairs : Stmt := top 30
abbrev s_shape_in : Stmt := top 31
abbrev s_shape_of : Stmt := top 32
abbrev s__law_mixed : Stmt := top 37
abbrev s_law : Stmt := top 44
abbrev si_BadNumber : Stmt := inClass (top 2) 0
abbrev si_NotKept : Stmt := inClass (top 3) 0
abbrev N__law_bar : List Str := ["n", "each", "k", "third"]
theorem S__law_bar : FnScope ["n", "each", "k", "third"] ["n"] (defScope s__law_bar) := ⟨rfl, rfl, rfl, by decide +kernel, rfl, by decide +kernel, by decide +kernel⟩
abbrev N_is_whole : List Str := ["value"]
theorem S_is_whole : FnScope ["value"] ["value"] (defScope s_is_whole) := ⟨rfl, rfl, rfl, by decide +kernel, rfl, by decide +kernel, by decide +kernel⟩
abbrev N_is_count : List Str := ["value"]
theorem S_is_count : FnScope ["value"] ["value"] (defScope s_is_count) := ⟨rfl, rfl, rfl, by decide +kernel, rfl, by decide +kernel, by decide +kernel⟩
abbrev N_need_count : List Str := ["what", "value"]
theorem S_need_count : FnScope ["what", "value"] ["what", "value"] (defScope s_need_count) := ⟨rfl, rfl, rfl, by decide +kernel, rfl, by decide +kernel, by decide +kernel⟩
abbrev N_most_bar_in : List Str := ["n", "each", "by_things"]
theorem S_most_bar_in : FnScope ["n", "each", "by_things"] ["n"] (defScope s_most_bar_in) := ⟨rfl, rfl, rfl, by decide +kernel, rfl, by decide +kernel, by decide +kernel⟩
abbrev N_most_bar : List Str := ["n"]
theorem S_most_bar : FnScope ["n"] ["n"] (defScope s_most_bar) := ⟨rfl, rfl, rfl, by decide +kernel, rfl, by decide +kernel, by decide +kernel⟩
abbrev N_most_number : List Str := ["n"]
theorem S_most_number : FnScope ["n"] ["n"] (defScope s_most_number) := ⟨rfl, rfl, rfl, by decide +kernel, rfl, by decide +kernel, by decide +kernel⟩
abbrev N_threes_in : List Str := ["lots", "lot"]
theorem S_threes_in : FnScope ["lots", "lot"] ["lots"] (defScope s_threes_in) := ⟨rfl, rfl, rfl, by decide +kernel, rfl, by decide +kernel, by decide +kernel⟩
abbrev N_thing_of : List Str := ["x", "i"]
theorem S_thing_of : FnScope ["x", "i"] ["x", "i"] (defScope s_thing_of) := ⟨rfl, rfl, rfl, by decide +kernel, rfl, by decide +kernel, by decide +kernel⟩
abbrev N_columns : List Str := ["things", "x"]
theorem S_columns : FnScope ["things", "x"] ["things"] (defScope s_columns) := ⟨rfl, rfl, rfl, by decide +kernel, rfl, by decide +kernel, by decide +kernel⟩
abbrev N_all_pairs : List Str := ["n", "one", "two"]
theorem S_all_pairs : FnScope ["n", "one", "two"] ["n"] (defScope s_all_pairs) := ⟨rfl, rfl, rfl, by decide +kernel, rfl, by decide +kernel, by decide +kernel⟩
abbrev N_crossed : List Str := ["table", "found", "x", "y", "i"]
theorem S_crossed : FnScope ["table", "found", "x", "y", "i"] ["table"] (defScope s_crossed) := ⟨rfl, rfl, rfl, by decide +kernel, rfl, by decide +kernel, by decide +kernel⟩
abbrev N_still_across : List Str := ["n", "j", "i"]
theorem S_still_across : FnScope ["n", "j", "i"] ["n"] (defScope s_still_across) := ⟨rfl, rfl, rfl, by decide +kernel, rfl, by decide +kernel, by decide +kernel⟩
abbrev N_half_of : List Str := ["rest", "n"]
theorem S_half_of : FnScope ["rest", "n"] ["rest", "n"] (defScope s_half_of) := ⟨rfl, rfl, rfl, by decide +kernel, rfl, by decide +kernel, by decide +kernel⟩
abbrev N_half_still_across : List Str := ["n", "j", "i"]
theorem S_half_still_across : FnScope ["n", "j", "i"] ["n"] (defScope s_half_still_across) := ⟨rfl, rfl, rfl, by decide +kernel, rfl, by decide +kernel, by decide +kernel⟩
abbrev N_once_in : List Str := ["n", "t", "extra", "x", "i"]
theorem S_once_in : FnScope ["n", "t", "extra", "x", "i"] ["n"] (defScope s_once_in) := ⟨rfl, rfl, rfl, by decide +kernel, rfl, by decide +kernel, by decide +kernel⟩
abbrev N_nexts : List Str := ["t", "x"]
theorem S_nexts : FnScope ["t", "x"] ["t"] (defScope s_nexts) := ⟨rfl, rfl, rfl, by decide +kernel, rfl, by decide +kernel, by decide +kernel⟩
abbrev N_five_in : List Str := ["n", "t", "table", "ahead", "u", "v", "found", "x", "y", "w", "last"]
theorem S_five_in : FnScope ["n", "t", "table", "ahead", "u", "v", "found", "x", "y", "w", "last"] ["n"] (defScope s_five_in) := ⟨rfl, rfl, rfl, by decide +kernel, rfl, by decide +kernel, by decide +kernel⟩
abbrev N_most_in : List Str := ["n", "rest", "three", "five", "threes", "kept"]
theorem S_most_in : FnScope ["n", "rest", "three", "five", "threes", "kept"] ["n"] (defScope s_most_in) := ⟨rfl, rfl, rfl, by decide +kernel, rfl, by decide +kernel, by decide +kernel⟩
abbrev N_most_threes : List Str := ["n"]
theorem S_most_threes : FnScope ["n"] ["n"] (defScope s_most_threes) := ⟨rfl, rfl, rfl, by decide +kernel, rfl, by decide +kernel, by decide +kernel⟩
abbrev N__law_is_thing : List Str := ["n", "value"]
theorem S__law_is_thing : FnScope ["n", "value"] ["n", "value"] (defScope s__law_is_thing) := ⟨rfl, rfl, rfl, by decide +kernel, rfl, by decide +kernel, by decide +kernel⟩
abbrev N__law_are_threes : List Str := ["n", "value", "three", "thing", "k"]
theorem S__law_are_threes : FnScope ["n", "value", "three", "thing", "k"] ["n", "value"] (defScope s__law_are_threes) := ⟨rfl, rfl, rfl, by decide +kernel, rfl, by decide +kernel, by decide +kernel⟩
abbrev N__law_pairs : List Str := ["n", "found", "i", "j"]
theorem S__law_pairs : FnScope ["n", "found", "i", "j"] ["n"] (defScope s__law_pairs) := ⟨rfl, rfl, rfl, by decide +kernel, rfl, by decide +kernel, by decide +kernel⟩
abbrev N__law_held : List Str := ["n", "threes", "found", "pair", "a", "b", "c"]
theorem S__law_held : FnScope ["n", "threes", "found", "pair", "a", "b", "c"] ["n", "threes"] (defScope s__law_held) := ⟨rfl, rfl, rfl, by decide +kernel, rfl, by decide +kernel, by decide +kernel⟩
abbrev N__law_shape : List Str := ["n", "pairs", "each", "pair", "thing", "many"]
theorem S__law_shape : FnScope ["n", "pairs", "each", "pair", "thing", "many"] ["n", "pairs"] (defScope s__law_shape) := ⟨rfl, rfl, rfl, by decide +kernel, rfl, by decide +kernel, by decide +kernel⟩
abbrev N_left_shape : List Str := ["n"]
theorem S_left_shape : FnScope ["n"] ["n"] (defScope s_left_shape) := ⟨rfl, rfl, rfl, by decide +kernel, rfl, by decide +kernel, by decide +kernel⟩
abbrev N_is_thing : List Str := ["n", "value"]
theorem S_is_thing : FnScope ["n", "value"] ["n", "value"] (defScope s_is_thing) := ⟨rfl, rfl, rfl, by decide +kernel, rfl, by decide +kernel, by decide +kernel⟩
abbrev N_need_pairs : List Str := ["n", "pairs", "pair"]
theorem S_need_pairs : FnScope ["n", "pairs", "pair"] ["n", "pairs"] (defScope s_need_pairs) := ⟨rfl, rfl, rfl, by decide +kernel, rfl, by decide +kernel, by decide +kernel⟩
abbrev N_shape_in : List Str := ["n", "pairs", "each", "pair", "thing", "unlike"]
theorem S_shape_in : FnScope ["n", "pairs", "each", "pair", "thing", "unlike"] ["n", "pairs"] (defScope s_shape_in) := ⟨rfl, rfl, rfl, by decide +kernel, rfl, by decide +kernel, by decide +kernel⟩
abbrev N_shape_of : List Str := ["n", "pairs"]
theorem S_shape_of : FnScope ["n", "pairs"] ["n", "pairs"] (defScope s_shape_of) := ⟨rfl, rfl, rfl, by decide +kernel, rfl, by decide +kernel, by decide +kernel⟩
abbrev N__law_mixed : List Str := ["pen", "some", "left", "found", "lap"]
theorem S__law_mixed : FnScope ["pen", "some", "left", "found", "lap"] ["pen", "some"] (defScope s__law_mixed) := ⟨rfl, rfl, rfl, by decide +kernel, rfl, by decide +kernel, by decide +kernel⟩
abbrev N_law : List Str := ["script", "pen", "n", "bar", "told", "held", "pair", "left", "due"]
theorem S_law : FnScope ["script", "pen", "n", "bar", "told", "held", "pair", "left", "due"] ["script"] (defScope s_law) := ⟨rfl, rfl, rfl, by decide +kernel, rfl, by decide +kernel, by decide +kernel⟩
abbrev N__law_pen : List Str := ["script", "fold", "cell"]
theorem S__law_pen : FnScope ["script", "fold", "cell"] ["script"] (defScope s__law_pen) := ⟨rfl, rfl, rfl, by decide +kernel, rfl, by decide +kernel, by decide +kernel⟩
abbrev N__law_draw : List Str := ["pen", "many", "cell", "digit", "blend"]
theorem S__law_draw : FnScope ["pen", "many", "cell", "digit", "blend"] ["pen", "many"] (defScope s__law_draw) := ⟨rfl, rfl, rfl, by decide +kernel, rfl, by decide +kernel, by decide +kernel⟩
theorem Si_BadNumber : FnScope ["self", "what", "number"] ["self", "what", "number"] (defScope si_BadNumber) := ⟨rfl, rfl, rfl, by decide +kernel, rfl, by decide +kernel, by decide +kernel⟩
theorem Si_NotKept : FnScope ["self", "promise", "witness"] ["self", "promise", "witness"] (defScope si_NotKept) := ⟨rfl, rfl, rfl, by decide +kernel, rfl, by decide +kernel, by decide +kernel⟩
def CMl : List ((Str × Str) × Bool) := []
def CM : CMt := cmOf CMl
def D_LEFT : D := .tuple [(.str "pairs"), (.str "none"), (.str "pairs"), (.str "none"), (.str "star"), (.str "ring")]
structure Top (K : Fg) (mg : Str → Option Value) : Prop where
  n_bool : mg "bool" = none
  n_dict : mg "dict" = none
  n_int : mg "int" = none
  n_isinstance : mg "isinstance" = none
  n_len : mg "len" = none
  n_list : mg "list" = none
  n_max : mg "max" = none
  n_min : mg "min" = none
  n_range : mg "range" = none
  n_repr : mg "repr" = none
  n_sorted : mg "sorted" = none
  n_tuple : mg "tuple" = none
  e_BadNumber : ErrOk K mg "BadNumber" "what" (some "number")
  e_NotKept : ErrOk K mg "NotKept" "promise" (some "witness")
  k_LEFT : ∃ a : Addr, mg "LEFT" = some (.ref a) ∧ ∀ Z : Hp, DR K Z (.ref a) D_LEFT
  cm : CmAt K mg CMl
section
variable {P : Program} {w : World} {K : Fg} {mg : Str → Option Value} {base : Heap}
theorem c__law_pen (D : DefAt K mg "_law_pen" s__law_pen) (T : Top K mg) : ∃ (f : Addr) (fd : FuncData), FnOk P w K mg base CX0 1 f fd ["script"] (spPen K) ∧ mg "_law_pen" = some (.ref f) ∧ PySem.W.keepIn K (.ref f) = true ∧ Binds K fd ["script"] [] := by
  obtain ⟨f, fd, F, hm⟩ := D
  refine ⟨f, fd, F.ok S__law_pen (fun vs H Q E ⟨_, _, e, _⟩ => by rw [e]; rfl) (fun cdv A outer s H vs Q E room h => ⟨tPen K 43 79 1000000297, ?_, pen_goal (by decide) (by decide) (by decide) (by decide) (by decide) (by decide) h rfl⟩), hm, F.kp, F.binds fun _ _ _ _ _ _ us hl => match us, hl with | [_], _ => rfl⟩
  exact pss_cons (ps_set (i := 1) S__law_pen.nd rfl (Or.inl rfl) pe_int) (pss_cons (ps_for PassesOwn.never rfl (pi_list (pv 0)) (pg_name (i := 2) S__law_pen.nd rfl (Or.inl rfl)) (pss_one (ps_set (i := 1) S__law_pen.nd rfl (Or.inl rfl) (pe_op op_mod (pe_callTy call_int1 (by rfl) T.n_int boot_int (pa_cons (pe_op op_add (pe_op op_mul (pv 1) pe_int) (pv 2)) pa_nil)) pe_int))))
    (pss_one (ps_ret (pe_disp (pps_cons pe_str (pe_callTy call_list_of (by rfl) T.n_list boot_list (pa_cons (pv 0) pa_nil)) (pps_cons pe_str pe_int (pps_cons pe_str pe_int (pps_cons pe_str pe_int (pps_cons pe_str (pv 1) pps_nil))))) (by rfl) (by rfl) (fun z => by cases z) (by decide)))))
theorem c__law_draw (D : DefAt K mg "_law_draw" s__law_draw) (T : Top K mg) : CallOk P w K mg base 1 "_law_draw" ["pen", "many"] W_draw := by
  obtain ⟨f, fd, F, hm⟩ := D
  refine ⟨f, fd, FnV.ofOk (sp := spDraw) ?_ draw_len draw_sp, F.kp, F.binds fun _ _ _ _ _ _ us hl => match us, hl with | [_, _], _ => rfl, hm⟩
  refine F.ok S__law_draw (fun vs H Q E ⟨_, _, _, _, _, _, _, _, e, _⟩ => by rw [e]; rfl) (fun cdv A outer s H vs Q E room h => ⟨tDraw K 70241 2147483353 9887 83 19 2305843009213693951 256, ?_, draw_goal (by decide) (by decide) (by decide) (by decide) (by decide) (by decide) (by decide) h rfl⟩)
  have hu := hu_of room
  exact pss_cons (ps_dput hu (pv 0) pe_str (pe_op op_add (pe_dget hu (pv 0) pe_str (fun _ _ => rfl)) pe_int) rfl) (pss_cons (ps_if (PW.pt (pw_and (pt_cmpR op_eq (pe_dget hu (pv 0) pe_str (fun _ _ => rfl)) pe_int (nomark _)) (pw_and1 (pt_cmpR op_lt (pe_dget hu (pv 0) pe_str (fun _ _ => rfl)) (pe_callB call_len_seq (by rfl) T.n_len boot_len (pa_cons (pe_dget hu (pv 0) pe_str (fun _ _ => rfl)) pa_nil)) (nomark _)))))
    (pss_cons (ps_set (i := 2) S__law_draw.nd rfl (Or.inl rfl) (pe_ix ix_seq (pe_dget hu (pv 0) pe_str (fun _ _ => rfl)) (pe_dget hu (pv 0) pe_str (fun _ _ => rfl)) (fun _ _ => rfl))) (pss_cons (ps_dput hu (pv 0) pe_str (pe_op op_add (pe_dget hu (pv 0) pe_str (fun _ _ => rfl)) pe_int) rfl) (pss_one (ps_if (pt_cmpR op_ge (pv 2) (pe_op op_pow pe_int pe_int) (nomark _)) (pss_one (ps_dput hu (pv 0) pe_str (pe_op op_sub (pv 2) (pe_op op_pow pe_int pe_int)) rfl)) (pss_one (ps_dput hu (pv 0) pe_str (pe_op op_mod (pe_callTy call_int1 (by rfl) T.n_int boot_int (pa_cons (pe_op op_add (pe_op op_mul (pe_dget hu (pv 0) pe_str (fun _ _ => rfl)) pe_int) (pv 2)) pa_nil)) pe_int) rfl))))))
    pss_nil)
    (pss_cons (ps_if (pt_cmpR op_gt (pe_dget hu (pv 0) pe_str (fun _ _ => rfl)) pe_int (nomark _)) (pss_cons (ps_set (i := 3) S__law_draw.nd rfl (Or.inl rfl) (pe_op op_mod (pe_callTy call_int1 (by rfl) T.n_int boot_int (pa_cons (pe_dget hu (pv 0) pe_str (fun _ _ => rfl)) pa_nil)) (pv 1))) (pss_cons (ps_dput hu (pv 0) pe_str (pe_op op_fdivN (pe_dget hu (pv 0) pe_str (fun _ _ => rfl)) (pv 1)) rfl) (pss_one (ps_ret (pv 3))))) pss_nil)
    (pss_cons (ps_set (i := 4) S__law_draw.nd rfl (Or.inl rfl) (pe_op op_add (pe_op op_add (pe_dget hu (pv 0) pe_str (fun _ _ => rfl)) (pe_op op_mul (pe_dget hu (pv 0) pe_str (fun _ _ => rfl)) pe_int)) pe_int)) (pss_one (ps_ret (pe_op op_mod (pe_op op_fdivN (pe_callTy call_int1 (by rfl) T.n_int boot_int (pa_cons (pe_op op_mod (pe_op op_pow (pv 4) pe_int) pe_int) pa_nil)) pe_int) (pv 1)))))))
abbrev W__law_draw : WF := W_draw
abbrev A__law_draw := drawA
theorem ra__law_draw : ∀ (a : List D) (c : Nat) (Q : D → Nat → Prop) (P : Rv → Nat → Prop) (R : Exc → Nat → Prop), A__law_draw a c Q → (∀ d c', Q d c' → P (.dat d) c') → W__law_draw (penA' a) c P R := fun _ _ _ _ _ => pf_draw
theorem e_BadNumber (D : ErrAt K mg "BadNumber" "what" (some "number") si_BadNumber "BadNumber.__init__") : ErrOk K mg "BadNumber" "what" (some "number") :=
  err_of (ps := ["self", "what", "number"]) D (fun _ _ _ _ _ _ us hl => match us, hl with | [_, _, _], _ => rfl) fun C fI fd F ox nf ng => init2_of F Si_BadNumber ox nf (ng _ rfl) fun P w base cdv A outer s H E => pss_cons (ps_ost (pv 0) (pv 1)) (pss_one (ps_ost (pv 0) (pv 2)))
theorem e_NotKept (D : ErrAt K mg "NotKept" "promise" (some "witness") si_NotKept "NotKept.__init__") : ErrOk K mg "NotKept" "promise" (some "witness") :=
  err_of (ps := ["self", "promise", "witness"]) D (fun _ _ _ _ _ _ us hl => match us, hl with | [_, _, _], _ => rfl) fun C fI fd F ox nf ng => init2_of F Si_NotKept ox nf (ng _ rfl) fun P w base cdv A outer s H E => pss_cons (ps_ost (pv 0) (pv 1)) (pss_one (ps_ost (pv 0) (pv 2)))
def B__law_bar_0 (Ex : Exc → Ga → Prop) : WS := (wSeq (wSet 1 (wIf (wBool (w2 sLeA (wDat (wFrz (w2 sMul (wDat (wC (.dat (.int 2)))) (wNameB 2)))) (wDat (wFrz (w2 sSub (wNameB 0) (wDat (wC (.dat (.int 1))))))))) (wName 2) (wName 1))) wNext)
def W__law_bar : WF := wDef 4 1 fun Ex => (wSeq (wSet 1 (wC (.dat (.int 0)))) (wSeq (wFor (wRange1 (wCons (wNameB 0) wNil)) (gSet 2) (B__law_bar_0 Ex)) (wSeq (wSet 3 (wFrz (w2 sFdiv (wDat (wFrz (w2 sMul (wNameB 0) (wNameB 1)))) (wDat (wC (.dat (.int 3))))))) (wRet (wTup (wCons (wName 1) (wCons (wName 3) (wCons (wIf (wBool (w2 sEq (wDat (wFrz (w2 sMod (wNameB 0) (wDat (wC (.dat (.int 6))))))) (wDat (wC (.dat (.int 5)))))) (wFrz (w2 sSub (wNameB 3) (wDat (wC (.dat (.int 1)))))) (wName 3)) wNil))))))))
theorem c__law_bar (D : DefAt K mg "_law_bar" s__law_bar) (T : Top K mg)  : CallOk P w K mg base 1 "_law_bar" ["n"] W__law_bar := by
  exact call_of (k := 0) D S__law_bar (fun _ _ _ _ _ _ us hl => match us, hl with | [_], _ => rfl) fun f cdv A outer s H E G Ex room tk =>
    (ass_cons (as_set 1 S__law_bar.nd ae_int) (ass_cons (as_for (passes_of rfl) (ai_range1 T.n_range (ab_cons (ab_name 0) ab_nil)) (fun _ => (ag_name 2 S__law_bar.nd)) (fun _ => (ass_cons (as_set 1 S__law_bar.nd (ae_if (at_cmp (o_le room.u64) p_leA (AE.ab (AZ.ae (az_bin o_mul p_mul (AE.ab ae_int) (ab_name 2)))) (AE.ab (AZ.ae (az_bin op_sub p_sub (ab_name 0) (AE.ab ae_int))))) (ae_name 2) (ae_name 1))) ass_nil))) (ass_cons (as_set 3 S__law_bar.nd (AZ.ae (az_bin op_fdivN p_fdiv (AE.ab (AZ.ae (az_bin o_mul p_mul (ab_name 0) (ab_name 1)))) (AE.ab ae_int)))) (ass_one (as_ret (ae_tup (aa_cons (ae_name 1) (aa_cons (ae_name 3) (aa_cons (ae_if (at_cmp (o_eq room.u64) p_eq (AE.ab (AZ.ae (az_bin op_modN p_mod (ab_name 0) (AE.ab ae_int)))) (AE.ab ae_int)) (AZ.ae (az_bin op_sub p_sub (ab_name 3) (AE.ab ae_int))) (ae_name 3)) aa_nil)))))))))
def W_is_whole : WF := wDef 1 1 fun Ex => (wRet (wAndV (wIsi .int (wNameB 0)) (wNotV (wIsi .bool (wNameB 0)))))
theorem c_is_whole (D : DefAt K mg "is_whole" s_is_whole) (T : Top K mg)  : CallOk P w K mg base 1 "is_whole" ["value"] W_is_whole := by
  exact call_of (k := 0) D S_is_whole (fun _ _ _ _ _ _ us hl => match us, hl with | [_], _ => rfl) fun f cdv A outer s H E G Ex room tk =>
    (ass_one (as_ret (ae_and (ae_isi .int (ab_name 0) T.n_isinstance T.n_int) (ae_one (ae_not (ae_isi .bool (ab_name 0) T.n_isinstance T.n_bool))))))
def W_is_count : WF := wDef 1 1 fun Ex => (wRet (wAndV (wCall W_is_whole Ex (wCons (wName 0) wNil)) (wFrz (w2 sGeA (wNameB 0) (wDat (wC (.dat (.int 0))))))))
theorem c_is_count (D : DefAt K mg "is_count" s_is_count) (T : Top K mg) (c_is_whole : CallOk P w K mg base 1 "is_whole" ["value"] W_is_whole) : CallOk P w K mg base 2 "is_count" ["value"] W_is_count := by
  exact call_of (k := 1) D S_is_count (fun _ _ _ _ _ _ us hl => match us, hl with | [_], _ => rfl) fun f cdv A outer s H E G Ex room tk =>
    (ass_one (as_ret (ae_and (ae_callC c_is_whole room tk (aa_cons (ae_name 0) aa_nil)) (ae_one (AZ.ae (az_cmp (o_ge room.u64) p_geA (ab_name 0) (AE.ab ae_int)))))))
def W_need_count : WF := wDef 2 2 fun Ex => (wSeq (wIfS (wNotT (wBool (wZ (wCall W_is_count Ex (wCons (wName 1) wNil))))) (wRaise "BadNumber" "what" (some "number") Ex (wCons (wName 0) (wCons (wName 1) wNil))) wNext) wNext)
theorem c_need_count (D : DefAt K mg "need_count" s_need_count) (T : Top K mg) (c_is_count : CallOk P w K mg base 2 "is_count" ["value"] W_is_count) : CallOk P w K mg base 3 "need_count" ["what", "value"] W_need_count := by
  exact call_of (k := 2) D S_need_count (fun _ _ _ _ _ _ us hl => match us, hl with | [_, _], _ => rfl) fun f cdv A outer s H E G Ex room tk =>
    (ass_cons (as_if (at_not (AZ.at (AE.az (ae_callC c_is_count room tk (aa_cons (ae_name 1) aa_nil))))) (ass_one (as_raiseC T.e_BadNumber room tk (aa_cons (ae_name 0) (aa_cons (ae_name 1) aa_nil)))) ass_nil) ass_nil)
def W_most_bar_in : WF := wDef 3 1 fun Ex => (wSeq (wSet 1 (wIf (wBool (w2 sGtA (wNameB 0) (wDat (wC (.dat (.int 0)))))) (wFrz (w2 sFdiv (wDat (wFrz (w2 sSub (wNameB 0) (wDat (wC (.dat (.int 1))))))) (wDat (wC (.dat (.int 2)))))) (wC (.dat (.int 0))))) (wSeq (wSet 2 (wFrz (w2 sFdiv (wDat (wFrz (w2 sMul (wNameB 0) (wNameB 1)))) (wDat (wC (.dat (.int 3))))))) (wRet (wTup (wCons (wName 1) (wCons (wName 2) (wCons (wIf (wBool (w2 sEq (wDat (wFrz (w2 sMod (wNameB 0) (wDat (wC (.dat (.int 6))))))) (wDat (wC (.dat (.int 5)))))) (wFrz (w2 sSub (wNameB 2) (wDat (wC (.dat (.int 1)))))) (wName 2)) wNil)))))))
theorem c_most_bar_in (D : DefAt K mg "most_bar_in" s_most_bar_in) (T : Top K mg)  : CallOk P w K mg base 1 "most_bar_in" ["n"] W_most_bar_in := by
  exact call_of (k := 0) D S_most_bar_in (fun _ _ _ _ _ _ us hl => match us, hl with | [_], _ => rfl) fun f cdv A outer s H E G Ex room tk =>
    (ass_cons (as_set 1 S_most_bar_in.nd (ae_if (at_cmp (o_gt room.u64) p_gtA (ab_name 0) (AE.ab ae_int)) (AZ.ae (az_bin op_fdivN p_fdiv (AE.ab (AZ.ae (az_bin op_sub p_sub (ab_name 0) (AE.ab ae_int)))) (AE.ab ae_int))) ae_int)) (ass_cons (as_set 2 S_most_bar_in.nd (AZ.ae (az_bin op_fdivN p_fdiv (AE.ab (AZ.ae (az_bin o_mul p_mul (ab_name 0) (ab_name 1)))) (AE.ab ae_int)))) (ass_one (as_ret (ae_tup (aa_cons (ae_name 1) (aa_cons (ae_name 2) (aa_cons (ae_if (at_cmp (o_eq room.u64) p_eq (AE.ab (AZ.ae (az_bin op_modN p_mod (ab_name 0) (AE.ab ae_int)))) (AE.ab ae_int)) (AZ.ae (az_bin op_sub p_sub (ab_name 2) (AE.ab ae_int))) (ae_name 2)) aa_nil))))))))
def W_most_bar : WF := wDef 1 1 fun Ex => (wSeq (wDrop (wCall W_need_count Ex (wCons (wC (.dat (.str "things"))) (wCons (wName 0) wNil)))) (wRet (wCall W_most_bar_in Ex (wCons (wName 0) wNil))))
theorem c_most_bar (D : DefAt K mg "most_bar" s_most_bar) (T : Top K mg) (c_most_bar_in : CallOk P w K mg base 1 "most_bar_in" ["n"] W_most_bar_in) (c_need_count : CallOk P w K mg base 3 "need_count" ["what", "value"] W_need_count) : CallOk P w K mg base 4 "most_bar" ["n"] W_most_bar := by
  exact call_of (k := 3) D S_most_bar (fun _ _ _ _ _ _ us hl => match us, hl with | [_], _ => rfl) fun f cdv A outer s H E G Ex room tk =>
    (ass_cons (as_expr (ae_callC c_need_count room tk (aa_cons ae_str (aa_cons (ae_name 0) aa_nil)))) (ass_one (as_ret (ae_callC c_most_bar_in room tk (aa_cons (ae_name 0) aa_nil)))))
def W_most_number : WF := wDef 1 1 fun Ex => (wSeq (wDrop (wCall W_need_count Ex (wCons (wC (.dat (.str "things"))) (wCons (wName 0) wNil)))) (wRet (wFrz (w2 sIxA (wDat (wCall W_most_bar_in Ex (wCons (wName 0) wNil))) (wDat (wC (.dat (.int 2))))))))
theorem c_most_number (D : DefAt K mg "most_number" s_most_number) (T : Top K mg) (c_most_bar_in : CallOk P w K mg base 1 "most_bar_in" ["n"] W_most_bar_in) (c_need_count : CallOk P w K mg base 3 "need_count" ["what", "value"] W_need_count) : CallOk P w K mg base 4 "most_number" ["n"] W_most_number := by
  exact call_of (k := 3) D S_most_number (fun _ _ _ _ _ _ us hl => match us, hl with | [_], _ => rfl) fun f cdv A outer s H E G Ex room tk =>
    (ass_cons (as_expr (ae_callC c_need_count room tk (aa_cons ae_str (aa_cons (ae_name 0) aa_nil)))) (ass_one (as_ret (AZ.ae (az_ixA room.u1 (AE.ab (ae_callC c_most_bar_in room tk (aa_cons (ae_name 0) aa_nil))) (AE.ab ae_int))))))
def W_threes_in : WF := wDef 2 1 fun Ex => (wRet (wFrz (wN sTuple (wCons (wDat (wFrz (wN sSortA (wCons (wDat (wFrz (wComp [1] (wItemsA (wName 0)) (gSet 1) wYes (wFrz (wN sTuple (wCons (wDat (wFrz (wN sSortA (wCons (wNameB 1) wNil)))) wNil)))))) wNil)))) wNil))))
theorem c_threes_in (D : DefAt K mg "threes_in" s_threes_in) (T : Top K mg)  : CallOk P w K mg base 1 "threes_in" ["lots"] W_threes_in := by
  exact call_of (k := 0) D S_threes_in (fun _ _ _ _ _ _ us hl => match us, hl with | [_], _ => rfl) fun f cdv A outer s H E G Ex room tk =>
    (ass_one (as_ret (AZ.ae (az_callTy call_tuple_of p_tuple (by rfl) T.n_tuple boot_tuple (ab_cons (AE.ab (AZ.ae (az_callB (c_sortAll room.u66 (by rfl)) p_sortA (by rfl) T.n_sorted boot_sorted (ab_cons (AE.ab (AZ.ae (az_comp [("lot", 1)] S_threes_in.nd (ai_all (ae_name 0)) (blkOk_by (N := N_threes_in) (sc := defScope s_threes_in) (by decide +kernel)) (fun _ _ _ _ _ _ => (ag_name 1 S_threes_in.nd)) (fun _ _ _ _ _ _ => ats_nil) (fun _ _ _ _ _ _ => (AZ.ae (az_callTy call_tuple_of p_tuple (by rfl) T.n_tuple boot_tuple (ab_cons (AE.ab (AZ.ae (az_callB (c_sortAll room.u66 (by rfl)) p_sortA (by rfl) T.n_sorted boot_sorted (ab_cons (ab_name 1) ab_nil)))) ab_nil))))))) ab_nil)))) ab_nil)))))
def W_thing_of : WF := wDef 2 2 fun Ex => (wRet (wFrz (w2 sAdd (wDat (wFrz (w2 sMul (wDat (wC (.dat (.int 3)))) (wNameB 0)))) (wDat (wFrz (w2 sMod (wNameB 1) (wDat (wC (.dat (.int 3))))))))))
theorem c_thing_of (D : DefAt K mg "thing_of" s_thing_of) (T : Top K mg)  : CallOk P w K mg base 1 "thing_of" ["x", "i"] W_thing_of := by
  exact call_of (k := 0) D S_thing_of (fun _ _ _ _ _ _ us hl => match us, hl with | [_, _], _ => rfl) fun f cdv A outer s H E G Ex room tk =>
    (ass_one (as_ret (AZ.ae (az_bin o_add p_add (AE.ab (AZ.ae (az_bin o_mul p_mul (AE.ab ae_int) (ab_name 0)))) (AE.ab (AZ.ae (az_bin op_modN p_mod (ab_name 1) (AE.ab ae_int))))))))
def W_columns : WF := wDef 2 1 fun Ex => (wRet (wFrz (wComp [1] (wItemsA (wName 0)) (gSet 1) wYes (wTup (wCons (wCall W_thing_of Ex0 (wCons (wName 1) (wCons (wC (.dat (.int 0))) wNil))) (wCons (wCall W_thing_of Ex0 (wCons (wName 1) (wCons (wC (.dat (.int 1))) wNil))) (wCons (wCall W_thing_of Ex0 (wCons (wName 1) (wCons (wC (.dat (.int 2))) wNil))) wNil)))))))
theorem c_columns (D : DefAt K mg "columns" s_columns) (T : Top K mg) (c_thing_of : CallOk P w K mg base 1 "thing_of" ["x", "i"] W_thing_of) : CallOk P w K mg base 2 "columns" ["things"] W_columns := by
  exact call_of (k := 1) D S_columns (fun _ _ _ _ _ _ us hl => match us, hl with | [_], _ => rfl) fun f cdv A outer s H E G Ex room tk =>
    (ass_one (as_ret (AZ.ae (az_comp [("x", 1)] S_columns.nd (ai_all (ae_name 0)) (blkOk_by (N := N_columns) (sc := defScope s_columns) (by decide +kernel)) (fun _ _ _ _ _ _ => (ag_name 1 S_columns.nd)) (fun _ _ _ _ _ _ => ats_nil) (fun _ _ _ _ _ _ => (ae_tup (aa_cons (ae_callC c_thing_of room tk0 (aa_cons (ae_name 1) (aa_cons ae_int aa_nil))) (aa_cons (ae_callC c_thing_of room tk0 (aa_cons (ae_name 1) (aa_cons ae_int aa_nil))) (aa_cons (ae_callC c_thing_of room tk0 (aa_cons (ae_name 1) (aa_cons ae_int aa_nil))) aa_nil)))))))))
def W_all_pairs : WF := wDef 3 1 fun Ex => (wRet (wFrz (wComp2 [1, 2] [2] (wRange1 (wCons (wNameB 0) wNil)) (gSet 1) wYes (wRange2 (wCons (wDat (wFrz (w2 sAdd (wNameB 1) (wDat (wC (.dat (.int 1))))))) (wCons (wNameB 0) wNil))) (gSet 2) wYes (wTup (wCons (wName 1) (wCons (wName 2) wNil))))))
theorem c_all_pairs (D : DefAt K mg "all_pairs" s_all_pairs) (T : Top K mg)  : CallOk P w K mg base 1 "all_pairs" ["n"] W_all_pairs := by
  exact call_of (k := 0) D S_all_pairs (fun _ _ _ _ _ _ us hl => match us, hl with | [_], _ => rfl) fun f cdv A outer s H E G Ex room tk =>
    (ass_one (as_ret (AZ.ae (az_comp2 [("one", 1), ("two", 2)] S_all_pairs.nd (ai_range1 T.n_range (ab_cons (ab_name 0) ab_nil)) (blkOk_by (N := N_all_pairs) (sc := defScope s_all_pairs) (by decide +kernel)) (fun _ _ _ _ _ _ => (ag_name 1 S_all_pairs.nd)) (fun _ _ _ _ _ _ => ats_nil) (fun _ _ _ _ _ _ => (ai_range2 T.n_range (ab_cons (AE.ab (AZ.ae (az_bin o_add p_add (ab_name 1) (AE.ab ae_int)))) (ab_cons (ab_name 0) ab_nil)))) (fun _ _ _ _ _ _ => (ag_name 2 S_all_pairs.nd)) (fun _ _ _ _ _ _ => ats_nil) (fun _ _ _ _ _ _ => (ae_tup (aa_cons (ae_name 1) (aa_cons (ae_name 2) aa_nil))))))))
def B_crossed_1 (Ex : Exc → Ga → Prop) : WS := (wSeq (wAppend 1 (wTup (wCons (wCall W_thing_of Ex (wCons (wName 2) (wCons (wName 4) wNil))) (wCons (wCall W_thing_of Ex (wCons (wName 3) (wCons (wName 4) wNil))) (wCons (wCall W_thing_of Ex (wCons (wFrz (w2 sIxA (wDat (wFrz (w2 sIxA (wNameB 0) (wNameB 2)))) (wNameB 3))) (wCons (wFrz (w2 sAdd (wNameB 4) (wDat (wC (.dat (.int 1)))))) wNil))) wNil))))) wNext)
def B_crossed_0 (Ex : Exc → Ga → Prop) : WS := (wSeq (wFor (wRange1 (wCons (wDat (wC (.dat (.int 3)))) wNil)) (gSet 4) (B_crossed_1 Ex)) wNext)
def W_crossed : WF := wDef 5 1 fun Ex => (wSeq (wSetZ 1 (wLst wNil)) (wSeq (wFor (wItemsA (wCall W_all_pairs Ex (wCons (wFrz (wN sLenQ (wCons (wNameB 0) wNil))) wNil))) (gTupV 2 (gsCons (gSet 2) (gsCons (gSet 3) gsNil))) (B_crossed_0 Ex)) (wRet (wName 1))))
theorem c_crossed (D : DefAt K mg "crossed" s_crossed) (T : Top K mg) (c_all_pairs : CallOk P w K mg base 1 "all_pairs" ["n"] W_all_pairs) (c_thing_of : CallOk P w K mg base 1 "thing_of" ["x", "i"] W_thing_of) : CallOk P w K mg base 2 "crossed" ["table"] W_crossed := by
  exact call_of (k := 1) D S_crossed (fun _ _ _ _ _ _ us hl => match us, hl with | [_], _ => rfl) fun f cdv A outer s H E G Ex room tk =>
    (ass_cons (as_setZ 1 S_crossed.nd (az_lst aa_nil)) (ass_cons (as_for (passes_of rfl) (ai_all (ae_callC c_all_pairs room tk (aa_cons (AZ.ae (az_callB c_lenA p_lenQ (by rfl) T.n_len boot_len (ab_cons (ab_name 0) ab_nil))) aa_nil))) (fun _ => (ag_tup (ags_cons (ag_name 2 S_crossed.nd) (ags_cons (ag_name 3 S_crossed.nd) ags_nil)))) (fun _ => (ass_cons (as_for (passes_of rfl) (ai_range1 T.n_range (ab_cons (AE.ab ae_int) ab_nil)) (fun _ => (ag_name 4 S_crossed.nd)) (fun _ => (ass_cons (as_append 1 (ae_tup (aa_cons (ae_callC c_thing_of room tk (aa_cons (ae_name 2) (aa_cons (ae_name 4) aa_nil))) (aa_cons (ae_callC c_thing_of room tk (aa_cons (ae_name 3) (aa_cons (ae_name 4) aa_nil))) (aa_cons (ae_callC c_thing_of room tk (aa_cons (AZ.ae (az_ixA room.u1 (AE.ab (AZ.ae (az_ixA room.u1 (ab_name 0) (ab_name 2)))) (ab_name 3))) (aa_cons (AZ.ae (az_bin o_add p_add (ab_name 4) (AE.ab ae_int))) aa_nil))) aa_nil))))) ass_nil))) ass_nil))) (ass_one (as_ret (ae_name 1)))))
def W_still_across : WF := wDef 3 1 fun Ex => (wSeq (wDrop (wCall W_need_count Ex (wCons (wC (.dat (.str "things"))) (wCons (wName 0) wNil)))) (wSeq (wIfS (wBool (w2 sEq (wDat (wFrz (w2 sMod (wNameB 0) (wDat (wC (.dat (.int 2))))))) (wDat (wC (.dat (.int 0)))))) (wRaise "NotKept" "promise" (some "witness") Ex (wCons (wC (.dat (.str "odd"))) (wCons (wName 0) wNil))) wNext) (wRet (wFrz (wN sTuple (wCons (wDat (wFrz (wComp [2] (wRange1 (wCons (wNameB 0) wNil)) (gSet 2) wYes (wFrz (wN sTuple (wCons (wDat (wFrz (wComp [1] (wRange1 (wCons (wNameB 0) wNil)) (gSet 1) wYes (wFrz (w2 sMod (wDat (wFrz (w2 sFdiv (wDat (wFrz (w2 sMul (wDat (wFrz (w2 sAdd (wNameB 2) (wNameB 1)))) (wDat (wFrz (w2 sAdd (wNameB 0) (wDat (wC (.dat (.int 1)))))))))) (wDat (wC (.dat (.int 2))))))) (wNameB 0)))))) wNil)))))) wNil))))))
theorem c_still_across (D : DefAt K mg "still_across" s_still_across) (T : Top K mg) (c_need_count : CallOk P w K mg base 3 "need_count" ["what", "value"] W_need_count) : CallOk P w K mg base 4 "still_across" ["n"] W_still_across := by
  exact call_of (k := 3) D S_still_across (fun _ _ _ _ _ _ us hl => match us, hl with | [_], _ => rfl) fun f cdv A outer s H E G Ex room tk =>
    (ass_cons (as_expr (ae_callC c_need_count room tk (aa_cons ae_str (aa_cons (ae_name 0) aa_nil)))) (ass_cons (as_if (at_cmp (o_eq room.u64) p_eq (AE.ab (AZ.ae (az_bin op_modN p_mod (ab_name 0) (AE.ab ae_int)))) (AE.ab ae_int)) (ass_one (as_raiseC T.e_NotKept room tk (aa_cons ae_str (aa_cons (ae_name 0) aa_nil)))) ass_nil) (ass_one (as_ret (AZ.ae (az_callTy call_tuple_of p_tuple (by rfl) T.n_tuple boot_tuple (ab_cons (AE.ab (AZ.ae (az_comp [("i", 2)] S_still_across.nd (ai_range1 T.n_range (ab_cons (ab_name 0) ab_nil)) (blkOk_by (N := N_still_across) (sc := defScope s_still_across) (by decide +kernel)) (fun _ _ _ _ _ _ => (ag_name 2 S_still_across.nd)) (fun _ _ _ _ _ _ => ats_nil) (fun _ _ _ _ _ _ => (AZ.ae (az_callTy call_tuple_of p_tuple (by rfl) T.n_tuple boot_tuple (ab_cons (AE.ab (AZ.ae (az_comp [("j", 1)] S_still_across.nd (ai_range1 T.n_range (ab_cons (ab_name 0) ab_nil)) (blkOk_by (by kernel_rfl)) (fun _ _ _ _ _ _ => (ag_name 1 S_still_across.nd)) (fun _ _ _ _ _ _ => ats_nil) (fun _ _ _ _ _ _ => (AZ.ae (az_bin op_modN p_mod (AE.ab (AZ.ae (az_bin op_fdivN p_fdiv (AE.ab (AZ.ae (az_bin o_mul p_mul (AE.ab (AZ.ae (az_bin o_add p_add (ab_name 2) (ab_name 1)))) (AE.ab (AZ.ae (az_bin o_add p_add (ab_name 0) (AE.ab ae_int))))))) (AE.ab ae_int)))) (ab_name 0))))))) ab_nil))))))) ab_nil)))))))
def W_half_of : WF := wDef 2 2 fun Ex => (wRet (wIf (wBool (w2 sEq (wDat (wFrz (w2 sMod (wNameB 0) (wDat (wC (.dat (.int 2))))))) (wDat (wC (.dat (.int 0)))))) (wFrz (w2 sFdiv (wNameB 0) (wDat (wC (.dat (.int 2)))))) (wFrz (w2 sFdiv (wDat (wFrz (w2 sSub (wDat (wFrz (w2 sAdd (wNameB 1) (wNameB 0)))) (wDat (wC (.dat (.int 1))))))) (wDat (wC (.dat (.int 2))))))))
theorem c_half_of (D : DefAt K mg "half_of" s_half_of) (T : Top K mg)  : CallOk P w K mg base 1 "half_of" ["rest", "n"] W_half_of := by
  exact call_of (k := 0) D S_half_of (fun _ _ _ _ _ _ us hl => match us, hl with | [_, _], _ => rfl) fun f cdv A outer s H E G Ex room tk =>
    (ass_one (as_ret (ae_if (at_cmp (o_eq room.u64) p_eq (AE.ab (AZ.ae (az_bin op_modN p_mod (ab_name 0) (AE.ab ae_int)))) (AE.ab ae_int)) (AZ.ae (az_bin op_fdivN p_fdiv (ab_name 0) (AE.ab ae_int))) (AZ.ae (az_bin op_fdivN p_fdiv (AE.ab (AZ.ae (az_bin op_sub p_sub (AE.ab (AZ.ae (az_bin o_add p_add (ab_name 1) (ab_name 0)))) (AE.ab ae_int)))) (AE.ab ae_int))))))
def W_half_still_across : WF := wDef 3 1 fun Ex => (wSeq (wDrop (wCall W_need_count Ex (wCons (wC (.dat (.str "things"))) (wCons (wName 0) wNil)))) (wSeq (wIfS (wBool (w2 sEq (wDat (wFrz (w2 sMod (wNameB 0) (wDat (wC (.dat (.int 2))))))) (wDat (wC (.dat (.int 1)))))) (wRaise "NotKept" "promise" (some "witness") Ex (wCons (wC (.dat (.str "even"))) (wCons (wName 0) wNil))) wNext) (wRet (wFrz (wN sTuple (wCons (wDat (wFrz (wComp [2] (wRange1 (wCons (wNameB 0) wNil)) (gSet 2) wYes (wFrz (wN sTuple (wCons (wDat (wFrz (wComp [1] (wRange1 (wCons (wNameB 0) wNil)) (gSet 1) wYes (wCall W_half_of Ex0 (wCons (wFrz (w2 sMod (wDat (wFrz (w2 sAdd (wNameB 2) (wNameB 1)))) (wNameB 0))) (wCons (wName 0) wNil)))))) wNil)))))) wNil))))))
theorem c_half_still_across (D : DefAt K mg "half_still_across" s_half_still_across) (T : Top K mg) (c_half_of : CallOk P w K mg base 1 "half_of" ["rest", "n"] W_half_of) (c_need_count : CallOk P w K mg base 3 "need_count" ["what", "value"] W_need_count) : CallOk P w K mg base 4 "half_still_across" ["n"] W_half_still_across := by
  exact call_of (k := 3) D S_half_still_across (fun _ _ _ _ _ _ us hl => match us, hl with | [_], _ => rfl) fun f cdv A outer s H E G Ex room tk =>
    (ass_cons (as_expr (ae_callC c_need_count room tk (aa_cons ae_str (aa_cons (ae_name 0) aa_nil)))) (ass_cons (as_if (at_cmp (o_eq room.u64) p_eq (AE.ab (AZ.ae (az_bin op_modN p_mod (ab_name 0) (AE.ab ae_int)))) (AE.ab ae_int)) (ass_one (as_raiseC T.e_NotKept room tk (aa_cons ae_str (aa_cons (ae_name 0) aa_nil)))) ass_nil) (ass_one (as_ret (AZ.ae (az_callTy call_tuple_of p_tuple (by rfl) T.n_tuple boot_tuple (ab_cons (AE.ab (AZ.ae (az_comp [("i", 2)] S_half_still_across.nd (ai_range1 T.n_range (ab_cons (ab_name 0) ab_nil)) (blkOk_by (N := N_half_still_across) (sc := defScope s_half_still_across) (by decide +kernel)) (fun _ _ _ _ _ _ => (ag_name 2 S_half_still_across.nd)) (fun _ _ _ _ _ _ => ats_nil) (fun _ _ _ _ _ _ => (AZ.ae (az_callTy call_tuple_of p_tuple (by rfl) T.n_tuple boot_tuple (ab_cons (AE.ab (AZ.ae (az_comp [("j", 1)] S_half_still_across.nd (ai_range1 T.n_range (ab_cons (ab_name 0) ab_nil)) (blkOk_by (by kernel_rfl)) (fun _ _ _ _ _ _ => (ag_name 1 S_half_still_across.nd)) (fun _ _ _ _ _ _ => ats_nil) (fun _ _ _ _ _ _ => (ae_callC c_half_of room tk0 (aa_cons (AZ.ae (az_bin op_modN p_mod (AE.ab (AZ.ae (az_bin o_add p_add (ab_name 2) (ab_name 1)))) (ab_name 0))) (aa_cons (ae_name 0) aa_nil))))))) ab_nil))))))) ab_nil)))))))
def B_once_in_1 (Ex : Exc → Ga → Prop) : WS := (wSeq (wAppend 2 (wTup (wCons (wFrz (w2 sSub (wNameB 0) (wDat (wC (.dat (.int 1)))))) (wCons (wCall W_thing_of Ex (wCons (wFrz (w2 sAdd (wNameB 1) (wNameB 3))) (wCons (wName 4) wNil))) (wCons (wCall W_thing_of Ex (wCons (wName 3) (wCons (wFrz (w2 sAdd (wNameB 4) (wDat (wC (.dat (.int 1)))))) wNil))) wNil))))) wNext)
def B_once_in_0 (Ex : Exc → Ga → Prop) : WS := (wSeq (wFor (wRange1 (wCons (wDat (wC (.dat (.int 3)))) wNil)) (gSet 4) (B_once_in_1 Ex)) wNext)
def W_once_in : WF := wDef 5 1 fun Ex => (wSeq (wIfS (wBool (w2 sLtA (wNameB 0) (wDat (wC (.dat (.int 2)))))) (wRet (wTup wNil)) wNext) (wSeq (wSet 1 (wFrz (w2 sFdiv (wNameB 0) (wDat (wC (.dat (.int 6))))))) (wSeq (wIfS (wBool (w2 sEq (wDat (wFrz (w2 sMod (wNameB 0) (wDat (wC (.dat (.int 6))))))) (wDat (wC (.dat (.int 3)))))) (wRet (wCall W_threes_in Ex (wCons (wFrz (w2 sAdd (wDat (wCall W_columns Ex (wCons (wFrz (wListRg1 (wDat (wFrz (w2 sAdd (wDat (wFrz (w2 sMul (wDat (wC (.dat (.int 2)))) (wNameB 1)))) (wDat (wC (.dat (.int 1))))))))) wNil))) (wDat (wCall W_crossed Ex (wCons (wCall W_still_across Ex (wCons (wFrz (w2 sAdd (wDat (wFrz (w2 sMul (wDat (wC (.dat (.int 2)))) (wNameB 1)))) (wDat (wC (.dat (.int 1)))))) wNil)) wNil))))) wNil))) wNext) (wSeq (wSetZ 2 (wLst wNil)) (wSeq (wFor (wRange1 (wCons (wNameB 1) wNil)) (gSet 3) (B_once_in_0 Ex)) (wRet (wCall W_threes_in Ex (wCons (wFrz (w2 sAdd (wDat (wFrz (w2 sAdd (wDat (wCall W_columns Ex (wCons (wFrz (wListRg1 (wNameB 1))) wNil))) (wNameB 2)))) (wDat (wCall W_crossed Ex (wCons (wCall W_half_still_across Ex (wCons (wFrz (w2 sMul (wDat (wC (.dat (.int 2)))) (wNameB 1))) wNil)) wNil))))) wNil))))))))
theorem c_once_in (D : DefAt K mg "once_in" s_once_in) (T : Top K mg) (c_columns : CallOk P w K mg base 2 "columns" ["things"] W_columns) (c_crossed : CallOk P w K mg base 2 "crossed" ["table"] W_crossed) (c_half_still_across : CallOk P w K mg base 4 "half_still_across" ["n"] W_half_still_across) (c_still_across : CallOk P w K mg base 4 "still_across" ["n"] W_still_across) (c_thing_of : CallOk P w K mg base 1 "thing_of" ["x", "i"] W_thing_of) (c_threes_in : CallOk P w K mg base 1 "threes_in" ["lots"] W_threes_in) : CallOk P w K mg base 5 "once_in" ["n"] W_once_in := by
  exact call_of (k := 4) D S_once_in (fun _ _ _ _ _ _ us hl => match us, hl with | [_], _ => rfl) fun f cdv A outer s H E G Ex room tk =>
    (ass_cons (as_if (at_cmp (o_lt room.u64) p_ltA (ab_name 0) (AE.ab ae_int)) (ass_one (as_ret (ae_tup aa_nil))) ass_nil) (ass_cons (as_set 1 S_once_in.nd (AZ.ae (az_bin op_fdivN p_fdiv (ab_name 0) (AE.ab ae_int)))) (ass_cons (as_if (at_cmp (o_eq room.u64) p_eq (AE.ab (AZ.ae (az_bin op_modN p_mod (ab_name 0) (AE.ab ae_int)))) (AE.ab ae_int)) (ass_one (as_ret (ae_callC c_threes_in room tk (aa_cons (AZ.ae (az_bin o_add p_add (AE.ab (ae_callC c_columns room tk (aa_cons (AZ.ae (az_listRg1 T.n_list T.n_range (AE.ab (AZ.ae (az_bin o_add p_add (AE.ab (AZ.ae (az_bin o_mul p_mul (AE.ab ae_int) (ab_name 1)))) (AE.ab ae_int)))))) aa_nil))) (AE.ab (ae_callC c_crossed room tk (aa_cons (ae_callC c_still_across room tk (aa_cons (AZ.ae (az_bin o_add p_add (AE.ab (AZ.ae (az_bin o_mul p_mul (AE.ab ae_int) (ab_name 1)))) (AE.ab ae_int))) aa_nil)) aa_nil))))) aa_nil)))) ass_nil) (ass_cons (as_setZ 2 S_once_in.nd (az_lst aa_nil)) (ass_cons (as_for (passes_of rfl) (ai_range1 T.n_range (ab_cons (ab_name 1) ab_nil)) (fun _ => (ag_name 3 S_once_in.nd)) (fun _ => (ass_cons (as_for (passes_of rfl) (ai_range1 T.n_range (ab_cons (AE.ab ae_int) ab_nil)) (fun _ => (ag_name 4 S_once_in.nd)) (fun _ => (ass_cons (as_append 2 (ae_tup (aa_cons (AZ.ae (az_bin op_sub p_sub (ab_name 0) (AE.ab ae_int))) (aa_cons (ae_callC c_thing_of room tk (aa_cons (AZ.ae (az_bin o_add p_add (ab_name 1) (ab_name 3))) (aa_cons (ae_name 4) aa_nil))) (aa_cons (ae_callC c_thing_of room tk (aa_cons (ae_name 3) (aa_cons (AZ.ae (az_bin o_add p_add (ab_name 4) (AE.ab ae_int))) aa_nil))) aa_nil))))) ass_nil))) ass_nil))) (ass_one (as_ret (ae_callC c_threes_in room tk (aa_cons (AZ.ae (az_bin o_add p_add (AE.ab (AZ.ae (az_bin o_add p_add (AE.ab (ae_callC c_columns room tk (aa_cons (AZ.ae (az_listRg1 T.n_list T.n_range (ab_name 1))) aa_nil))) (ab_name 2)))) (AE.ab (ae_callC c_crossed room tk (aa_cons (ae_callC c_half_still_across room tk (aa_cons (AZ.ae (az_bin o_mul p_mul (AE.ab ae_int) (ab_name 1))) aa_nil)) aa_nil))))) aa_nil)))))))))
def W_nexts : WF := wDef 2 1 fun Ex => (wRet (wFrz (w2 sAdd (wDat (wFrz (w2 sAdd (wDat (wFrz (wLst (wCons (wC (.dat (.int 0))) wNil)))) (wDat (wFrz (wComp [1] (wRange2 (wCons (wDat (wC (.dat (.int 1)))) (wCons (wDat (wFrz (w2 sMul (wDat (wC (.dat (.int 2)))) (wNameB 0)))) wNil))) (gSet 1) wYes (wFrz (w2 sAdd (wNameB 1) (wDat (wC (.dat (.int 1)))))))))))) (wDat (wIf (wBool (w2 sGtA (wNameB 0) (wDat (wC (.dat (.int 0)))))) (wFrz (wLst (wCons (wC (.dat (.int 1))) wNil))) (wFrz (wLst wNil)))))))
theorem c_nexts (D : DefAt K mg "nexts" s_nexts) (T : Top K mg)  : CallOk P w K mg base 1 "nexts" ["t"] W_nexts := by
  exact call_of (k := 0) D S_nexts (fun _ _ _ _ _ _ us hl => match us, hl with | [_], _ => rfl) fun f cdv A outer s H E G Ex room tk =>
    (ass_one (as_ret (AZ.ae (az_bin o_add p_add (AE.ab (AZ.ae (az_bin o_add p_add (AE.ab (AZ.ae (az_lst (aa_cons ae_int aa_nil)))) (AE.ab (AZ.ae (az_comp [("x", 1)] S_nexts.nd (ai_range2 T.n_range (ab_cons (AE.ab ae_int) (ab_cons (AE.ab (AZ.ae (az_bin o_mul p_mul (AE.ab ae_int) (ab_name 0)))) ab_nil))) (blkOk_by (N := N_nexts) (sc := defScope s_nexts) (by decide +kernel)) (fun _ _ _ _ _ _ => (ag_name 1 S_nexts.nd)) (fun _ _ _ _ _ _ => ats_nil) (fun _ _ _ _ _ _ => (AZ.ae (az_bin o_add p_add (ab_name 1) (AE.ab ae_int)))))))))) (AE.ab (ae_if (at_cmp (o_gt room.u64) p_gtA (ab_name 0) (AE.ab ae_int)) (AZ.ae (az_lst (aa_cons ae_int aa_nil))) (AZ.ae (az_lst aa_nil))))))))
def B_five_in_1 (Ex : Exc → Ga → Prop) : WS := (wSeq (wPar 9 10 (wZ (wFrz (w2 sIxA (wNameB 3) (wNameB 7)))) (wZ (wFrz (wM "list" sIndexI (wNameB 3) (wCons (wNameB 7) wNil))))) (wSeq (wExtend 6 (wDat (wFrz (wLst (wCons (wTup (wCons (wName 4) (wCons (wCall W_thing_of Ex (wCons (wName 7) (wCons (wC (.dat (.int 0))) wNil))) (wCons (wCall W_thing_of Ex (wCons (wName 7) (wCons (wC (.dat (.int 1))) wNil))) wNil)))) (wCons (wTup (wCons (wName 4) (wCons (wCall W_thing_of Ex (wCons (wName 7) (wCons (wC (.dat (.int 2))) wNil))) (wCons (wCall W_thing_of Ex (wCons (wName 9) (wCons (wC (.dat (.int 0))) wNil))) wNil)))) wNil)))))) (wSeq (wExtend 6 (wDat (wFrz (wLst (wCons (wTup (wCons (wName 4) (wCons (wCall W_thing_of Ex (wCons (wName 9) (wCons (wC (.dat (.int 1))) wNil))) (wCons (wCall W_thing_of Ex (wCons (wName 9) (wCons (wC (.dat (.int 2))) wNil))) wNil)))) (wCons (wTup (wCons (wName 5) (wCons (wCall W_thing_of Ex (wCons (wName 7) (wCons (wC (.dat (.int 1))) wNil))) (wCons (wCall W_thing_of Ex (wCons (wName 7) (wCons (wC (.dat (.int 2))) wNil))) wNil)))) wNil)))))) (wSeq (wExtend 6 (wDat (wFrz (wLst (wCons (wTup (wCons (wName 5) (wCons (wCall W_thing_of Ex (wCons (wName 9) (wCons (wC (.dat (.int 0))) wNil))) (wCons (wCall W_thing_of Ex (wCons (wName 9) (wCons (wC (.dat (.int 1))) wNil))) wNil)))) (wCons (wTup (wCons (wName 5) (wCons (wCall W_thing_of Ex (wCons (wName 7) (wCons (wC (.dat (.int 0))) wNil))) (wCons (wCall W_thing_of Ex (wCons (wName 10) (wCons (wC (.dat (.int 2))) wNil))) wNil)))) wNil)))))) wNext))))
def B_five_in_0 (Ex : Exc → Ga → Prop) : WS := (wSeq (wAppend 6 (wTup (wCons (wCall W_thing_of Ex (wCons (wName 7) (wCons (wC (.dat (.int 0))) wNil))) (wCons (wCall W_thing_of Ex (wCons (wName 8) (wCons (wC (.dat (.int 0))) wNil))) (wCons (wCall W_thing_of Ex (wCons (wFrz (w2 sIxA (wDat (wFrz (w2 sIxA (wNameB 2) (wNameB 7)))) (wNameB 8))) (wCons (wC (.dat (.int 1))) wNil))) wNil))))) (wSeq (wAppend 6 (wTup (wCons (wCall W_thing_of Ex (wCons (wName 7) (wCons (wC (.dat (.int 1))) wNil))) (wCons (wCall W_thing_of Ex (wCons (wName 8) (wCons (wC (.dat (.int 1))) wNil))) (wCons (wCall W_thing_of Ex (wCons (wFrz (w2 sIxA (wDat (wFrz (w2 sIxA (wNameB 2) (wNameB 7)))) (wNameB 8))) (wCons (wC (.dat (.int 2))) wNil))) wNil))))) (wSeq (wAppend 6 (wTup (wCons (wCall W_thing_of Ex (wCons (wName 7) (wCons (wC (.dat (.int 2))) wNil))) (wCons (wCall W_thing_of Ex (wCons (wName 8) (wCons (wC (.dat (.int 2))) wNil))) (wCons (wCall W_thing_of Ex (wCons (wFrz (w2 sIxA (wNameB 3) (wDat (wFrz (w2 sIxA (wDat (wFrz (w2 sIxA (wNameB 2) (wNameB 7)))) (wNameB 8)))))) (wCons (wC (.dat (.int 0))) wNil))) wNil))))) wNext)))
def W_five_in : WF := wDef 11 1 fun Ex => (wSeq (wIfS (wBool (w2 sEq (wNameB 0) (wDat (wC (.dat (.int 5)))))) (wRet (wTup (wCons (wTup (wCons (wC (.dat (.int 0))) (wCons (wC (.dat (.int 1))) (wCons (wC (.dat (.int 2))) (wCons (wC (.dat (.int 3))) (wCons (wC (.dat (.int 4))) wNil)))))) (wCons (wTup wNil) wNil)))) wNext) (wSeq (wSet 1 (wFrz (w2 sFdiv (wNameB 0) (wDat (wC (.dat (.int 6))))))) (wSeq (wAsg (wTup (wCons (wCall W_still_across Ex (wCons (wFrz (w2 sAdd (wDat (wFrz (w2 sMul (wDat (wC (.dat (.int 2)))) (wNameB 1)))) (wDat (wC (.dat (.int 1)))))) wNil)) (wCons (wCall W_nexts Ex (wCons (wName 1) wNil)) (wCons (wFrz (w2 sSub (wNameB 0) (wDat (wC (.dat (.int 2)))))) (wCons (wFrz (w2 sSub (wNameB 0) (wDat (wC (.dat (.int 1)))))) wNil))))) (gTupV 4 (gsCons (gSet 2) (gsCons (gSet 3) (gsCons (gSet 4) (gsCons (gSet 5) gsNil)))))) (wSeq (wSetZ 6 (wLst wNil)) (wSeq (wFor (wItemsA (wCall W_all_pairs Ex (wCons (wFrz (w2 sAdd (wDat (wFrz (w2 sMul (wDat (wC (.dat (.int 2)))) (wNameB 1)))) (wDat (wC (.dat (.int 1)))))) wNil))) (gTupV 2 (gsCons (gSet 7) (gsCons (gSet 8) gsNil))) (B_five_in_0 Ex)) (wSeq (wFor (wRange3 (wCons (wDat (wC (.dat (.int 1)))) (wCons (wDat (wFrz (w2 sMul (wDat (wC (.dat (.int 2)))) (wNameB 1)))) (wCons (wDat (wC (.dat (.int 2)))) wNil)))) (gSet 7) (B_five_in_1 Ex)) (wRet (wTup (wCons (wTup (wCons (wC (.dat (.int 0))) (wCons (wC (.dat (.int 1))) (wCons (wC (.dat (.int 2))) (wCons (wName 4) (wCons (wName 5) wNil)))))) (wCons (wCall W_threes_in Ex (wCons (wName 6) wNil)) wNil))))))))))
theorem c_five_in (D : DefAt K mg "five_in" s_five_in) (T : Top K mg) (c_all_pairs : CallOk P w K mg base 1 "all_pairs" ["n"] W_all_pairs) (c_nexts : CallOk P w K mg base 1 "nexts" ["t"] W_nexts) (c_still_across : CallOk P w K mg base 4 "still_across" ["n"] W_still_across) (c_thing_of : CallOk P w K mg base 1 "thing_of" ["x", "i"] W_thing_of) (c_threes_in : CallOk P w K mg base 1 "threes_in" ["lots"] W_threes_in) : CallOk P w K mg base 5 "five_in" ["n"] W_five_in := by
  exact call_of (k := 4) D S_five_in (fun _ _ _ _ _ _ us hl => match us, hl with | [_], _ => rfl) fun f cdv A outer s H E G Ex room tk =>
    (ass_cons (as_if (at_cmp (o_eq room.u64) p_eq (ab_name 0) (AE.ab ae_int)) (ass_one (as_ret (ae_tup (aa_cons (ae_tup (aa_cons ae_int (aa_cons ae_int (aa_cons ae_int (aa_cons ae_int (aa_cons ae_int aa_nil)))))) (aa_cons (ae_tup aa_nil) aa_nil))))) ass_nil) (ass_cons (as_set 1 S_five_in.nd (AZ.ae (az_bin op_fdivN p_fdiv (ab_name 0) (AE.ab ae_int)))) (ass_cons (as_asg (ae_tup (aa_cons (ae_callC c_still_across room tk (aa_cons (AZ.ae (az_bin o_add p_add (AE.ab (AZ.ae (az_bin o_mul p_mul (AE.ab ae_int) (ab_name 1)))) (AE.ab ae_int))) aa_nil)) (aa_cons (ae_callC c_nexts room tk (aa_cons (ae_name 1) aa_nil)) (aa_cons (AZ.ae (az_bin op_sub p_sub (ab_name 0) (AE.ab ae_int))) (aa_cons (AZ.ae (az_bin op_sub p_sub (ab_name 0) (AE.ab ae_int))) aa_nil))))) (ag_tup (ags_cons (ag_name 2 S_five_in.nd) (ags_cons (ag_name 3 S_five_in.nd) (ags_cons (ag_name 4 S_five_in.nd) (ags_cons (ag_name 5 S_five_in.nd) ags_nil)))))) (ass_cons (as_setZ 6 S_five_in.nd (az_lst aa_nil)) (ass_cons (as_for (passes_of rfl) (ai_all (ae_callC c_all_pairs room tk (aa_cons (AZ.ae (az_bin o_add p_add (AE.ab (AZ.ae (az_bin o_mul p_mul (AE.ab ae_int) (ab_name 1)))) (AE.ab ae_int))) aa_nil))) (fun _ => (ag_tup (ags_cons (ag_name 7 S_five_in.nd) (ags_cons (ag_name 8 S_five_in.nd) ags_nil)))) (fun _ => (ass_cons (as_append 6 (ae_tup (aa_cons (ae_callC c_thing_of room tk (aa_cons (ae_name 7) (aa_cons ae_int aa_nil))) (aa_cons (ae_callC c_thing_of room tk (aa_cons (ae_name 8) (aa_cons ae_int aa_nil))) (aa_cons (ae_callC c_thing_of room tk (aa_cons (AZ.ae (az_ixA room.u1 (AE.ab (AZ.ae (az_ixA room.u1 (ab_name 2) (ab_name 7)))) (ab_name 8))) (aa_cons ae_int aa_nil))) aa_nil))))) (ass_cons (as_append 6 (ae_tup (aa_cons (ae_callC c_thing_of room tk (aa_cons (ae_name 7) (aa_cons ae_int aa_nil))) (aa_cons (ae_callC c_thing_of room tk (aa_cons (ae_name 8) (aa_cons ae_int aa_nil))) (aa_cons (ae_callC c_thing_of room tk (aa_cons (AZ.ae (az_ixA room.u1 (AE.ab (AZ.ae (az_ixA room.u1 (ab_name 2) (ab_name 7)))) (ab_name 8))) (aa_cons ae_int aa_nil))) aa_nil))))) (ass_cons (as_append 6 (ae_tup (aa_cons (ae_callC c_thing_of room tk (aa_cons (ae_name 7) (aa_cons ae_int aa_nil))) (aa_cons (ae_callC c_thing_of room tk (aa_cons (ae_name 8) (aa_cons ae_int aa_nil))) (aa_cons (ae_callC c_thing_of room tk (aa_cons (AZ.ae (az_ixA room.u1 (ab_name 3) (AE.ab (AZ.ae (az_ixA room.u1 (AE.ab (AZ.ae (az_ixA room.u1 (ab_name 2) (ab_name 7)))) (ab_name 8)))))) (aa_cons ae_int aa_nil))) aa_nil))))) ass_nil))))) (ass_cons (as_for (passes_of rfl) (ai_range3 T.n_range (ab_cons (AE.ab ae_int) (ab_cons (AE.ab (AZ.ae (az_bin o_mul p_mul (AE.ab ae_int) (ab_name 1)))) (ab_cons (AE.ab ae_int) ab_nil)))) (fun _ => (ag_name 7 S_five_in.nd)) (fun _ => (ass_cons (as_par 9 10 S_five_in.nd (AE.az (AZ.ae (az_ixA room.u1 (ab_name 3) (ab_name 7)))) (AE.az (AZ.ae (az_meth PySem.F.plainAttrs_list PySem.F.slot_list_index PySem.F.type_list_index mt_index p_indexI (ab_name 3) (ab_cons (ab_name 7) ab_nil))))) (ass_cons (as_extend 6 (AE.ab (AZ.ae (az_lst (aa_cons (ae_tup (aa_cons (ae_name 4) (aa_cons (ae_callC c_thing_of room tk (aa_cons (ae_name 7) (aa_cons ae_int aa_nil))) (aa_cons (ae_callC c_thing_of room tk (aa_cons (ae_name 7) (aa_cons ae_int aa_nil))) aa_nil)))) (aa_cons (ae_tup (aa_cons (ae_name 4) (aa_cons (ae_callC c_thing_of room tk (aa_cons (ae_name 7) (aa_cons ae_int aa_nil))) (aa_cons (ae_callC c_thing_of room tk (aa_cons (ae_name 9) (aa_cons ae_int aa_nil))) aa_nil)))) aa_nil)))))) (ass_cons (as_extend 6 (AE.ab (AZ.ae (az_lst (aa_cons (ae_tup (aa_cons (ae_name 4) (aa_cons (ae_callC c_thing_of room tk (aa_cons (ae_name 9) (aa_cons ae_int aa_nil))) (aa_cons (ae_callC c_thing_of room tk (aa_cons (ae_name 9) (aa_cons ae_int aa_nil))) aa_nil)))) (aa_cons (ae_tup (aa_cons (ae_name 5) (aa_cons (ae_callC c_thing_of room tk (aa_cons (ae_name 7) (aa_cons ae_int aa_nil))) (aa_cons (ae_callC c_thing_of room tk (aa_cons (ae_name 7) (aa_cons ae_int aa_nil))) aa_nil)))) aa_nil)))))) (ass_cons (as_extend 6 (AE.ab (AZ.ae (az_lst (aa_cons (ae_tup (aa_cons (ae_name 5) (aa_cons (ae_callC c_thing_of room tk (aa_cons (ae_name 9) (aa_cons ae_int aa_nil))) (aa_cons (ae_callC c_thing_of room tk (aa_cons (ae_name 9) (aa_cons ae_int aa_nil))) aa_nil)))) (aa_cons (ae_tup (aa_cons (ae_name 5) (aa_cons (ae_callC c_thing_of room tk (aa_cons (ae_name 7) (aa_cons ae_int aa_nil))) (aa_cons (ae_callC c_thing_of room tk (aa_cons (ae_name 10) (aa_cons ae_int aa_nil))) aa_nil)))) aa_nil)))))) ass_nil)))))) (ass_one (as_ret (ae_tup (aa_cons (ae_tup (aa_cons ae_int (aa_cons ae_int (aa_cons ae_int (aa_cons (ae_name 4) (aa_cons (ae_name 5) aa_nil)))))) (aa_cons (ae_callC c_threes_in room tk (aa_cons (ae_name 6) aa_nil)) aa_nil)))))))))))
def W_most_in : WF := wDef 6 1 fun Ex => (wSeq (wSet 1 (wFrz (w2 sMod (wNameB 0) (wDat (wC (.dat (.int 6))))))) (wSeq (wIfS (wBool (w2 sInA (wNameB 1) (wDat (wTup (wCons (wC (.dat (.int 1))) (wCons (wC (.dat (.int 3))) wNil)))))) (wRet (wCall W_once_in Ex (wCons (wName 0) wNil))) wNext) (wSeq (wIfS (wBool (w2 sInA (wNameB 1) (wDat (wTup (wCons (wC (.dat (.int 0))) (wCons (wC (.dat (.int 2))) wNil)))))) (wRet (wFrz (wN sTuple (wCons (wDat (wFrz (wComp [2] (wItemsA (wCall W_once_in Ex (wCons (wFrz (w2 sAdd (wNameB 0) (wDat (wC (.dat (.int 1)))))) wNil))) (gSet 2) (wBool (w2 sNotInA (wNameB 0) (wNameB 2))) (wName 2)))) wNil)))) wNext) (wSeq (wAsg (wCall W_five_in Ex (wCons (wIf (wBool (w2 sEq (wNameB 1) (wDat (wC (.dat (.int 5)))))) (wName 0) (wFrz (w2 sAdd (wNameB 0) (wDat (wC (.dat (.int 1))))))) wNil)) (gTupV 2 (gsCons (gSet 3) (gsCons (gSet 4) gsNil)))) (wSeq (wIfS (wBool (w2 sEq (wNameB 1) (wDat (wC (.dat (.int 5)))))) (wRet (wCall W_threes_in Ex (wCons (wFrz (w2 sAdd (wNameB 4) (wDat (wTup (wCons (wTup (wCons (wFrz (w2 sIxA (wNameB 3) (wDat (wC (.dat (.int 0)))))) (wCons (wFrz (w2 sIxA (wNameB 3) (wDat (wC (.dat (.int 1)))))) (wCons (wFrz (w2 sIxA (wNameB 3) (wDat (wC (.dat (.int 2)))))) wNil)))) (wCons (wTup (wCons (wFrz (w2 sIxA (wNameB 3) (wDat (wC (.dat (.int 0)))))) (wCons (wFrz (w2 sIxA (wNameB 3) (wDat (wC (.dat (.int 3)))))) (wCons (wFrz (w2 sIxA (wNameB 3) (wDat (wC (.dat (.int 4)))))) wNil)))) wNil)))))) wNil))) wNext) (wSeq (wSetZ 5 (wComp [2] (wItemsA (wName 4)) (gSet 2) (wBool (w2 sNotInA (wNameB 0) (wNameB 2))) (wName 2))) (wGive 5 (wRet (wCall W_threes_in Ex (wCons (wFrz (w2 sAdd (wNameB 5) (wDat (wFrz (wLst (wCons (wFrz (wSl (wNameB 3) wNoPart (wPart (wDat (wC (.dat (.int 3))))))) wNil)))))) wNil))))))))))
theorem c_most_in (D : DefAt K mg "most_in" s_most_in) (T : Top K mg) (c_five_in : CallOk P w K mg base 5 "five_in" ["n"] W_five_in) (c_once_in : CallOk P w K mg base 5 "once_in" ["n"] W_once_in) (c_threes_in : CallOk P w K mg base 1 "threes_in" ["lots"] W_threes_in) : CallOk P w K mg base 6 "most_in" ["n"] W_most_in := by
  exact call_of (k := 5) D S_most_in (fun _ _ _ _ _ _ us hl => match us, hl with | [_], _ => rfl) fun f cdv A outer s H E G Ex room tk =>
    (ass_cons (as_set 1 S_most_in.nd (AZ.ae (az_bin op_modN p_mod (ab_name 0) (AE.ab ae_int)))) (ass_cons (as_if (at_cmp (o_in room.u65) p_inA (ab_name 1) (AE.ab (ae_tup (aa_cons ae_int (aa_cons ae_int aa_nil))))) (ass_one (as_ret (ae_callC c_once_in room tk (aa_cons (ae_name 0) aa_nil)))) ass_nil) (ass_cons (as_if (at_cmp (o_in room.u65) p_inA (ab_name 1) (AE.ab (ae_tup (aa_cons ae_int (aa_cons ae_int aa_nil))))) (ass_one (as_ret (AZ.ae (az_callTy call_tuple_of p_tuple (by rfl) T.n_tuple boot_tuple (ab_cons (AE.ab (AZ.ae (az_comp [("three", 2)] S_most_in.nd (ai_all (ae_callC c_once_in room tk (aa_cons (AZ.ae (az_bin o_add p_add (ab_name 0) (AE.ab ae_int))) aa_nil))) (blkOk_by (N := N_most_in) (sc := defScope s_most_in) (by decide +kernel)) (fun _ _ _ _ _ _ => (ag_name 2 S_most_in.nd)) (fun _ _ _ _ _ _ => (ats_one (at_cmp (o_notIn room.u65) p_notInA (ab_name 0) (ab_name 2)))) (fun _ _ _ _ _ _ => (ae_name 2))))) ab_nil))))) ass_nil) (ass_cons (as_asg (ae_callC c_five_in room tk (aa_cons (ae_if (at_cmp (o_eq room.u64) p_eq (ab_name 1) (AE.ab ae_int)) (ae_name 0) (AZ.ae (az_bin o_add p_add (ab_name 0) (AE.ab ae_int)))) aa_nil)) (ag_tup (ags_cons (ag_name 3 S_most_in.nd) (ags_cons (ag_name 4 S_most_in.nd) ags_nil)))) (ass_cons (as_if (at_cmp (o_eq room.u64) p_eq (ab_name 1) (AE.ab ae_int)) (ass_one (as_ret (ae_callC c_threes_in room tk (aa_cons (AZ.ae (az_bin o_add p_add (ab_name 4) (AE.ab (ae_tup (aa_cons (ae_tup (aa_cons (AZ.ae (az_ixA room.u1 (ab_name 3) (AE.ab ae_int))) (aa_cons (AZ.ae (az_ixA room.u1 (ab_name 3) (AE.ab ae_int))) (aa_cons (AZ.ae (az_ixA room.u1 (ab_name 3) (AE.ab ae_int))) aa_nil)))) (aa_cons (ae_tup (aa_cons (AZ.ae (az_ixA room.u1 (ab_name 3) (AE.ab ae_int))) (aa_cons (AZ.ae (az_ixA room.u1 (ab_name 3) (AE.ab ae_int))) (aa_cons (AZ.ae (az_ixA room.u1 (ab_name 3) (AE.ab ae_int))) aa_nil)))) aa_nil)))))) aa_nil)))) ass_nil) (ass_cons (as_setLc 5 [("three", 2)] S_most_in.nd (ai_all (ae_name 4)) (blkOk_by (N := N_most_in) (sc := defScope s_most_in) (by decide +kernel)) (fun _ _ _ _ _ _ => (ag_name 2 S_most_in.nd)) (fun _ _ _ _ _ _ => (ats_one (at_cmp (o_notIn room.u65) p_notInA (ab_name 0) (ab_name 2)))) (fun _ _ _ _ _ _ => (ae_name 2))) (ass_give 5 (ass_one (as_ret (ae_callC c_threes_in room tk (aa_cons (AZ.ae (az_bin o_add p_add (ab_name 5) (AE.ab (AZ.ae (az_lst (aa_cons (AZ.ae (az_slice (ab_name 3) ao_none (ao_some (AE.ab ae_int)))) aa_nil)))))) aa_nil)))))))))))
def W_most_threes : WF := wDef 1 1 fun Ex => (wSeq (wDrop (wCall W_need_count Ex (wCons (wC (.dat (.str "things"))) (wCons (wName 0) wNil)))) (wRet (wCall W_most_in Ex (wCons (wName 0) wNil))))
theorem c_most_threes (D : DefAt K mg "most_threes" s_most_threes) (T : Top K mg) (c_most_in : CallOk P w K mg base 6 "most_in" ["n"] W_most_in) (c_need_count : CallOk P w K mg base 3 "need_count" ["what", "value"] W_need_count) : CallOk P w K mg base 7 "most_threes" ["n"] W_most_threes := by
  exact call_of (k := 6) D S_most_threes (fun _ _ _ _ _ _ us hl => match us, hl with | [_], _ => rfl) fun f cdv A outer s H E G Ex room tk =>
    (ass_cons (as_expr (ae_callC c_need_count room tk (aa_cons ae_str (aa_cons (ae_name 0) aa_nil)))) (ass_one (as_ret (ae_callC c_most_in room tk (aa_cons (ae_name 0) aa_nil)))))
def W__law_is_thing : WF := wDef 2 2 fun Ex => (wRet (wAndV (wIsi .int (wNameB 1)) (wAndV (wNotV (wIsi .bool (wNameB 1))) (wFrz (wChain sLeA sLtA (wDat (wC (.dat (.int 0)))) (wNameB 1) (wNameB 0))))))
theorem c__law_is_thing (D : DefAt K mg "_law_is_thing" s__law_is_thing) (T : Top K mg)  : CallOk P w K mg base 1 "_law_is_thing" ["n", "value"] W__law_is_thing := by
  exact call_of (k := 0) D S__law_is_thing (fun _ _ _ _ _ _ us hl => match us, hl with | [_, _], _ => rfl) fun f cdv A outer s H E G Ex room tk =>
    (ass_one (as_ret (ae_and (ae_isi .int (ab_name 1) T.n_isinstance T.n_int) (ae_and (ae_not (ae_isi .bool (ab_name 1) T.n_isinstance T.n_bool)) (ae_one (AZ.ae (az_chain (o_le room.u64) p_leA (o_lt room.u64) p_ltA (AE.ab ae_int) (ab_name 1) (ab_name 0))))))))
def B__law_are_threes_0 (Ex : Exc → Ga → Prop) : WS := (wSeq (wIfS (wOrT (wNotT (wBool (wZ (wIsi .tuple (wNameB 2))))) (wBool (w2 sNe (wDat (wFrz (wN sLenQ (wCons (wNameB 2) wNil)))) (wDat (wC (.dat (.int 3))))))) (wRet (wC (.dat (.bool false)))) wNext) (wSeq (wIfS (wBool (w2 sNe (wDat (wFrz (wComp [3] (wItemsA (wName 2)) (gSet 3) (wNotT (wBool (wZ (wCall W__law_is_thing Ex0 (wCons (wName 0) (wCons (wName 3) wNil)))))) (wName 3)))) (wDat (wFrz (wLst wNil))))) (wRet (wC (.dat (.bool false)))) wNext) (wSeq (wIfS (wNotT (wBool (wChain sLtA sLtA (wDat (wFrz (w2 sIxA (wNameB 2) (wDat (wC (.dat (.int 0))))))) (wDat (wFrz (w2 sIxA (wNameB 2) (wDat (wC (.dat (.int 1))))))) (wDat (wFrz (w2 sIxA (wNameB 2) (wDat (wC (.dat (.int 2)))))))))) (wRet (wC (.dat (.bool false)))) wNext) wNext)))
def W__law_are_threes : WF := wDef 5 2 fun Ex => (wSeq (wIfS (wNotT (wBool (wZ (wIsi .tuple (wNameB 1))))) (wRet (wC (.dat (.bool false)))) wNext) (wSeq (wFor (wItemsA (wName 1)) (gSet 2) (B__law_are_threes_0 Ex)) (wRet (wFrz (w2 sEq (wDat (wFrz (wComp [4] (wRange2 (wCons (wDat (wC (.dat (.int 1)))) (wCons (wDat (wFrz (wN sLenQ (wCons (wNameB 1) wNil)))) wNil))) (gSet 4) (wBool (w2 sGtA (wDat (wFrz (w2 sIxA (wNameB 1) (wDat (wFrz (w2 sSub (wNameB 4) (wDat (wC (.dat (.int 1)))))))))) (wDat (wFrz (w2 sIxA (wNameB 1) (wNameB 4)))))) (wName 4)))) (wDat (wFrz (wLst wNil))))))))
theorem c__law_are_threes (D : DefAt K mg "_law_are_threes" s__law_are_threes) (T : Top K mg) (c__law_is_thing : CallOk P w K mg base 1 "_law_is_thing" ["n", "value"] W__law_is_thing) : CallOk P w K mg base 2 "_law_are_threes" ["n", "value"] W__law_are_threes := by
  exact call_of (k := 1) D S__law_are_threes (fun _ _ _ _ _ _ us hl => match us, hl with | [_, _], _ => rfl) fun f cdv A outer s H E G Ex room tk =>
    (ass_cons (as_if (at_not (AZ.at (AE.az (ae_isi .tuple (ab_name 1) T.n_isinstance T.n_tuple)))) (ass_one (as_ret ae_bl)) ass_nil) (ass_cons (as_for (passes_of rfl) (ai_all (ae_name 1)) (fun _ => (ag_name 2 S__law_are_threes.nd)) (fun _ => (ass_cons (as_if (AW.at (aw_or (at_not (AZ.at (AE.az (ae_isi .tuple (ab_name 2) T.n_isinstance T.n_tuple)))) (aw_or1 (at_cmp (o_ne room.u64) p_ne (AE.ab (AZ.ae (az_callB c_lenA p_lenQ (by rfl) T.n_len boot_len (ab_cons (ab_name 2) ab_nil)))) (AE.ab ae_int))))) (ass_one (as_ret ae_bl)) ass_nil) (ass_cons (as_if (at_cmp (o_ne room.u64) p_ne (AE.ab (AZ.ae (az_comp [("thing", 3)] S__law_are_threes.nd (ai_all (ae_name 2)) (blkOk_by (N := N__law_are_threes) (sc := defScope s__law_are_threes) (by decide +kernel)) (fun _ _ _ _ _ _ => (ag_name 3 S__law_are_threes.nd)) (fun _ _ _ _ _ _ => (ats_one (at_not (AZ.at (AE.az (ae_callC c__law_is_thing room tk0 (aa_cons (ae_name 0) (aa_cons (ae_name 3) aa_nil)))))))) (fun _ _ _ _ _ _ => (ae_name 3))))) (AE.ab (AZ.ae (az_lst aa_nil)))) (ass_one (as_ret ae_bl)) ass_nil) (ass_cons (as_if (at_not (at_chain (o_lt room.u64) p_ltA (o_lt room.u64) p_ltA (AE.ab (AZ.ae (az_ixA room.u1 (ab_name 2) (AE.ab ae_int)))) (AE.ab (AZ.ae (az_ixA room.u1 (ab_name 2) (AE.ab ae_int)))) (AE.ab (AZ.ae (az_ixA room.u1 (ab_name 2) (AE.ab ae_int)))))) (ass_one (as_ret ae_bl)) ass_nil) ass_nil))))) (ass_one (as_ret (AZ.ae (az_cmp (o_eq room.u64) p_eq (AE.ab (AZ.ae (az_comp [("k", 4)] S__law_are_threes.nd (ai_range2 T.n_range (ab_cons (AE.ab ae_int) (ab_cons (AE.ab (AZ.ae (az_callB c_lenA p_lenQ (by rfl) T.n_len boot_len (ab_cons (ab_name 1) ab_nil)))) ab_nil))) (blkOk_by (N := N__law_are_threes) (sc := defScope s__law_are_threes) (by decide +kernel)) (fun _ _ _ _ _ _ => (ag_name 4 S__law_are_threes.nd)) (fun _ _ _ _ _ _ => (ats_one (at_cmp (o_gt room.u64) p_gtA (AE.ab (AZ.ae (az_ixA room.u1 (ab_name 1) (AE.ab (AZ.ae (az_bin op_sub p_sub (ab_name 4) (AE.ab ae_int))))))) (AE.ab (AZ.ae (az_ixA room.u1 (ab_name 1) (ab_name 4))))))) (fun _ _ _ _ _ _ => (ae_name 4))))) (AE.ab (AZ.ae (az_lst aa_nil)))))))))
def B__law_pairs_0 (Ex : Exc → Ga → Prop) : WS := (wSeq (wSet 1 (wFrz (w2 sAdd (wNameB 1) (wDat (wFrz (wComp [3] (wRange2 (wCons (wDat (wFrz (w2 sAdd (wNameB 2) (wDat (wC (.dat (.int 1))))))) (wCons (wNameB 0) wNil))) (gSet 3) wYes (wTup (wCons (wName 2) (wCons (wName 3) wNil))))))))) wNext)
def W__law_pairs : WF := wDef 4 1 fun Ex => (wSeq (wSet 1 (wFrz (wLst wNil))) (wSeq (wFor (wRange1 (wCons (wNameB 0) wNil)) (gSet 2) (B__law_pairs_0 Ex)) (wRet (wName 1))))
theorem c__law_pairs (D : DefAt K mg "_law_pairs" s__law_pairs) (T : Top K mg)  : CallOk P w K mg base 1 "_law_pairs" ["n"] W__law_pairs := by
  exact call_of (k := 0) D S__law_pairs (fun _ _ _ _ _ _ us hl => match us, hl with | [_], _ => rfl) fun f cdv A outer s H E G Ex room tk =>
    (ass_cons (as_set 1 S__law_pairs.nd (AZ.ae (az_lst aa_nil))) (ass_cons (as_for (passes_of rfl) (ai_range1 T.n_range (ab_cons (ab_name 0) ab_nil)) (fun _ => (ag_name 2 S__law_pairs.nd)) (fun _ => (ass_cons (as_set 1 S__law_pairs.nd (AZ.ae (az_bin o_add p_add (ab_name 1) (AE.ab (AZ.ae (az_comp [("j", 3)] S__law_pairs.nd (ai_range2 T.n_range (ab_cons (AE.ab (AZ.ae (az_bin o_add p_add (ab_name 2) (AE.ab ae_int)))) (ab_cons (ab_name 0) ab_nil))) (blkOk_by (N := N__law_pairs) (sc := defScope s__law_pairs) (by decide +kernel)) (fun _ _ _ _ _ _ => (ag_name 3 S__law_pairs.nd)) (fun _ _ _ _ _ _ => ats_nil) (fun _ _ _ _ _ _ => (ae_tup (aa_cons (ae_name 2) (aa_cons (ae_name 3) aa_nil)))))))))) ass_nil))) (ass_one (as_ret (ae_name 1)))))
def B__law_held_1 (Ex : Exc → Ga → Prop) : WS := (wSeq (wSub 2 (wFrz (w2 sAdd (wDat (wFrz (w2 sIxA (wNameB 2) (wNameB 3)))) (wDat (wC (.dat (.int 1)))))) (wNameB 3)) wNext)
def B__law_held_0 (Ex : Exc → Ga → Prop) : WS := (wSeq (wFor (wItemsA (wFrz (wLst (wCons (wTup (wCons (wName 4) (wCons (wName 5) wNil))) (wCons (wTup (wCons (wName 4) (wCons (wName 6) wNil))) (wCons (wTup (wCons (wName 5) (wCons (wName 6) wNil))) wNil)))))) (gSet 3) (B__law_held_1 Ex)) wNext)
def W__law_held : WF := wDef 7 2 fun Ex => (wSeq (wSetZ 2 (wN sDictT (wCons (wDat (wFrz (wComp [3] (wItemsA (wCall W__law_pairs Ex (wCons (wName 0) wNil))) (gSet 3) wYes (wTup (wCons (wName 3) (wCons (wC (.dat (.int 0))) wNil)))))) wNil))) (wSeq (wFor (wItemsA (wName 1)) (gTupV 3 (gsCons (gSet 4) (gsCons (gSet 5) (gsCons (gSet 6) gsNil)))) (B__law_held_0 Ex)) (wGive 2 (wRet (wName 2)))))
theorem c__law_held (D : DefAt K mg "_law_held" s__law_held) (T : Top K mg) (c__law_pairs : CallOk P w K mg base 1 "_law_pairs" ["n"] W__law_pairs) : CallOk P w K mg base 2 "_law_held" ["n", "threes"] W__law_held := by
  exact call_of (k := 1) D S__law_held (fun _ _ _ _ _ _ us hl => match us, hl with | [_, _], _ => rfl) fun f cdv A outer s H E G Ex room tk =>
    (ass_cons (as_setZ 2 S__law_held.nd (az_callTy (call_dictX room.u2 rfl) p_dictT (by rfl) T.n_dict boot_dict (ab_cons (AE.ab (AZ.ae (az_comp [("pair", 3)] S__law_held.nd (ai_all (ae_callC c__law_pairs room tk (aa_cons (ae_name 0) aa_nil))) (blkOk_by (N := N__law_held) (sc := defScope s__law_held) (by decide +kernel)) (fun _ _ _ _ _ _ => (ag_name 3 S__law_held.nd)) (fun _ _ _ _ _ _ => ats_nil) (fun _ _ _ _ _ _ => (ae_tup (aa_cons (ae_name 3) (aa_cons ae_int aa_nil))))))) ab_nil))) (ass_cons (as_for (passes_of rfl) (ai_all (ae_name 1)) (fun _ => (ag_tup (ags_cons (ag_name 4 S__law_held.nd) (ags_cons (ag_name 5 S__law_held.nd) (ags_cons (ag_name 6 S__law_held.nd) ags_nil))))) (fun _ => (ass_cons (as_for (passes_of rfl) (ai_all (AZ.ae (az_lst (aa_cons (ae_tup (aa_cons (ae_name 4) (aa_cons (ae_name 5) aa_nil))) (aa_cons (ae_tup (aa_cons (ae_name 4) (aa_cons (ae_name 6) aa_nil))) (aa_cons (ae_tup (aa_cons (ae_name 5) (aa_cons (ae_name 6) aa_nil))) aa_nil)))))) (fun _ => (ag_name 3 S__law_held.nd)) (fun _ => (ass_cons (as_sub 2 room.u1 (AZ.ae (az_bin o_add p_add (AE.ab (AZ.ae (az_ixA room.u1 (ab_name 2) (ab_name 3)))) (AE.ab ae_int))) (ab_name 3)) ass_nil))) ass_nil))) (ass_give 2 (ass_one (as_ret (ae_name 2))))))
def W__law_shape : WF := wDef 6 2 fun Ex => (wSeq (wSetZ 2 (wComp [4] (wRange1 (wCons (wNameB 0) wNil)) (gSet 4) wYes (wFrz (wN sLenQ (wCons (wDat (wFrz (wComp [3] (wItemsA (wName 1)) (gSet 3) (wBool (w2 sInA (wNameB 4) (wNameB 3))) (wName 3)))) wNil))))) (wGive 2 (wSeq (wIfS (wBool (w2 sEq (wDat (wFrz (wN sLenQ (wCons (wNameB 1) wNil)))) (wDat (wC (.dat (.int 0)))))) (wRet (wC (.dat (.str "none")))) wNext) (wSeq (wIfS (wBool (w2 sEq (wDat (wFrz (wComp [5] (wItemsA (wName 2)) (gSet 5) (wBool (w2 sNe (wNameB 5) (wDat (wC (.dat (.int 1)))))) (wName 5)))) (wDat (wFrz (wLst wNil))))) (wRet (wC (.dat (.str "pairs")))) wNext) (wSeq (wIfS (wAndT (wBool (w2 sEq (wDat (wFrz (wM "list" sCountI (wNameB 2) (wCons (wDat (wC (.dat (.int 3)))) wNil)))) (wDat (wC (.dat (.int 1)))))) (wBool (w2 sEq (wDat (wFrz (wM "list" sCountI (wNameB 2) (wCons (wDat (wC (.dat (.int 1)))) wNil)))) (wDat (wFrz (w2 sSub (wNameB 0) (wDat (wC (.dat (.int 1)))))))))) (wRet (wC (.dat (.str "star")))) wNext) (wSeq (wIfS (wAndT (wBool (w2 sEq (wDat (wFrz (wN sLenQ (wCons (wNameB 1) wNil)))) (wDat (wC (.dat (.int 4)))))) (wAndT (wBool (w2 sEq (wDat (wFrz (wN sLenQ (wCons (wDat (wFrz (wN sDictT (wCons (wDat (wFrz (wComp [3] (wItemsA (wName 1)) (gSet 3) wYes (wTup (wCons (wName 3) (wCons (wC (.dat (.bool true))) wNil)))))) wNil)))) wNil)))) (wDat (wC (.dat (.int 4)))))) (wBool (w2 sEq (wDat (wFrz (wM "list" sCountI (wNameB 2) (wCons (wDat (wC (.dat (.int 2)))) wNil)))) (wDat (wC (.dat (.int 4)))))))) (wRet (wC (.dat (.str "ring")))) wNext) (wRet (wIf (wAndT (wBool (w2 sEq (wDat (wFrz (wN sLenQ (wCons (wNameB 1) wNil)))) (wDat (wC (.dat (.int 2)))))) (wBool (w2 sEq (wDat (wFrz (w2 sIxA (wNameB 1) (wDat (wC (.dat (.int 0))))))) (wDat (wFrz (w2 sIxA (wNameB 1) (wDat (wC (.dat (.int 1)))))))))) (wC (.dat (.str "twice"))) (wC (.dat (.str "other")))))))))))
theorem c__law_shape (D : DefAt K mg "_law_shape" s__law_shape) (T : Top K mg)  : CallOk P w K mg base 1 "_law_shape" ["n", "pairs"] W__law_shape := by
  exact call_of (k := 0) D S__law_shape (fun _ _ _ _ _ _ us hl => match us, hl with | [_, _], _ => rfl) fun f cdv A outer s H E G Ex room tk =>
    (ass_cons (as_setLc 2 [("thing", 4)] S__law_shape.nd (ai_range1 T.n_range (ab_cons (ab_name 0) ab_nil)) (blkOk_by (N := N__law_shape) (sc := defScope s__law_shape) (by decide +kernel)) (fun _ _ _ _ _ _ => (ag_name 4 S__law_shape.nd)) (fun _ _ _ _ _ _ => ats_nil) (fun _ _ _ _ _ _ => (AZ.ae (az_callB c_lenA p_lenQ (by rfl) T.n_len boot_len (ab_cons (AE.ab (AZ.ae (az_comp [("pair", 3)] S__law_shape.nd (ai_all (ae_name 1)) (blkOk_by (by kernel_rfl)) (fun _ _ _ _ _ _ => (ag_name 3 S__law_shape.nd)) (fun _ _ _ _ _ _ => (ats_one (at_cmp (o_in room.u65) p_inA (ab_name 4) (ab_name 3)))) (fun _ _ _ _ _ _ => (ae_name 3))))) ab_nil))))) (ass_give 2 (ass_cons (as_if (at_cmp (o_eq room.u64) p_eq (AE.ab (AZ.ae (az_callB c_lenA p_lenQ (by rfl) T.n_len boot_len (ab_cons (ab_name 1) ab_nil)))) (AE.ab ae_int)) (ass_one (as_ret ae_str)) ass_nil) (ass_cons (as_if (at_cmp (o_eq room.u64) p_eq (AE.ab (AZ.ae (az_comp [("many", 5)] S__law_shape.nd (ai_all (ae_name 2)) (blkOk_by (N := N__law_shape) (sc := defScope s__law_shape) (by decide +kernel)) (fun _ _ _ _ _ _ => (ag_name 5 S__law_shape.nd)) (fun _ _ _ _ _ _ => (ats_one (at_cmp (o_ne room.u64) p_ne (ab_name 5) (AE.ab ae_int)))) (fun _ _ _ _ _ _ => (ae_name 5))))) (AE.ab (AZ.ae (az_lst aa_nil)))) (ass_one (as_ret ae_str)) ass_nil) (ass_cons (as_if (AW.at (aw_and (at_cmp (o_eq room.u64) p_eq (AE.ab (AZ.ae (az_meth PySem.F.plainAttrs_list PySem.F.slot_list_count PySem.F.type_list_count mt_lcount p_countI (ab_name 2) (ab_cons (AE.ab ae_int) ab_nil)))) (AE.ab ae_int)) (aw_and1 (at_cmp (o_eq room.u64) p_eq (AE.ab (AZ.ae (az_meth PySem.F.plainAttrs_list PySem.F.slot_list_count PySem.F.type_list_count mt_lcount p_countI (ab_name 2) (ab_cons (AE.ab ae_int) ab_nil)))) (AE.ab (AZ.ae (az_bin op_sub p_sub (ab_name 0) (AE.ab ae_int)))))))) (ass_one (as_ret ae_str)) ass_nil) (ass_cons (as_if (AW.at (aw_and (at_cmp (o_eq room.u64) p_eq (AE.ab (AZ.ae (az_callB c_lenA p_lenQ (by rfl) T.n_len boot_len (ab_cons (ab_name 1) ab_nil)))) (AE.ab ae_int)) (aw_and (at_cmp (o_eq room.u64) p_eq (AE.ab (AZ.ae (az_callB c_lenA p_lenQ (by rfl) T.n_len boot_len (ab_cons (AE.ab (AZ.ae (az_callTy (call_dictX room.u2 rfl) p_dictT (by rfl) T.n_dict boot_dict (ab_cons (AE.ab (AZ.ae (az_comp [("pair", 3)] S__law_shape.nd (ai_all (ae_name 1)) (blkOk_by (N := N__law_shape) (sc := defScope s__law_shape) (by decide +kernel)) (fun _ _ _ _ _ _ => (ag_name 3 S__law_shape.nd)) (fun _ _ _ _ _ _ => ats_nil) (fun _ _ _ _ _ _ => (ae_tup (aa_cons (ae_name 3) (aa_cons ae_bl aa_nil))))))) ab_nil)))) ab_nil)))) (AE.ab ae_int)) (aw_and1 (at_cmp (o_eq room.u64) p_eq (AE.ab (AZ.ae (az_meth PySem.F.plainAttrs_list PySem.F.slot_list_count PySem.F.type_list_count mt_lcount p_countI (ab_name 2) (ab_cons (AE.ab ae_int) ab_nil)))) (AE.ab ae_int)))))) (ass_one (as_ret ae_str)) ass_nil) (ass_one (as_ret (ae_if (AW.at (aw_and (at_cmp (o_eq room.u64) p_eq (AE.ab (AZ.ae (az_callB c_lenA p_lenQ (by rfl) T.n_len boot_len (ab_cons (ab_name 1) ab_nil)))) (AE.ab ae_int)) (aw_and1 (at_cmp (o_eq room.u64) p_eq (AE.ab (AZ.ae (az_ixA room.u1 (ab_name 1) (AE.ab ae_int)))) (AE.ab (AZ.ae (az_ixA room.u1 (ab_name 1) (AE.ab ae_int)))))))) ae_str ae_str)))))))))
def W_left_shape : WF := wDef 1 1 fun Ex => (wSeq (wDrop (wCall W_need_count Ex (wCons (wC (.dat (.str "things"))) (wCons (wName 0) wNil)))) (wRet (wIf (wBool (w2 sEq (wNameB 0) (wDat (wC (.dat (.int 0)))))) (wC (.dat (.str "none"))) (wFrz (w2 sIxA (wDat (wC (.dat D_LEFT))) (wDat (wFrz (w2 sMod (wNameB 0) (wDat (wC (.dat (.int 6))))))))))))
theorem c_left_shape (D : DefAt K mg "left_shape" s_left_shape) (T : Top K mg) (c_need_count : CallOk P w K mg base 3 "need_count" ["what", "value"] W_need_count) : CallOk P w K mg base 4 "left_shape" ["n"] W_left_shape := by
  exact call_of (k := 3) D S_left_shape (fun _ _ _ _ _ _ us hl => match us, hl with | [_], _ => rfl) fun f cdv A outer s H E G Ex room tk =>
    (ass_cons (as_expr (ae_callC c_need_count room tk (aa_cons ae_str (aa_cons (ae_name 0) aa_nil)))) (ass_one (as_ret (ae_if (at_cmp (o_eq room.u64) p_eq (ab_name 0) (AE.ab ae_int)) ae_str (AZ.ae (az_ixA room.u1 (AE.ab (ae_glob (v := .ref T.k_LEFT.choose) (by rfl) T.k_LEFT.choose_spec.1 rfl T.k_LEFT.choose_spec.2)) (AE.ab (AZ.ae (az_bin op_modN p_mod (ab_name 0) (AE.ab ae_int))))))))))
def W_is_thing : WF := wDef 2 2 fun Ex => (wRet (wAndV (wCall W_is_count Ex (wCons (wName 1) wNil)) (wFrz (w2 sLtA (wNameB 1) (wNameB 0)))))
theorem c_is_thing (D : DefAt K mg "is_thing" s_is_thing) (T : Top K mg) (c_is_count : CallOk P w K mg base 2 "is_count" ["value"] W_is_count) : CallOk P w K mg base 3 "is_thing" ["n", "value"] W_is_thing := by
  exact call_of (k := 2) D S_is_thing (fun _ _ _ _ _ _ us hl => match us, hl with | [_, _], _ => rfl) fun f cdv A outer s H E G Ex room tk =>
    (ass_one (as_ret (ae_and (ae_callC c_is_count room tk (aa_cons (ae_name 1) aa_nil)) (ae_one (AZ.ae (az_cmp (o_lt room.u64) p_ltA (ab_name 1) (ab_name 0)))))))
def B_need_pairs_0 (Ex : Exc → Ga → Prop) : WS := (wSeq (wIfS (wOrT (wNotT (wBool (wZ (wIsi .tuple (wNameB 2))))) (wOrT (wBool (w2 sNe (wDat (wFrz (wN sLenQ (wCons (wNameB 2) wNil)))) (wDat (wC (.dat (.int 2)))))) (wOrT (wNotT (wBool (wZ (wCall W_is_thing Ex (wCons (wName 0) (wCons (wFrz (w2 sIxA (wNameB 2) (wDat (wC (.dat (.int 0)))))) wNil)))))) (wNotT (wBool (wZ (wCall W_is_thing Ex (wCons (wName 0) (wCons (wFrz (w2 sIxA (wNameB 2) (wDat (wC (.dat (.int 1)))))) wNil))))))))) (wRaise "BadNumber" "what" (some "number") Ex (wCons (wC (.dat (.str "pair"))) (wCons (wName 2) wNil))) wNext) (wSeq (wIfS (wBool (w2 sGeA (wDat (wFrz (w2 sIxA (wNameB 2) (wDat (wC (.dat (.int 0))))))) (wDat (wFrz (w2 sIxA (wNameB 2) (wDat (wC (.dat (.int 1))))))))) (wRaise "BadNumber" "what" (some "number") Ex (wCons (wC (.dat (.str "pair"))) (wCons (wName 2) wNil))) wNext) wNext))
def W_need_pairs : WF := wDef 3 2 fun Ex => (wSeq (wFor (wItemsA (wName 1)) (gSet 2) (B_need_pairs_0 Ex)) wNext)
theorem c_need_pairs (D : DefAt K mg "need_pairs" s_need_pairs) (T : Top K mg) (c_is_thing : CallOk P w K mg base 3 "is_thing" ["n", "value"] W_is_thing) : CallOk P w K mg base 4 "need_pairs" ["n", "pairs"] W_need_pairs := by
  exact call_of (k := 3) D S_need_pairs (fun _ _ _ _ _ _ us hl => match us, hl with | [_, _], _ => rfl) fun f cdv A outer s H E G Ex room tk =>
    (ass_cons (as_for (passes_of rfl) (ai_all (ae_name 1)) (fun _ => (ag_name 2 S_need_pairs.nd)) (fun _ => (ass_cons (as_if (AW.at (aw_or (at_not (AZ.at (AE.az (ae_isi .tuple (ab_name 2) T.n_isinstance T.n_tuple)))) (aw_or (at_cmp (o_ne room.u64) p_ne (AE.ab (AZ.ae (az_callB c_lenA p_lenQ (by rfl) T.n_len boot_len (ab_cons (ab_name 2) ab_nil)))) (AE.ab ae_int)) (aw_or (at_not (AZ.at (AE.az (ae_callC c_is_thing room tk (aa_cons (ae_name 0) (aa_cons (AZ.ae (az_ixA room.u1 (ab_name 2) (AE.ab ae_int))) aa_nil)))))) (aw_or1 (at_not (AZ.at (AE.az (ae_callC c_is_thing room tk (aa_cons (ae_name 0) (aa_cons (AZ.ae (az_ixA room.u1 (ab_name 2) (AE.ab ae_int))) aa_nil))))))))))) (ass_one (as_raiseC T.e_BadNumber room tk (aa_cons ae_str (aa_cons (ae_name 2) aa_nil)))) ass_nil) (ass_cons (as_if (at_cmp (o_ge room.u64) p_geA (AE.ab (AZ.ae (az_ixA room.u1 (ab_name 2) (AE.ab ae_int)))) (AE.ab (AZ.ae (az_ixA room.u1 (ab_name 2) (AE.ab ae_int))))) (ass_one (as_raiseC T.e_BadNumber room tk (aa_cons ae_str (aa_cons (ae_name 2) aa_nil)))) ass_nil) ass_nil)))) ass_nil)
def W_shape_in : WF := wDef 6 2 fun Ex => (wSeq (wSetZ 2 (wComp [4] (wRange1 (wCons (wNameB 0) wNil)) (gSet 4) wYes (wFrz (wN sLenQ (wCons (wDat (wFrz (wComp [3] (wItemsA (wName 1)) (gSet 3) (wBool (w2 sInA (wNameB 4) (wNameB 3))) (wName 3)))) wNil))))) (wGive 2 (wSeq (wIfS (wBool (w2 sEq (wDat (wFrz (wN sLenQ (wCons (wNameB 1) wNil)))) (wDat (wC (.dat (.int 0)))))) (wRet (wC (.dat (.str "none")))) wNext) (wSeq (wIfS (wAndT (wBool (w2 sEq (wDat (wFrz (wN sMinQ (wCons (wNameB 2) wNil)))) (wDat (wC (.dat (.int 1)))))) (wBool (w2 sEq (wDat (wFrz (wN sMaxQ (wCons (wNameB 2) wNil)))) (wDat (wC (.dat (.int 1))))))) (wRet (wC (.dat (.str "pairs")))) wNext) (wSeq (wIfS (wBool (w2 sEq (wDat (wFrz (wN sSortA (wCons (wNameB 2) wNil)))) (wDat (wFrz (w2 sAdd (wDat (wFrz (w2 sMul (wDat (wFrz (wLst (wCons (wC (.dat (.int 1))) wNil)))) (wDat (wFrz (w2 sSub (wNameB 0) (wDat (wC (.dat (.int 1)))))))))) (wDat (wFrz (wLst (wCons (wC (.dat (.int 3))) wNil))))))))) (wRet (wC (.dat (.str "star")))) wNext) (wSeq (wSet 5 (wFrz (wN sLenQ (wCons (wDat (wFrz (wDComp DKt [3] (wItemsA (wName 1)) (gSet 3) wYes (wName 3) (wC (.dat (.bool true)))))) wNil)))) (wSeq (wIfS (wAndT (wBool (w2 sEq (wDat (wFrz (wN sLenQ (wCons (wNameB 1) wNil)))) (wDat (wC (.dat (.int 4)))))) (wAndT (wBool (w2 sEq (wNameB 5) (wDat (wC (.dat (.int 4)))))) (wBool (w2 sInA (wDat (wFrz (wSl (wDat (wFrz (wN sSortA (wCons (wNameB 2) wNil)))) (wPart (wDat (wFrz (w1 sNeg (wDat (wC (.dat (.int 5)))))))) wNoPart))) (wDat (wTup (wCons (wFrz (wLst (wCons (wC (.dat (.int 0))) (wCons (wC (.dat (.int 2))) (wCons (wC (.dat (.int 2))) (wCons (wC (.dat (.int 2))) (wCons (wC (.dat (.int 2))) wNil))))))) (wCons (wFrz (wLst (wCons (wC (.dat (.int 2))) (wCons (wC (.dat (.int 2))) (wCons (wC (.dat (.int 2))) (wCons (wC (.dat (.int 2))) wNil)))))) wNil)))))))) (wRet (wC (.dat (.str "ring")))) wNext) (wRet (wIf (wAndT (wBool (w2 sEq (wDat (wFrz (wN sLenQ (wCons (wNameB 1) wNil)))) (wDat (wC (.dat (.int 2)))))) (wBool (w2 sEq (wNameB 5) (wDat (wC (.dat (.int 1))))))) (wC (.dat (.str "twice"))) (wC (.dat (.str "other"))))))))))))
theorem c_shape_in (D : DefAt K mg "shape_in" s_shape_in) (T : Top K mg)  : CallOk P w K mg base 1 "shape_in" ["n", "pairs"] W_shape_in := by
  exact call_of (k := 0) D S_shape_in (fun _ _ _ _ _ _ us hl => match us, hl with | [_, _], _ => rfl) fun f cdv A outer s H E G Ex room tk =>
    (ass_cons (as_setLc 2 [("thing", 4)] S_shape_in.nd (ai_range1 T.n_range (ab_cons (ab_name 0) ab_nil)) (blkOk_by (N := N_shape_in) (sc := defScope s_shape_in) (by decide +kernel)) (fun _ _ _ _ _ _ => (ag_name 4 S_shape_in.nd)) (fun _ _ _ _ _ _ => ats_nil) (fun _ _ _ _ _ _ => (AZ.ae (az_callB c_lenA p_lenQ (by rfl) T.n_len boot_len (ab_cons (AE.ab (AZ.ae (az_comp [("pair", 3)] S_shape_in.nd (ai_all (ae_name 1)) (blkOk_by (by kernel_rfl)) (fun _ _ _ _ _ _ => (ag_name 3 S_shape_in.nd)) (fun _ _ _ _ _ _ => (ats_one (at_cmp (o_in room.u65) p_inA (ab_name 4) (ab_name 3)))) (fun _ _ _ _ _ _ => (ae_name 3))))) ab_nil))))) (ass_give 2 (ass_cons (as_if (at_cmp (o_eq room.u64) p_eq (AE.ab (AZ.ae (az_callB c_lenA p_lenQ (by rfl) T.n_len boot_len (ab_cons (ab_name 1) ab_nil)))) (AE.ab ae_int)) (ass_one (as_ret ae_str)) ass_nil) (ass_cons (as_if (AW.at (aw_and (at_cmp (o_eq room.u64) p_eq (AE.ab (AZ.ae (az_callB (c_minQ (by rfl)) p_minQ (by rfl) T.n_min boot_min (ab_cons (ab_name 2) ab_nil)))) (AE.ab ae_int)) (aw_and1 (at_cmp (o_eq room.u64) p_eq (AE.ab (AZ.ae (az_callB (c_maxQ (by rfl)) p_maxQ (by rfl) T.n_max boot_max (ab_cons (ab_name 2) ab_nil)))) (AE.ab ae_int))))) (ass_one (as_ret ae_str)) ass_nil) (ass_cons (as_if (at_cmp (o_eq room.u64) p_eq (AE.ab (AZ.ae (az_callB (c_sortAll room.u66 (by rfl)) p_sortA (by rfl) T.n_sorted boot_sorted (ab_cons (ab_name 2) ab_nil)))) (AE.ab (AZ.ae (az_bin o_add p_add (AE.ab (AZ.ae (az_bin o_mul p_mul (AE.ab (AZ.ae (az_lst (aa_cons ae_int aa_nil)))) (AE.ab (AZ.ae (az_bin op_sub p_sub (ab_name 0) (AE.ab ae_int))))))) (AE.ab (AZ.ae (az_lst (aa_cons ae_int aa_nil)))))))) (ass_one (as_ret ae_str)) ass_nil) (ass_cons (as_set 5 S_shape_in.nd (AZ.ae (az_callB c_lenA p_lenQ (by rfl) T.n_len boot_len (ab_cons (AE.ab (AZ.ae (az_dcomp DKt [("pair", 3)] room.u0 S_shape_in.nd (ai_all (ae_name 1)) (blkOk_by (N := N_shape_in) (sc := defScope s_shape_in) (by decide +kernel)) (fun _ _ _ _ _ _ => (ag_name 3 S_shape_in.nd)) (fun _ _ _ _ _ _ => ats_nil) (fun _ _ _ _ _ _ => (ae_name 3)) (fun _ _ _ _ _ _ => ae_bl)))) ab_nil)))) (ass_cons (as_if (AW.at (aw_and (at_cmp (o_eq room.u64) p_eq (AE.ab (AZ.ae (az_callB c_lenA p_lenQ (by rfl) T.n_len boot_len (ab_cons (ab_name 1) ab_nil)))) (AE.ab ae_int)) (aw_and (at_cmp (o_eq room.u64) p_eq (ab_name 5) (AE.ab ae_int)) (aw_and1 (at_cmp (o_in room.u65) p_inA (AE.ab (AZ.ae (az_slice (AE.ab (AZ.ae (az_callB (c_sortAll room.u66 (by rfl)) p_sortA (by rfl) T.n_sorted boot_sorted (ab_cons (ab_name 2) ab_nil)))) (ao_some (AE.ab (AZ.ae (az_neg (AE.ab ae_int))))) ao_none))) (AE.ab (ae_tup (aa_cons (AZ.ae (az_lst (aa_cons ae_int (aa_cons ae_int (aa_cons ae_int (aa_cons ae_int (aa_cons ae_int aa_nil))))))) (aa_cons (AZ.ae (az_lst (aa_cons ae_int (aa_cons ae_int (aa_cons ae_int (aa_cons ae_int aa_nil)))))) aa_nil))))))))) (ass_one (as_ret ae_str)) ass_nil) (ass_one (as_ret (ae_if (AW.at (aw_and (at_cmp (o_eq room.u64) p_eq (AE.ab (AZ.ae (az_callB c_lenA p_lenQ (by rfl) T.n_len boot_len (ab_cons (ab_name 1) ab_nil)))) (AE.ab ae_int)) (aw_and1 (at_cmp (o_eq room.u64) p_eq (ab_name 5) (AE.ab ae_int))))) ae_str ae_str))))))))))
def W_shape_of : WF := wDef 2 2 fun Ex => (wSeq (wDrop (wCall W_need_count Ex (wCons (wC (.dat (.str "things"))) (wCons (wName 0) wNil)))) (wSeq (wDrop (wCall W_need_pairs Ex (wCons (wName 0) (wCons (wName 1) wNil)))) (wRet (wCall W_shape_in Ex (wCons (wName 0) (wCons (wFrz (wN sListA (wCons (wNameB 1) wNil))) wNil))))))
theorem c_shape_of (D : DefAt K mg "shape_of" s_shape_of) (T : Top K mg) (c_need_count : CallOk P w K mg base 3 "need_count" ["what", "value"] W_need_count) (c_need_pairs : CallOk P w K mg base 4 "need_pairs" ["n", "pairs"] W_need_pairs) (c_shape_in : CallOk P w K mg base 1 "shape_in" ["n", "pairs"] W_shape_in) : CallOk P w K mg base 5 "shape_of" ["n", "pairs"] W_shape_of := by
  exact call_of (k := 4) D S_shape_of (fun _ _ _ _ _ _ us hl => match us, hl with | [_, _], _ => rfl) fun f cdv A outer s H E G Ex room tk =>
    (ass_cons (as_expr (ae_callC c_need_count room tk (aa_cons ae_str (aa_cons (ae_name 0) aa_nil)))) (ass_cons (as_expr (ae_callC c_need_pairs room tk (aa_cons (ae_name 0) (aa_cons (ae_name 1) aa_nil)))) (ass_one (as_ret (ae_callC c_shape_in room tk (aa_cons (ae_name 0) (aa_cons (AZ.ae (az_callTy (c_listA (by rfl)) p_listA (by rfl) T.n_list boot_list (ab_cons (ab_name 1) ab_nil))) aa_nil)))))))
def B__law_mixed_0 (Ex : Exc → Ga → Prop) : WS := (wSeq (wAppPop 3 2 (wDat (wCall W__law_draw Ex (wCons (wName 0) (wCons (wFrz (wN sLenQ (wCons (wNameB 2) wNil))) wNil))))) wNext)
def W__law_mixed : WF := wDef 5 2 fun Ex => (wSeq (wPar 2 3 (wN sListA (wCons (wNameB 1) wNil)) (wLst wNil)) (wSeq (wFor (wRange1 (wCons (wDat (wFrz (wN sLenQ (wCons (wNameB 1) wNil)))) wNil)) (gSet 4) (B__law_mixed_0 Ex)) (wRet (wName 3))))
theorem c__law_mixed (D : DefAt K mg "_law_mixed" s__law_mixed) (T : Top K mg) (c__law_draw : CallOk P w K mg base 1 "_law_draw" ["pen", "many"] W__law_draw) : CallOk P w K mg base 2 "_law_mixed" ["pen", "some"] W__law_mixed := by
  exact call_of (k := 1) D S__law_mixed (fun _ _ _ _ _ _ us hl => match us, hl with | [_, _], _ => rfl) fun f cdv A outer s H E G Ex room tk =>
    (ass_cons (as_par 2 3 S__law_mixed.nd (az_callTy (c_listA (by rfl)) p_listA (by rfl) T.n_list boot_list (ab_cons (ab_name 1) ab_nil)) (az_lst aa_nil)) (ass_cons (as_for (passes_of rfl) (ai_range1 T.n_range (ab_cons (AE.ab (AZ.ae (az_callB c_lenA p_lenQ (by rfl) T.n_len boot_len (ab_cons (ab_name 1) ab_nil)))) ab_nil)) (fun _ => (ag_name 4 S__law_mixed.nd)) (fun _ => (ass_cons (as_appPop 3 2 (AE.ab (ae_callC c__law_draw room tk (aa_cons (ae_name 0) (aa_cons (AZ.ae (az_callB c_lenA p_lenQ (by rfl) T.n_len boot_len (ab_cons (ab_name 2) ab_nil))) aa_nil))))) ass_nil))) (ass_one (as_ret (ae_name 3)))))
def B_law_0 : WS := (wSeq (wSet 3 (wCall W__law_bar Ex0 (wCons (wName 2) wNil))) (wSeq (wIfS (wOrT (wBool (w2 sNe (wDat (wFrz (wN sRepr (wCons (wDat (wCall W_most_bar Ex0 (wCons (wName 2) wNil))) wNil)))) (wDat (wFrz (wN sRepr (wCons (wNameB 3) wNil)))))) (wBool (w2 sNe (wDat (wFrz (wN sRepr (wCons (wDat (wCall W_most_number Ex0 (wCons (wName 2) wNil))) wNil)))) (wDat (wFrz (wN sRepr (wCons (wDat (wFrz (w2 sIxA (wNameB 3) (wDat (wC (.dat (.int 2))))))) wNil))))))) (wRet (wC (.dat (.bool false)))) wNext) (wSeq (wSet 4 (wCall W_most_threes Ex0 (wCons (wName 2) wNil))) (wSeq (wIfS (wOrT (wNotT (wBool (wZ (wCall W__law_are_threes Ex0 (wCons (wName 2) (wCons (wName 4) wNil)))))) (wOrT (wBool (w2 sNe (wDat (wFrz (wN sLenQ (wCons (wNameB 4) wNil)))) (wDat (wFrz (w2 sIxA (wNameB 3) (wDat (wC (.dat (.int 2))))))))) (wBool (w2 sNe (wDat (wFrz (wN sRepr (wCons (wDat (wCall W_most_threes Ex0 (wCons (wName 2) wNil))) wNil)))) (wDat (wFrz (wN sRepr (wCons (wNameB 4) wNil)))))))) (wRet (wC (.dat (.bool false)))) wNext) (wSeq (wSet 5 (wCall W__law_held Ex0 (wCons (wName 2) (wCons (wName 4) wNil)))) (wSeq (wIfS (wBool (w2 sNe (wDat (wFrz (wComp [6] (wItemsA (wName 5)) (gSet 6) (wBool (w2 sGtA (wDat (wFrz (w2 sIxA (wNameB 5) (wNameB 6)))) (wDat (wC (.dat (.int 1)))))) (wName 6)))) (wDat (wFrz (wLst wNil))))) (wRet (wC (.dat (.bool false)))) wNext) (wSeq (wSetZ 7 (wComp [6] (wItemsA (wName 5)) (gSet 6) (wBool (w2 sEq (wDat (wFrz (w2 sIxA (wNameB 5) (wNameB 6)))) (wDat (wC (.dat (.int 0)))))) (wName 6))) (wGive 7 (wSeq (wSet 8 (wIf (wBool (w2 sEq (wNameB 2) (wDat (wC (.dat (.int 0)))))) (wC (.dat (.str "none"))) (wFrz (w2 sIxA (wDat (wFrz (wLst (wCons (wC (.dat (.str "pairs"))) (wCons (wC (.dat (.str "none"))) (wCons (wC (.dat (.str "pairs"))) (wCons (wC (.dat (.str "none"))) (wCons (wC (.dat (.str "star"))) (wCons (wC (.dat (.str "ring"))) wNil))))))))) (wDat (wFrz (w2 sMod (wNameB 2) (wDat (wC (.dat (.int 6))))))))))) (wSeq (wIfS (wOrT (wBool (w2 sNe (wDat (wCall W__law_shape Ex0 (wCons (wName 2) (wCons (wName 7) wNil)))) (wNameB 8))) (wBool (w2 sNe (wDat (wFrz (wN sRepr (wCons (wDat (wCall W_left_shape Ex0 (wCons (wName 2) wNil))) wNil)))) (wDat (wFrz (wN sRepr (wCons (wNameB 8) wNil))))))) (wRet (wC (.dat (.bool false)))) wNext) (wSeq (wIfS (wBool (w2 sNe (wDat (wFrz (wN sRepr (wCons (wDat (wCall W_shape_of Ex0 (wCons (wName 2) (wCons (wCall W__law_mixed Ex0 (wCons (wName 1) (wCons (wName 7) wNil))) wNil)))) wNil)))) (wDat (wFrz (wN sRepr (wCons (wNameB 8) wNil)))))) (wRet (wC (.dat (.bool false)))) wNext) wNext)))))))))))
def W_law : WS := (wSeq (wFor (wItemsA (wFrz (wLst (wCons (wCall W__law_draw Ex0 (wCons (wName 1) (wCons (wC (.dat (.int 61))) wNil))) (wCons (wCall W__law_draw Ex0 (wCons (wName 1) (wCons (wC (.dat (.int 31))) wNil))) (wCons (wCall W__law_draw Ex0 (wCons (wName 1) (wCons (wC (.dat (.int 13))) wNil))) (wCons (wCall W__law_draw Ex0 (wCons (wName 1) (wCons (wC (.dat (.int 7))) wNil))) wNil))))))) (gSet 2) (B_law_0)) (wRet (wC (.dat (.bool true)))))
theorem law_ok {fa a : Addr} {fd : FuncData} {s : Shared} {H : Hp} {ns : List Int} (F : Fun K "law" "law" s_law fa fd) (T : Top K mg) (Dp : DefAt K mg "_law_pen" s__law_pen) (c__law_are_threes : CallOk P w K mg base 2 "_law_are_threes" ["n", "value"] W__law_are_threes) (c__law_bar : CallOk P w K mg base 1 "_law_bar" ["n"] W__law_bar) (c__law_draw : CallOk P w K mg base 1 "_law_draw" ["pen", "many"] W__law_draw) (c__law_held : CallOk P w K mg base 2 "_law_held" ["n", "threes"] W__law_held) (c__law_mixed : CallOk P w K mg base 2 "_law_mixed" ["pen", "some"] W__law_mixed) (c__law_shape : CallOk P w K mg base 1 "_law_shape" ["n", "pairs"] W__law_shape) (c_left_shape : CallOk P w K mg base 4 "left_shape" ["n"] W_left_shape) (c_most_bar : CallOk P w K mg base 4 "most_bar" ["n"] W_most_bar) (c_most_number : CallOk P w K mg base 4 "most_number" ["n"] W_most_number) (c_most_threes : CallOk P w K mg base 7 "most_threes" ["n"] W_most_threes) (c_shape_of : CallOk P w K mg base 5 "shape_of" ["n", "pairs"] W_shape_of)
    (hw : wTrue W_law 9) (e0 : Env0 P w K mg base callerA [] s H) (hS : SqL K H a (ns.map V.int)) (hn : ns.length ≤ 63) : codeAny (model P w) callerA (.call (.ref fa) ⟨[.ref a], []⟩) (LawDone P w H s) s := by
  obtain ⟨fp, fdp, Fp, mgp, kp, bp⟩ := c__law_pen (P := P) (w := w) (base := base) Dp T
  refine law_body (k := 7) F S_law (by decide) rfl ⟨⟨rfl, by decide, by decide⟩, rfl⟩ rfl (fun cdv A outer s H room => ?_) (fun cdv A outer s H G room => ?_) hw e0 hS hn (F.binds (ps := ["script"]) (fun _ _ _ _ _ _ us hl => match us, hl with | [_], _ => rfl) s [.ref a] (e0.mod.kin.keeps fun b o e => (e0.bs b o e).1) rfl)
  · exact ps_set (i := 1) S_law.nd rfl (by first | exact Or.inl rfl | exact Or.inr rfl) (pe_call (Fp) (room.room.mono (by decide)) (by rfl) mgp kp bp .nil pass0 (pa_cons (pv 0) pa_nil))
  · exact (ass_cons (as_for (passes_of rfl) (ai_all (AZ.ae (az_lst (aa_cons (ae_callC c__law_draw room tk0 (aa_cons (ae_name 1) (aa_cons ae_int aa_nil))) (aa_cons (ae_callC c__law_draw room tk0 (aa_cons (ae_name 1) (aa_cons ae_int aa_nil))) (aa_cons (ae_callC c__law_draw room tk0 (aa_cons (ae_name 1) (aa_cons ae_int aa_nil))) (aa_cons (ae_callC c__law_draw room tk0 (aa_cons (ae_name 1) (aa_cons ae_int aa_nil))) aa_nil))))))) (fun _ => (ag_name 2 S_law.nd)) (fun _ => (ass_cons (as_set 3 S_law.nd (ae_callC c__law_bar room tk0 (aa_cons (ae_name 2) aa_nil))) (ass_cons (as_if (AW.at (aw_or (at_cmp (o_ne room.u64) p_ne (AE.ab (AZ.ae (az_callB (c_repr room.gd room.u66) p_repr (by rfl) T.n_repr boot_repr (ab_cons (AE.ab (ae_callC c_most_bar room tk0 (aa_cons (ae_name 2) aa_nil))) ab_nil)))) (AE.ab (AZ.ae (az_callB (c_repr room.gd room.u66) p_repr (by rfl) T.n_repr boot_repr (ab_cons (ab_name 3) ab_nil))))) (aw_or1 (at_cmp (o_ne room.u64) p_ne (AE.ab (AZ.ae (az_callB (c_repr room.gd room.u66) p_repr (by rfl) T.n_repr boot_repr (ab_cons (AE.ab (ae_callC c_most_number room tk0 (aa_cons (ae_name 2) aa_nil))) ab_nil)))) (AE.ab (AZ.ae (az_callB (c_repr room.gd room.u66) p_repr (by rfl) T.n_repr boot_repr (ab_cons (AE.ab (AZ.ae (az_ixA room.u1 (ab_name 3) (AE.ab ae_int)))) ab_nil)))))))) (ass_one (as_ret ae_bl)) ass_nil) (ass_cons (as_set 4 S_law.nd (ae_callC c_most_threes room tk0 (aa_cons (ae_name 2) aa_nil))) (ass_cons (as_if (AW.at (aw_or (at_not (AZ.at (AE.az (ae_callC c__law_are_threes room tk0 (aa_cons (ae_name 2) (aa_cons (ae_name 4) aa_nil)))))) (aw_or (at_cmp (o_ne room.u64) p_ne (AE.ab (AZ.ae (az_callB c_lenA p_lenQ (by rfl) T.n_len boot_len (ab_cons (ab_name 4) ab_nil)))) (AE.ab (AZ.ae (az_ixA room.u1 (ab_name 3) (AE.ab ae_int))))) (aw_or1 (at_cmp (o_ne room.u64) p_ne (AE.ab (AZ.ae (az_callB (c_repr room.gd room.u66) p_repr (by rfl) T.n_repr boot_repr (ab_cons (AE.ab (ae_callC c_most_threes room tk0 (aa_cons (ae_name 2) aa_nil))) ab_nil)))) (AE.ab (AZ.ae (az_callB (c_repr room.gd room.u66) p_repr (by rfl) T.n_repr boot_repr (ab_cons (ab_name 4) ab_nil))))))))) (ass_one (as_ret ae_bl)) ass_nil) (ass_cons (as_set 5 S_law.nd (ae_callC c__law_held room tk0 (aa_cons (ae_name 2) (aa_cons (ae_name 4) aa_nil)))) (ass_cons (as_if (at_cmp (o_ne room.u64) p_ne (AE.ab (AZ.ae (az_comp [("pair", 6)] S_law.nd (ai_all (ae_name 5)) (blkOk_by (N := N_law) (sc := defScope s_law) (by decide +kernel)) (fun _ _ _ _ _ _ => (ag_name 6 S_law.nd)) (fun _ _ _ _ _ _ => (ats_one (at_cmp (o_gt room.u64) p_gtA (AE.ab (AZ.ae (az_ixA room.u1 (ab_name 5) (ab_name 6)))) (AE.ab ae_int)))) (fun _ _ _ _ _ _ => (ae_name 6))))) (AE.ab (AZ.ae (az_lst aa_nil)))) (ass_one (as_ret ae_bl)) ass_nil) (ass_cons (as_setLc 7 [("pair", 6)] S_law.nd (ai_all (ae_name 5)) (blkOk_by (N := N_law) (sc := defScope s_law) (by decide +kernel)) (fun _ _ _ _ _ _ => (ag_name 6 S_law.nd)) (fun _ _ _ _ _ _ => (ats_one (at_cmp (o_eq room.u64) p_eq (AE.ab (AZ.ae (az_ixA room.u1 (ab_name 5) (ab_name 6)))) (AE.ab ae_int)))) (fun _ _ _ _ _ _ => (ae_name 6))) (ass_give 7 (ass_cons (as_set 8 S_law.nd (ae_if (at_cmp (o_eq room.u64) p_eq (ab_name 2) (AE.ab ae_int)) ae_str (AZ.ae (az_ixA room.u1 (AE.ab (AZ.ae (az_lst (aa_cons ae_str (aa_cons ae_str (aa_cons ae_str (aa_cons ae_str (aa_cons ae_str (aa_cons ae_str aa_nil))))))))) (AE.ab (AZ.ae (az_bin op_modN p_mod (ab_name 2) (AE.ab ae_int)))))))) (ass_cons (as_if (AW.at (aw_or (at_cmp (o_ne room.u64) p_ne (AE.ab (ae_callC c__law_shape room tk0 (aa_cons (ae_name 2) (aa_cons (ae_name 7) aa_nil)))) (ab_name 8)) (aw_or1 (at_cmp (o_ne room.u64) p_ne (AE.ab (AZ.ae (az_callB (c_repr room.gd room.u66) p_repr (by rfl) T.n_repr boot_repr (ab_cons (AE.ab (ae_callC c_left_shape room tk0 (aa_cons (ae_name 2) aa_nil))) ab_nil)))) (AE.ab (AZ.ae (az_callB (c_repr room.gd room.u66) p_repr (by rfl) T.n_repr boot_repr (ab_cons (ab_name 8) ab_nil)))))))) (ass_one (as_ret ae_bl)) ass_nil) (ass_cons (as_if (at_cmp (o_ne room.u64) p_ne (AE.ab (AZ.ae (az_callB (c_repr room.gd room.u66) p_repr (by rfl) T.n_repr boot_repr (ab_cons (AE.ab (ae_callC c_shape_of room tk0 (aa_cons (ae_name 2) (aa_cons (ae_callC c__law_mixed room tk0 (aa_cons (ae_name 1) (aa_cons (ae_name 7) aa_nil))) aa_nil)))) ab_nil)))) (AE.ab (AZ.ae (az_callB (c_repr room.gd room.u66) p_repr (by rfl) T.n_repr boot_repr (ab_cons (ab_name 8) ab_nil))))) (ass_one (as_ret ae_bl)) ass_nil) ass_nil))))))))))))) (ass_one (as_ret ae_bl)))
end
def F__law_bar_0 (n1 : D) (l3 : D) (b5 : D) : So D D :=
  ((oIf ((o2 qLeA (o2 qMul (Out.ok (PyData.int 2)) (Out.ok b5)) (o2 qSub (Out.ok n1) (Out.ok (PyData.int 1)))).bind dBool) (Out.ok b5) (Out.ok l3)).so fun (each6 : D) => (.nx each6))
theorem r_B__law_bar_0 (n1 : D)  {X : Exc → Nat → Prop} {Ex : Exc → Ga → Prop} (hEx : ∀ e c s, X e c → Ex e ⟨s, c⟩) (l3 : D) (b5 : D) : RS (B__law_bar_0 Ex) [.rv (.dat n1), .rv (.dat l3), .rv (.dat b5), .no] (F__law_bar_0 n1 l3 b5) ⟨(fun (p_ : D) (s_ : List Sl) => ∃ j2_ : Pl, s_ = [.rv (.dat n1), .rv (.dat p_), j2_.1, .no]), (fun (p_ : D) (s_ : List Sl) => ∃ j2_ : Pl, s_ = [.rv (.dat n1), .rv (.dat p_), j2_.1, .no])⟩ X := by
  unfold B__law_bar_0 F__law_bar_0
  exact (rs_set (f := fun (each6 : D) => [.rv (.dat n1), .rv (.dat each6), .rv (.dat b5), .no])  (r_if (r_bool (r_2 s_leQ (r_dat (r_frz (r_2 s_mulQ (r_dat r_C) (r_nameB (i := 2) rfl)))) (r_dat (r_frz (r_2 s_subQ (r_nameB (i := 0) rfl) (r_dat r_C)))))) (r_name (i := 2) rfl) (r_name (i := 1) rfl)) (fun _ => rfl) (fun (each6 : D) => (rs_next ⟨⟨_, by first | exact True.intro | exact Subtype.property _⟩, rfl⟩)))
def F__law_bar (n1 : D) : Out D := So.fin ((Out.ok (PyData.int 0)).so fun (each2 : D) => (So.seq ((oRange1 (oCons (Out.ok n1) (Out.ok ([] : List D)))).so fun items => forO (fun l3 d => (tgName d).noer.so fun b5 => F__law_bar_0 n1 l3 b5) items each2) fun (p7 : D) => ((o2 qFdiv (o2 qMul (Out.ok n1) (Out.ok p7)) (Out.ok (PyData.int 3))).so fun (third9 : D) => (((oCons (Out.ok p7) (oCons (Out.ok third9) (oCons (oIf ((o2 qEq (o2 qMod (Out.ok n1) (Out.ok (PyData.int 6))) (Out.ok (PyData.int 5))).bind dBool) (o2 qSub (Out.ok third9) (Out.ok (PyData.int 1))) (Out.ok third9)) (Out.ok ([] : List D))))).bind fun ds => Out.ok (PyData.tuple ds)).so fun d => .rt d))))
def A__law_bar (a : List D) : Out D := match a with | [n1] => F__law_bar n1 | _ => .bad
@[simp] theorem A__law_bar_is (n1 : D) : A__law_bar [n1] = F__law_bar n1 := rfl
theorem ra__law_bar : ∀ (a : List D) (c : Nat) (P : Rv → Nat → Prop) (R : Exc → Nat → Prop), (A__law_bar a).post (fun d => P (.dat d) c) (R · c) → W__law_bar (a.map .dat) c P R := by
  intro a c P R q
  match a, q with
  | [n1], q => exact rf_def rfl (s := [.rv (.dat n1), .no, .no, .no]) rfl (fun Ex X hEx => (rs_set (f := fun (each2 : D) => [.rv (.dat n1), .rv (.dat each2), .no, .no])  r_C (fun _ => rfl) (fun (each2 : D) => (rs_seq (rs_for (N := (fun (p_ : D) (s_ : List Sl) => ∃ j2_ : Pl, s_ = [.rv (.dat n1), .rv (.dat p_), j2_.1, .no])) (r_range1 (r_bcons (r_nameB (i := 0) rfl) r_bnil)) ⟨⟨_, by first | exact True.intro | exact Subtype.property _⟩, rfl⟩ (fun l3 s_ h_ => by obtain ⟨j4, rfl⟩ := h_; exact rt_of rg_set' (fun b5 => (r_B__law_bar_0 n1 hEx l3 b5))) rfl) (fun p7 s_ h_ => by obtain ⟨j8, rfl⟩ := h_; exact (rs_set (f := fun (third9 : D) => [.rv (.dat n1), .rv (.dat p7), j8.1, .rv (.dat third9)])  (r_frz (r_2 s_fdivQ (r_dat (r_frz (r_2 s_mulQ (r_nameB (i := 0) rfl) (r_nameB (i := 1) rfl)))) (r_dat r_C))) (fun _ => rfl) (fun (third9 : D) => (rs_ret (r_tup (r_dcons (r_name (i := 1) rfl) (r_dcons (r_name (i := 3) rfl) (r_dcons (r_if (r_bool (r_2 s_eqQ (r_dat (r_frz (r_2 s_modQ (r_nameB (i := 0) rfl) (r_dat r_C)))) (r_dat r_C))) (r_frz (r_2 s_subQ (r_nameB (i := 3) rfl) (r_dat r_C))) (r_name (i := 3) rfl)) r_dnil)))))))))))) q
  | [], q => exact q.elim
  | _ :: _ :: _, q => exact q.elim
def F_is_whole (value1 : D) : Out D := So.fin ((oAndV (o1 (dIsi .int) (Out.ok value1)) (oNotV (o1 (dIsi .bool) (Out.ok value1)))).so fun d => .rt d)
def A_is_whole (a : List D) : Out D := match a with | [value1] => F_is_whole value1 | _ => .bad
@[simp] theorem A_is_whole_is (value1 : D) : A_is_whole [value1] = F_is_whole value1 := rfl
theorem ra_is_whole : ∀ (a : List D) (c : Nat) (P : Rv → Nat → Prop) (R : Exc → Nat → Prop), (A_is_whole a).post (fun d => P (.dat d) c) (R · c) → W_is_whole (a.map .dat) c P R := by
  intro a c P R q
  match a, q with
  | [value1], q => exact rf_def rfl (s := [.rv (.dat value1)]) rfl (fun Ex X hEx => (rs_ret (r_andV (r_isi (r_nameB (i := 0) rfl)) (r_notV (r_isi (r_nameB (i := 0) rfl)))))) q
  | [], q => exact q.elim
  | _ :: _ :: _, q => exact q.elim
def F_is_count (value1 : D) : Out D := So.fin ((oAndV ((oCons (Out.ok value1) (Out.ok ([] : List D))).bind A_is_whole) (o2 qGeA (Out.ok value1) (Out.ok (PyData.int 0)))).so fun d => .rt d)
def A_is_count (a : List D) : Out D := match a with | [value1] => F_is_count value1 | _ => .bad
@[simp] theorem A_is_count_is (value1 : D) : A_is_count [value1] = F_is_count value1 := rfl
theorem ra_is_count : ∀ (a : List D) (c : Nat) (P : Rv → Nat → Prop) (R : Exc → Nat → Prop), (A_is_count a).post (fun d => P (.dat d) c) (R · c) → W_is_count (a.map .dat) c P R := by
  intro a c P R q
  match a, q with
  | [value1], q => exact rf_def rfl (s := [.rv (.dat value1)]) rfl (fun Ex X hEx => (rs_ret (r_andV (r_call ra_is_whole (r_dcons (r_name (i := 0) rfl) r_dnil) (fun e c h => hEx e c _ h)) (r_frz (r_2 s_geQ (r_nameB (i := 0) rfl) (r_dat r_C)))))) q
  | [], q => exact q.elim
  | _ :: _ :: _, q => exact q.elim
def F_need_count (what1 : D) (value2 : D) : Out D := So.fin (So.seq ((oNot (((oCons (Out.ok value2) (Out.ok ([] : List D))).bind A_is_count).bind dBool)).so fun v => bcs v (((oCons (Out.ok what1) (oCons (Out.ok value2) (Out.ok ([] : List D)))).bind (exc2 "BadNumber" "what" "number")).so fun e => .er e) (.nx ())) fun (p3 : Unit) => (.nx ()))
def A_need_count (a : List D) : Out D := match a with | [what1, value2] => F_need_count what1 value2 | _ => .bad
@[simp] theorem A_need_count_is (what1 : D) (value2 : D) : A_need_count [what1, value2] = F_need_count what1 value2 := rfl
theorem ra_need_count : ∀ (a : List D) (c : Nat) (P : Rv → Nat → Prop) (R : Exc → Nat → Prop), (A_need_count a).post (fun d => P (.dat d) c) (R · c) → W_need_count (a.map .dat) c P R := by
  intro a c P R q
  match a, q with
  | [what1, value2], q => exact rf_def rfl (s := [.rv (.dat what1), .rv (.dat value2)]) rfl (fun Ex X hEx => (rs_seq (rs_if (J := ⟨(fun (p_ : Unit) (s_ : List Sl) => s_ = [.rv (.dat what1), .rv (.dat value2)]), _⟩) (r_notT (r_bool (r_z (r_call ra_is_count (r_dcons (r_name (i := 1) rfl) r_dnil) (fun e c h => hEx e c _ h))))) (rs_raise (r_dcons (r_name (i := 0) rfl) (r_dcons (r_name (i := 1) rfl) r_dnil)) (fun e c h => hEx e c _ h) (exc2_F _ _ _)) (rs_next rfl)) (fun p3 s_ h_ => by subst h_; exact (rs_next True.intro)))) q
  | [], q => exact q.elim
  | [_], q => exact q.elim
  | _ :: _ :: _ :: _, q => exact q.elim
def F_most_bar_in (n1 : D) : Out D := So.fin ((oIf ((o2 qGtA (Out.ok n1) (Out.ok (PyData.int 0))).bind dBool) (o2 qFdiv (o2 qSub (Out.ok n1) (Out.ok (PyData.int 1))) (Out.ok (PyData.int 2))) (Out.ok (PyData.int 0))).so fun (each2 : D) => ((o2 qFdiv (o2 qMul (Out.ok n1) (Out.ok each2)) (Out.ok (PyData.int 3))).so fun (bythings3 : D) => (((oCons (Out.ok each2) (oCons (Out.ok bythings3) (oCons (oIf ((o2 qEq (o2 qMod (Out.ok n1) (Out.ok (PyData.int 6))) (Out.ok (PyData.int 5))).bind dBool) (o2 qSub (Out.ok bythings3) (Out.ok (PyData.int 1))) (Out.ok bythings3)) (Out.ok ([] : List D))))).bind fun ds => Out.ok (PyData.tuple ds)).so fun d => .rt d)))
def A_most_bar_in (a : List D) : Out D := match a with | [n1] => F_most_bar_in n1 | _ => .bad
@[simp] theorem A_most_bar_in_is (n1 : D) : A_most_bar_in [n1] = F_most_bar_in n1 := rfl
theorem ra_most_bar_in : ∀ (a : List D) (c : Nat) (P : Rv → Nat → Prop) (R : Exc → Nat → Prop), (A_most_bar_in a).post (fun d => P (.dat d) c) (R · c) → W_most_bar_in (a.map .dat) c P R := by
  intro a c P R q
  match a, q with
  | [n1], q => exact rf_def rfl (s := [.rv (.dat n1), .no, .no]) rfl (fun Ex X hEx => (rs_set (f := fun (each2 : D) => [.rv (.dat n1), .rv (.dat each2), .no])  (r_if (r_bool (r_2 s_gtQ (r_nameB (i := 0) rfl) (r_dat r_C))) (r_frz (r_2 s_fdivQ (r_dat (r_frz (r_2 s_subQ (r_nameB (i := 0) rfl) (r_dat r_C)))) (r_dat r_C))) r_C) (fun _ => rfl) (fun (each2 : D) => (rs_set (f := fun (bythings3 : D) => [.rv (.dat n1), .rv (.dat each2), .rv (.dat bythings3)])  (r_frz (r_2 s_fdivQ (r_dat (r_frz (r_2 s_mulQ (r_nameB (i := 0) rfl) (r_nameB (i := 1) rfl)))) (r_dat r_C))) (fun _ => rfl) (fun (bythings3 : D) => (rs_ret (r_tup (r_dcons (r_name (i := 1) rfl) (r_dcons (r_name (i := 2) rfl) (r_dcons (r_if (r_bool (r_2 s_eqQ (r_dat (r_frz (r_2 s_modQ (r_nameB (i := 0) rfl) (r_dat r_C)))) (r_dat r_C))) (r_frz (r_2 s_subQ (r_nameB (i := 2) rfl) (r_dat r_C))) (r_name (i := 2) rfl)) r_dnil)))))))))) q
  | [], q => exact q.elim
  | _ :: _ :: _, q => exact q.elim
def F_most_bar (n1 : D) : Out D := So.fin (((oCons (Out.ok (PyData.str "things")) (oCons (Out.ok n1) (Out.ok ([] : List D)))).bind A_need_count).so fun _ => (((oCons (Out.ok n1) (Out.ok ([] : List D))).bind A_most_bar_in).so fun d => .rt d))
def A_most_bar (a : List D) : Out D := match a with | [n1] => F_most_bar n1 | _ => .bad
@[simp] theorem A_most_bar_is (n1 : D) : A_most_bar [n1] = F_most_bar n1 := rfl
theorem ra_most_bar : ∀ (a : List D) (c : Nat) (P : Rv → Nat → Prop) (R : Exc → Nat → Prop), (A_most_bar a).post (fun d => P (.dat d) c) (R · c) → W_most_bar (a.map .dat) c P R := by
  intro a c P R q
  match a, q with
  | [n1], q => exact rf_def rfl (s := [.rv (.dat n1)]) rfl (fun Ex X hEx => (rs_drop (r_call ra_need_count (r_dcons r_C (r_dcons (r_name (i := 0) rfl) r_dnil)) (fun e c h => hEx e c _ h)) (fun _ => (rs_ret (r_call ra_most_bar_in (r_dcons (r_name (i := 0) rfl) r_dnil) (fun e c h => hEx e c _ h)))))) q
  | [], q => exact q.elim
  | _ :: _ :: _, q => exact q.elim
def F_most_number (n1 : D) : Out D := So.fin (((oCons (Out.ok (PyData.str "things")) (oCons (Out.ok n1) (Out.ok ([] : List D)))).bind A_need_count).so fun _ => ((o2 qIx ((oCons (Out.ok n1) (Out.ok ([] : List D))).bind A_most_bar_in) (Out.ok (PyData.int 2))).so fun d => .rt d))
def A_most_number (a : List D) : Out D := match a with | [n1] => F_most_number n1 | _ => .bad
@[simp] theorem A_most_number_is (n1 : D) : A_most_number [n1] = F_most_number n1 := rfl
theorem ra_most_number : ∀ (a : List D) (c : Nat) (P : Rv → Nat → Prop) (R : Exc → Nat → Prop), (A_most_number a).post (fun d => P (.dat d) c) (R · c) → W_most_number (a.map .dat) c P R := by
  intro a c P R q
  match a, q with
  | [n1], q => exact rf_def rfl (s := [.rv (.dat n1)]) rfl (fun Ex X hEx => (rs_drop (r_call ra_need_count (r_dcons r_C (r_dcons (r_name (i := 0) rfl) r_dnil)) (fun e c h => hEx e c _ h)) (fun _ => (rs_ret (r_frz (r_2 s_ixQ (r_dat (r_call ra_most_bar_in (r_dcons (r_name (i := 0) rfl) r_dnil) (fun e c h => hEx e c _ h))) (r_dat r_C))))))) q
  | [], q => exact q.elim
  | _ :: _ :: _, q => exact q.elim
def F_threes_in (lots1 : D) : Out D := So.fin ((oN dTuple (oCons ((oN dSortA (oCons (((oItemsA (Out.ok lots1)).bind fun items => (compO tgName (fun b2 => (Out.ok true)) (fun b2 => (oN dTuple (oCons ((oN dSortA (oCons (Out.ok b2) (Out.ok ([] : List D)))).bind fun ds => Out.ok (PyData.list ds)) (Out.ok ([] : List D))))) items).noer).bind fun ds => Out.ok (PyData.list ds)) (Out.ok ([] : List D)))).bind fun ds => Out.ok (PyData.list ds)) (Out.ok ([] : List D)))).so fun d => .rt d)
def A_threes_in (a : List D) : Out D := match a with | [lots1] => F_threes_in lots1 | _ => .bad
@[simp] theorem A_threes_in_is (lots1 : D) : A_threes_in [lots1] = F_threes_in lots1 := rfl
theorem ra_threes_in : ∀ (a : List D) (c : Nat) (P : Rv → Nat → Prop) (R : Exc → Nat → Prop), (A_threes_in a).post (fun d => P (.dat d) c) (R · c) → W_threes_in (a.map .dat) c P R := by
  intro a c P R q
  match a, q with
  | [lots1], q => exact rf_def rfl (s := [.rv (.dat lots1), .no]) rfl (fun Ex X hEx => (rs_ret (r_frz (r_N s_tuple (r_bcons (r_dat (r_frz (r_lz (r_Nl s_sortA (r_bcons (r_dat (r_frz (r_lz (r_comp (sw := [.rv (.dat lots1), .no]) (sb := fun b2 => [.rv (.dat lots1), .rv (.dat b2)]) (s2 := [.rv (.dat lots1), .no]) (by (try simp only [List.map_cons, List.map_nil]); repeat' first | exact plain_nil | refine plain_cons ?_ ?_ | exact True.intro | exact Subtype.property _) (r_itemsA (r_name (i := 0) rfl)) (fun _ => rfl) rg_set' (fun b2 => r_yes) (fun b2 => (r_frz (r_N s_tuple (r_bcons (r_dat (r_frz (r_lz (r_Nl s_sortA (r_bcons (r_nameB (i := 1) rfl) r_bnil))))) r_bnil)))) (fun _ _ => rfl) (fun _ => rfl))))) r_bnil))))) r_bnil))))) q
  | [], q => exact q.elim
  | _ :: _ :: _, q => exact q.elim
def F_thing_of (x1 : D) (i2 : D) : Out D := So.fin ((o2 qAdd (o2 qMul (Out.ok (PyData.int 3)) (Out.ok x1)) (o2 qMod (Out.ok i2) (Out.ok (PyData.int 3)))).so fun d => .rt d)
def A_thing_of (a : List D) : Out D := match a with | [x1, i2] => F_thing_of x1 i2 | _ => .bad
@[simp] theorem A_thing_of_is (x1 : D) (i2 : D) : A_thing_of [x1, i2] = F_thing_of x1 i2 := rfl
theorem ra_thing_of : ∀ (a : List D) (c : Nat) (P : Rv → Nat → Prop) (R : Exc → Nat → Prop), (A_thing_of a).post (fun d => P (.dat d) c) (R · c) → W_thing_of (a.map .dat) c P R := by
  intro a c P R q
  match a, q with
  | [x1, i2], q => exact rf_def rfl (s := [.rv (.dat x1), .rv (.dat i2)]) rfl (fun Ex X hEx => (rs_ret (r_frz (r_2 s_addQ (r_dat (r_frz (r_2 s_mulQ (r_dat r_C) (r_nameB (i := 0) rfl)))) (r_dat (r_frz (r_2 s_modQ (r_nameB (i := 1) rfl) (r_dat r_C)))))))) q
  | [], q => exact q.elim
  | [_], q => exact q.elim
  | _ :: _ :: _ :: _, q => exact q.elim
def F_columns (things1 : D) : Out D := So.fin ((((oItemsA (Out.ok things1)).bind fun items => (compO tgName (fun b2 => (Out.ok true)) (fun b2 => ((oCons ((oCons (Out.ok b2) (oCons (Out.ok (PyData.int 0)) (Out.ok ([] : List D)))).bind A_thing_of) (oCons ((oCons (Out.ok b2) (oCons (Out.ok (PyData.int 1)) (Out.ok ([] : List D)))).bind A_thing_of) (oCons ((oCons (Out.ok b2) (oCons (Out.ok (PyData.int 2)) (Out.ok ([] : List D)))).bind A_thing_of) (Out.ok ([] : List D))))).bind fun ds => Out.ok (PyData.tuple ds))) items).noer).bind fun ds => Out.ok (PyData.list ds)).so fun d => .rt d)
def A_columns (a : List D) : Out D := match a with | [things1] => F_columns things1 | _ => .bad
@[simp] theorem A_columns_is (things1 : D) : A_columns [things1] = F_columns things1 := rfl
theorem ra_columns : ∀ (a : List D) (c : Nat) (P : Rv → Nat → Prop) (R : Exc → Nat → Prop), (A_columns a).post (fun d => P (.dat d) c) (R · c) → W_columns (a.map .dat) c P R := by
  intro a c P R q
  match a, q with
  | [things1], q => exact rf_def rfl (s := [.rv (.dat things1), .no]) rfl (fun Ex X hEx => (rs_ret (r_frz (r_lz (r_comp (sw := [.rv (.dat things1), .no]) (sb := fun b2 => [.rv (.dat things1), .rv (.dat b2)]) (s2 := [.rv (.dat things1), .no]) (by (try simp only [List.map_cons, List.map_nil]); repeat' first | exact plain_nil | refine plain_cons ?_ ?_ | exact True.intro | exact Subtype.property _) (r_itemsA (r_name (i := 0) rfl)) (fun _ => rfl) rg_set' (fun b2 => r_yes) (fun b2 => (r_tup (r_dcons (r_call ra_thing_of (r_dcons (r_name (i := 1) rfl) (r_dcons r_C r_dnil)) (fun e c h => h.elim)) (r_dcons (r_call ra_thing_of (r_dcons (r_name (i := 1) rfl) (r_dcons r_C r_dnil)) (fun e c h => h.elim)) (r_dcons (r_call ra_thing_of (r_dcons (r_name (i := 1) rfl) (r_dcons r_C r_dnil)) (fun e c h => h.elim)) r_dnil))))) (fun _ _ => rfl) (fun _ => rfl)))))) q
  | [], q => exact q.elim
  | _ :: _ :: _, q => exact q.elim
def F_all_pairs (n1 : D) : Out D := So.fin ((((oRange1 (oCons (Out.ok n1) (Out.ok ([] : List D)))).bind fun items => (sized (compO2 tgName (fun b2 => (Out.ok true)) (fun b2 => (oRange2 (oCons (o2 qAdd (Out.ok b2) (Out.ok (PyData.int 1))) (oCons (Out.ok n1) (Out.ok ([] : List D)))))) (fun b2 => tgName) (fun b2 b3 => (Out.ok true)) (fun b2 b3 => ((oCons (Out.ok b2) (oCons (Out.ok b3) (Out.ok ([] : List D)))).bind fun ds => Out.ok (PyData.tuple ds))) items)).noer).bind fun ds => Out.ok (PyData.list ds)).so fun d => .rt d)
def A_all_pairs (a : List D) : Out D := match a with | [n1] => F_all_pairs n1 | _ => .bad
@[simp] theorem A_all_pairs_is (n1 : D) : A_all_pairs [n1] = F_all_pairs n1 := rfl
theorem ra_all_pairs : ∀ (a : List D) (c : Nat) (P : Rv → Nat → Prop) (R : Exc → Nat → Prop), (A_all_pairs a).post (fun d => P (.dat d) c) (R · c) → W_all_pairs (a.map .dat) c P R := by
  intro a c P R q
  match a, q with
  | [n1], q => exact rf_def rfl (s := [.rv (.dat n1), .no, .no]) rfl (fun Ex X hEx => (rs_ret (r_frz (r_lz (r_comp2 (sw := [.rv (.dat n1), .no, .no]) (sb := fun b2 => [.rv (.dat n1), .rv (.dat b2), .no]) (si := fun b2 => [.rv (.dat n1), .rv (.dat b2), .no]) (sc := fun b2 b3 => [.rv (.dat n1), .rv (.dat b2), .rv (.dat b3)]) (s2 := [.rv (.dat n1), .no, .no]) (by (try simp only [List.map_cons, List.map_nil]); repeat' first | exact plain_nil | refine plain_cons ?_ ?_ | exact True.intro | exact Subtype.property _) (r_range1 (r_bcons (r_nameB (i := 0) rfl) r_bnil)) (fun _ => rfl) rg_set' (fun b2 => r_yes) (fun b2 => (r_range2 (r_bcons (r_dat (r_frz (r_2 s_addQ (r_nameB (i := 1) rfl) (r_dat r_C)))) (r_bcons (r_nameB (i := 0) rfl) r_bnil)))) (fun _ _ => rfl) (fun b2 => rg_set') (fun b2 b3 => r_yes) (fun b2 b3 => (r_tup (r_dcons (r_name (i := 1) rfl) (r_dcons (r_name (i := 2) rfl) r_dnil)))) (fun _ _ _ => rfl) (fun _ _ => rfl) (fun _ _ => rfl) (fun _ => rfl)))))) q
  | [], q => exact q.elim
  | _ :: _ :: _, q => exact q.elim
def F_crossed_1 (table1 : D) (b7 : (D × (D × Unit))) (l8 : FL) (b10 : D) : So FL FL :=
  ((((oCons ((oCons (Out.ok b7.1) (oCons (Out.ok b10) (Out.ok ([] : List D)))).bind A_thing_of) (oCons ((oCons (Out.ok b7.2.1) (oCons (Out.ok b10) (Out.ok ([] : List D)))).bind A_thing_of) (oCons ((oCons (o2 qIx (o2 qIx (Out.ok table1) (Out.ok b7.1)) (Out.ok b7.2.1)) (oCons (o2 qAdd (Out.ok b10) (Out.ok (PyData.int 1))) (Out.ok ([] : List D)))).bind A_thing_of) (Out.ok ([] : List D))))).bind fun ds => Out.ok (PyData.tuple ds)).bind fun d => flApp l8 d).so fun (found11 : FL) => (.nx found11))
theorem r_B_crossed_1 (table1 : D) (b7 : (D × (D × Unit)))  {X : Exc → Nat → Prop} {Ex : Exc → Ga → Prop} (hEx : ∀ e c s, X e c → Ex e ⟨s, c⟩) (l8 : FL) (b10 : D) : RS (B_crossed_1 Ex) [.rv (.dat table1), .lst (FL.l l8), .rv (.dat b7.1), .rv (.dat b7.2.1), .rv (.dat b10)] (F_crossed_1 table1 b7 l8 b10) ⟨(fun (p_ : FL) (s_ : List Sl) => ∃ j4_ : Pl, s_ = [.rv (.dat table1), .lst (FL.l p_), .rv (.dat b7.1), .rv (.dat b7.2.1), j4_.1]), (fun (p_ : FL) (s_ : List Sl) => ∃ j4_ : Pl, s_ = [.rv (.dat table1), .lst (FL.l p_), .rv (.dat b7.1), .rv (.dat b7.2.1), j4_.1])⟩ X := by
  unfold B_crossed_1 F_crossed_1
  exact (rs_appendF (i := 1) (v := l8) (g := fun (found11 : FL) => [.rv (.dat table1), .lst (FL.l found11), .rv (.dat b7.1), .rv (.dat b7.2.1), .rv (.dat b10)]) rfl rfl (r_tup (r_dcons (r_call ra_thing_of (r_dcons (r_name (i := 2) rfl) (r_dcons (r_name (i := 4) rfl) r_dnil)) (fun e c h => hEx e c _ h)) (r_dcons (r_call ra_thing_of (r_dcons (r_name (i := 3) rfl) (r_dcons (r_name (i := 4) rfl) r_dnil)) (fun e c h => hEx e c _ h)) (r_dcons (r_call ra_thing_of (r_dcons (r_frz (r_2 s_ixQ (r_dat (r_frz (r_2 s_ixQ (r_nameB (i := 0) rfl) (r_nameB (i := 2) rfl)))) (r_nameB (i := 3) rfl))) (r_dcons (r_frz (r_2 s_addQ (r_nameB (i := 4) rfl) (r_dat r_C))) r_dnil)) (fun e c h => hEx e c _ h)) r_dnil)))) (fun _ => rfl) (fun (found11 : FL) => (rs_next ⟨⟨_, by first | exact True.intro | exact Subtype.property _⟩, rfl⟩)))
def F_crossed_0 (table1 : D) (l3 : FL) (b7 : (D × (D × Unit))) : So FL FL :=
  (So.seq ((oRange1 (oCons (Out.ok (PyData.int 3)) (Out.ok ([] : List D)))).so fun items => forO (fun l8 d => (tgName d).noer.so fun b10 => F_crossed_1 table1 b7 l8 b10) items l3) fun (p12 : FL) => (.nx p12))
theorem r_B_crossed_0 (table1 : D) {j6 : Pl} {X : Exc → Nat → Prop} {Ex : Exc → Ga → Prop} (hEx : ∀ e c s, X e c → Ex e ⟨s, c⟩) (l3 : FL) (b7 : (D × (D × Unit))) : RS (B_crossed_0 Ex) [.rv (.dat table1), .lst (FL.l l3), .rv (.dat b7.1), .rv (.dat b7.2.1), j6.1] (F_crossed_0 table1 l3 b7) ⟨(fun (p_ : FL) (s_ : List Sl) => ∃ j2_ : Pl, ∃ j3_ : Pl, ∃ j4_ : Pl, s_ = [.rv (.dat table1), .lst (FL.l p_), j2_.1, j3_.1, j4_.1]), (fun (p_ : FL) (s_ : List Sl) => ∃ j2_ : Pl, ∃ j3_ : Pl, ∃ j4_ : Pl, s_ = [.rv (.dat table1), .lst (FL.l p_), j2_.1, j3_.1, j4_.1])⟩ X := by
  unfold B_crossed_0 F_crossed_0
  exact (rs_seq (rs_for (N := (fun (p_ : FL) (s_ : List Sl) => ∃ j4_ : Pl, s_ = [.rv (.dat table1), .lst (FL.l p_), .rv (.dat b7.1), .rv (.dat b7.2.1), j4_.1])) (r_range1 (r_bcons (r_dat r_C) r_bnil)) ⟨⟨_, by first | exact True.intro | exact Subtype.property _⟩, rfl⟩ (fun l8 s_ h_ => by obtain ⟨j9, rfl⟩ := h_; exact rt_of rg_set' (fun b10 => (r_B_crossed_1 table1 b7 hEx l8 b10))) rfl) (fun p12 s_ h_ => by obtain ⟨j13, rfl⟩ := h_; exact (rs_next ⟨⟨_, by first | exact True.intro | exact Subtype.property _⟩, ⟨_, by first | exact True.intro | exact Subtype.property _⟩, ⟨_, by first | exact True.intro | exact Subtype.property _⟩, rfl⟩)))
def F_crossed (table1 : D) : Out D := So.fin ((oFL (Out.ok ([] : List D))).so fun (found2 : FL) => (So.seq ((oItemsA ((oCons (oN dLenQ (oCons (Out.ok table1) (Out.ok ([] : List D)))) (Out.ok ([] : List D))).bind A_all_pairs)).so fun items => forO (fun l3 d => ((tgTup 2 (tgCons tgName (tgCons tgName tgNil))) d).noer.so fun b7 => F_crossed_0 table1 l3 b7) items found2) fun (p14 : FL) => ((Out.ok (PyData.list (FL.l p14))).so fun d => .rt d)))
def A_crossed (a : List D) : Out D := match a with | [table1] => F_crossed table1 | _ => .bad
@[simp] theorem A_crossed_is (table1 : D) : A_crossed [table1] = F_crossed table1 := rfl
theorem ra_crossed : ∀ (a : List D) (c : Nat) (P : Rv → Nat → Prop) (R : Exc → Nat → Prop), (A_crossed a).post (fun d => P (.dat d) c) (R · c) → W_crossed (a.map .dat) c P R := by
  intro a c P R q
  match a, q with
  | [table1], q => exact rf_def rfl (s := [.rv (.dat table1), .no, .no, .no, .no]) rfl (fun Ex X hEx => (rs_setF (f := fun (found2 : FL) => [.rv (.dat table1), .lst (FL.l found2), .no, .no, .no]) KdFL (r_FL (r_lst r_dnil)) (fun _ => rfl) (fun (found2 : FL) => (rs_seq (rs_for (N := (fun (p_ : FL) (s_ : List Sl) => ∃ j2_ : Pl, ∃ j3_ : Pl, ∃ j4_ : Pl, s_ = [.rv (.dat table1), .lst (FL.l p_), j2_.1, j3_.1, j4_.1])) (r_itemsA (r_call ra_all_pairs (r_dcons (r_frz (r_N s_lenQ (r_bcons (r_nameB (i := 0) rfl) r_bnil))) r_dnil) (fun e c h => hEx e c _ h))) ⟨⟨_, by first | exact True.intro | exact Subtype.property _⟩, ⟨_, by first | exact True.intro | exact Subtype.property _⟩, ⟨_, by first | exact True.intro | exact Subtype.property _⟩, rfl⟩ (fun l3 s_ h_ => by obtain ⟨j4, j5, j6, rfl⟩ := h_; exact rt_of (rg_tup (rg_cons rg_set' (fun _ => (rg_cons rg_set' (fun _ => rg_nil))))) (fun b7 => (r_B_crossed_0 table1 hEx l3 b7))) rfl) (fun p14 s_ h_ => by obtain ⟨j15, j16, j17, rfl⟩ := h_; exact (rs_ret (r_nameL (i := 1) (s1 := [.rv (.dat table1), .rv (.dat (PyData.list (FL.l p14))), j15.1, j16.1, j17.1]) rfl rfl))))))) q
  | [], q => exact q.elim
  | _ :: _ :: _, q => exact q.elim
def F_still_across (n1 : D) : Out D := So.fin (((oCons (Out.ok (PyData.str "things")) (oCons (Out.ok n1) (Out.ok ([] : List D)))).bind A_need_count).so fun _ => (So.seq (((o2 qEq (o2 qMod (Out.ok n1) (Out.ok (PyData.int 2))) (Out.ok (PyData.int 0))).bind dBool).so fun v => bcs v (((oCons (Out.ok (PyData.str "odd")) (oCons (Out.ok n1) (Out.ok ([] : List D)))).bind (exc2 "NotKept" "promise" "witness")).so fun e => .er e) (.nx ())) fun (p2 : Unit) => ((oN dTuple (oCons (((oRange1 (oCons (Out.ok n1) (Out.ok ([] : List D)))).bind fun items => (compO tgName (fun b3 => (Out.ok true)) (fun b3 => (oN dTuple (oCons (((oRange1 (oCons (Out.ok n1) (Out.ok ([] : List D)))).bind fun items => (compO tgName (fun b4 => (Out.ok true)) (fun b4 => (o2 qMod (o2 qFdiv (o2 qMul (o2 qAdd (Out.ok b3) (Out.ok b4)) (o2 qAdd (Out.ok n1) (Out.ok (PyData.int 1)))) (Out.ok (PyData.int 2))) (Out.ok n1))) items).noer).bind fun ds => Out.ok (PyData.list ds)) (Out.ok ([] : List D))))) items).noer).bind fun ds => Out.ok (PyData.list ds)) (Out.ok ([] : List D)))).so fun d => .rt d)))
def A_still_across (a : List D) : Out D := match a with | [n1] => F_still_across n1 | _ => .bad
@[simp] theorem A_still_across_is (n1 : D) : A_still_across [n1] = F_still_across n1 := rfl
theorem ra_still_across : ∀ (a : List D) (c : Nat) (P : Rv → Nat → Prop) (R : Exc → Nat → Prop), (A_still_across a).post (fun d => P (.dat d) c) (R · c) → W_still_across (a.map .dat) c P R := by
  intro a c P R q
  match a, q with
  | [n1], q => exact rf_def rfl (s := [.rv (.dat n1), .no, .no]) rfl (fun Ex X hEx => (rs_drop (r_call ra_need_count (r_dcons r_C (r_dcons (r_name (i := 0) rfl) r_dnil)) (fun e c h => hEx e c _ h)) (fun _ => (rs_seq (rs_if (J := ⟨(fun (p_ : Unit) (s_ : List Sl) => s_ = [.rv (.dat n1), .no, .no]), _⟩) (r_bool (r_2 s_eqQ (r_dat (r_frz (r_2 s_modQ (r_nameB (i := 0) rfl) (r_dat r_C)))) (r_dat r_C))) (rs_raise (r_dcons r_C (r_dcons (r_name (i := 0) rfl) r_dnil)) (fun e c h => hEx e c _ h) (exc2_F _ _ _)) (rs_next rfl)) (fun p2 s_ h_ => by subst h_; exact (rs_ret (r_frz (r_N s_tuple (r_bcons (r_dat (r_frz (r_lz (r_comp (sw := [.rv (.dat n1), .no, .no]) (sb := fun b3 => [.rv (.dat n1), .no, .rv (.dat b3)]) (s2 := [.rv (.dat n1), .no, .no]) (by (try simp only [List.map_cons, List.map_nil]); repeat' first | exact plain_nil | refine plain_cons ?_ ?_ | exact True.intro | exact Subtype.property _) (r_range1 (r_bcons (r_nameB (i := 0) rfl) r_bnil)) (fun _ => rfl) rg_set' (fun b3 => r_yes) (fun b3 => (r_frz (r_N s_tuple (r_bcons (r_dat (r_frz (r_lz (r_comp (sw := [.rv (.dat n1), .no, .rv (.dat b3)]) (sb := fun b4 => [.rv (.dat n1), .rv (.dat b4), .rv (.dat b3)]) (s2 := [.rv (.dat n1), .no, .rv (.dat b3)]) (by (try simp only [List.map_cons, List.map_nil]); repeat' first | exact plain_nil | refine plain_cons ?_ ?_ | exact True.intro | exact Subtype.property _) (r_range1 (r_bcons (r_nameB (i := 0) rfl) r_bnil)) (fun _ => rfl) rg_set' (fun b4 => r_yes) (fun b4 => (r_frz (r_2 s_modQ (r_dat (r_frz (r_2 s_fdivQ (r_dat (r_frz (r_2 s_mulQ (r_dat (r_frz (r_2 s_addQ (r_nameB (i := 2) rfl) (r_nameB (i := 1) rfl)))) (r_dat (r_frz (r_2 s_addQ (r_nameB (i := 0) rfl) (r_dat r_C))))))) (r_dat r_C)))) (r_nameB (i := 0) rfl)))) (fun _ _ => rfl) (fun _ => rfl))))) r_bnil)))) (fun _ _ => rfl) (fun _ => rfl))))) r_bnil))))))))) q
  | [], q => exact q.elim
  | _ :: _ :: _, q => exact q.elim
def F_half_of (rest1 : D) (n2 : D) : Out D := So.fin ((oIf ((o2 qEq (o2 qMod (Out.ok rest1) (Out.ok (PyData.int 2))) (Out.ok (PyData.int 0))).bind dBool) (o2 qFdiv (Out.ok rest1) (Out.ok (PyData.int 2))) (o2 qFdiv (o2 qSub (o2 qAdd (Out.ok n2) (Out.ok rest1)) (Out.ok (PyData.int 1))) (Out.ok (PyData.int 2)))).so fun d => .rt d)
def A_half_of (a : List D) : Out D := match a with | [rest1, n2] => F_half_of rest1 n2 | _ => .bad
@[simp] theorem A_half_of_is (rest1 : D) (n2 : D) : A_half_of [rest1, n2] = F_half_of rest1 n2 := rfl
theorem ra_half_of : ∀ (a : List D) (c : Nat) (P : Rv → Nat → Prop) (R : Exc → Nat → Prop), (A_half_of a).post (fun d => P (.dat d) c) (R · c) → W_half_of (a.map .dat) c P R := by
  intro a c P R q
  match a, q with
  | [rest1, n2], q => exact rf_def rfl (s := [.rv (.dat rest1), .rv (.dat n2)]) rfl (fun Ex X hEx => (rs_ret (r_if (r_bool (r_2 s_eqQ (r_dat (r_frz (r_2 s_modQ (r_nameB (i := 0) rfl) (r_dat r_C)))) (r_dat r_C))) (r_frz (r_2 s_fdivQ (r_nameB (i := 0) rfl) (r_dat r_C))) (r_frz (r_2 s_fdivQ (r_dat (r_frz (r_2 s_subQ (r_dat (r_frz (r_2 s_addQ (r_nameB (i := 1) rfl) (r_nameB (i := 0) rfl)))) (r_dat r_C)))) (r_dat r_C)))))) q
  | [], q => exact q.elim
  | [_], q => exact q.elim
  | _ :: _ :: _ :: _, q => exact q.elim
def F_half_still_across (n1 : D) : Out D := So.fin (((oCons (Out.ok (PyData.str "things")) (oCons (Out.ok n1) (Out.ok ([] : List D)))).bind A_need_count).so fun _ => (So.seq (((o2 qEq (o2 qMod (Out.ok n1) (Out.ok (PyData.int 2))) (Out.ok (PyData.int 1))).bind dBool).so fun v => bcs v (((oCons (Out.ok (PyData.str "even")) (oCons (Out.ok n1) (Out.ok ([] : List D)))).bind (exc2 "NotKept" "promise" "witness")).so fun e => .er e) (.nx ())) fun (p2 : Unit) => ((oN dTuple (oCons (((oRange1 (oCons (Out.ok n1) (Out.ok ([] : List D)))).bind fun items => (compO tgName (fun b3 => (Out.ok true)) (fun b3 => (oN dTuple (oCons (((oRange1 (oCons (Out.ok n1) (Out.ok ([] : List D)))).bind fun items => (compO tgName (fun b4 => (Out.ok true)) (fun b4 => ((oCons (o2 qMod (o2 qAdd (Out.ok b3) (Out.ok b4)) (Out.ok n1)) (oCons (Out.ok n1) (Out.ok ([] : List D)))).bind A_half_of)) items).noer).bind fun ds => Out.ok (PyData.list ds)) (Out.ok ([] : List D))))) items).noer).bind fun ds => Out.ok (PyData.list ds)) (Out.ok ([] : List D)))).so fun d => .rt d)))
def A_half_still_across (a : List D) : Out D := match a with | [n1] => F_half_still_across n1 | _ => .bad
@[simp] theorem A_half_still_across_is (n1 : D) : A_half_still_across [n1] = F_half_still_across n1 := rfl
theorem ra_half_still_across : ∀ (a : List D) (c : Nat) (P : Rv → Nat → Prop) (R : Exc → Nat → Prop), (A_half_still_across a).post (fun d => P (.dat d) c) (R · c) → W_half_still_across (a.map .dat) c P R := by
  intro a c P R q
  match a, q with
  | [n1], q => exact rf_def rfl (s := [.rv (.dat n1), .no, .no]) rfl (fun Ex X hEx => (rs_drop (r_call ra_need_count (r_dcons r_C (r_dcons (r_name (i := 0) rfl) r_dnil)) (fun e c h => hEx e c _ h)) (fun _ => (rs_seq (rs_if (J := ⟨(fun (p_ : Unit) (s_ : List Sl) => s_ = [.rv (.dat n1), .no, .no]), _⟩) (r_bool (r_2 s_eqQ (r_dat (r_frz (r_2 s_modQ (r_nameB (i := 0) rfl) (r_dat r_C)))) (r_dat r_C))) (rs_raise (r_dcons r_C (r_dcons (r_name (i := 0) rfl) r_dnil)) (fun e c h => hEx e c _ h) (exc2_F _ _ _)) (rs_next rfl)) (fun p2 s_ h_ => by subst h_; exact (rs_ret (r_frz (r_N s_tuple (r_bcons (r_dat (r_frz (r_lz (r_comp (sw := [.rv (.dat n1), .no, .no]) (sb := fun b3 => [.rv (.dat n1), .no, .rv (.dat b3)]) (s2 := [.rv (.dat n1), .no, .no]) (by (try simp only [List.map_cons, List.map_nil]); repeat' first | exact plain_nil | refine plain_cons ?_ ?_ | exact True.intro | exact Subtype.property _) (r_range1 (r_bcons (r_nameB (i := 0) rfl) r_bnil)) (fun _ => rfl) rg_set' (fun b3 => r_yes) (fun b3 => (r_frz (r_N s_tuple (r_bcons (r_dat (r_frz (r_lz (r_comp (sw := [.rv (.dat n1), .no, .rv (.dat b3)]) (sb := fun b4 => [.rv (.dat n1), .rv (.dat b4), .rv (.dat b3)]) (s2 := [.rv (.dat n1), .no, .rv (.dat b3)]) (by (try simp only [List.map_cons, List.map_nil]); repeat' first | exact plain_nil | refine plain_cons ?_ ?_ | exact True.intro | exact Subtype.property _) (r_range1 (r_bcons (r_nameB (i := 0) rfl) r_bnil)) (fun _ => rfl) rg_set' (fun b4 => r_yes) (fun b4 => (r_call ra_half_of (r_dcons (r_frz (r_2 s_modQ (r_dat (r_frz (r_2 s_addQ (r_nameB (i := 2) rfl) (r_nameB (i := 1) rfl)))) (r_nameB (i := 0) rfl))) (r_dcons (r_name (i := 0) rfl) r_dnil)) (fun e c h => h.elim))) (fun _ _ => rfl) (fun _ => rfl))))) r_bnil)))) (fun _ _ => rfl) (fun _ => rfl))))) r_bnil))))))))) q
  | [], q => exact q.elim
  | _ :: _ :: _, q => exact q.elim
def F_once_in_1 (n1 : D) (t3 : D) (b9 : D) (l10 : FL) (b12 : D) : So FL FL :=
  ((((oCons (o2 qSub (Out.ok n1) (Out.ok (PyData.int 1))) (oCons ((oCons (o2 qAdd (Out.ok t3) (Out.ok b9)) (oCons (Out.ok b12) (Out.ok ([] : List D)))).bind A_thing_of) (oCons ((oCons (Out.ok b9) (oCons (o2 qAdd (Out.ok b12) (Out.ok (PyData.int 1))) (Out.ok ([] : List D)))).bind A_thing_of) (Out.ok ([] : List D))))).bind fun ds => Out.ok (PyData.tuple ds)).bind fun d => flApp l10 d).so fun (extra13 : FL) => (.nx extra13))
theorem r_B_once_in_1 (n1 : D) (t3 : D) (b9 : D)  {X : Exc → Nat → Prop} {Ex : Exc → Ga → Prop} (hEx : ∀ e c s, X e c → Ex e ⟨s, c⟩) (l10 : FL) (b12 : D) : RS (B_once_in_1 Ex) [.rv (.dat n1), .rv (.dat t3), .lst (FL.l l10), .rv (.dat b9), .rv (.dat b12)] (F_once_in_1 n1 t3 b9 l10 b12) ⟨(fun (p_ : FL) (s_ : List Sl) => ∃ j4_ : Pl, s_ = [.rv (.dat n1), .rv (.dat t3), .lst (FL.l p_), .rv (.dat b9), j4_.1]), (fun (p_ : FL) (s_ : List Sl) => ∃ j4_ : Pl, s_ = [.rv (.dat n1), .rv (.dat t3), .lst (FL.l p_), .rv (.dat b9), j4_.1])⟩ X := by
  unfold B_once_in_1 F_once_in_1
  exact (rs_appendF (i := 2) (v := l10) (g := fun (extra13 : FL) => [.rv (.dat n1), .rv (.dat t3), .lst (FL.l extra13), .rv (.dat b9), .rv (.dat b12)]) rfl rfl (r_tup (r_dcons (r_frz (r_2 s_subQ (r_nameB (i := 0) rfl) (r_dat r_C))) (r_dcons (r_call ra_thing_of (r_dcons (r_frz (r_2 s_addQ (r_nameB (i := 1) rfl) (r_nameB (i := 3) rfl))) (r_dcons (r_name (i := 4) rfl) r_dnil)) (fun e c h => hEx e c _ h)) (r_dcons (r_call ra_thing_of (r_dcons (r_name (i := 3) rfl) (r_dcons (r_frz (r_2 s_addQ (r_nameB (i := 4) rfl) (r_dat r_C))) r_dnil)) (fun e c h => hEx e c _ h)) r_dnil)))) (fun _ => rfl) (fun (extra13 : FL) => (rs_next ⟨⟨_, by first | exact True.intro | exact Subtype.property _⟩, rfl⟩)))
def F_once_in_0 (n1 : D) (t3 : D) (l6 : FL) (b9 : D) : So FL FL :=
  (So.seq ((oRange1 (oCons (Out.ok (PyData.int 3)) (Out.ok ([] : List D)))).so fun items => forO (fun l10 d => (tgName d).noer.so fun b12 => F_once_in_1 n1 t3 b9 l10 b12) items l6) fun (p14 : FL) => (.nx p14))
theorem r_B_once_in_0 (n1 : D) (t3 : D) {j8 : Pl} {X : Exc → Nat → Prop} {Ex : Exc → Ga → Prop} (hEx : ∀ e c s, X e c → Ex e ⟨s, c⟩) (l6 : FL) (b9 : D) : RS (B_once_in_0 Ex) [.rv (.dat n1), .rv (.dat t3), .lst (FL.l l6), .rv (.dat b9), j8.1] (F_once_in_0 n1 t3 l6 b9) ⟨(fun (p_ : FL) (s_ : List Sl) => ∃ j3_ : Pl, ∃ j4_ : Pl, s_ = [.rv (.dat n1), .rv (.dat t3), .lst (FL.l p_), j3_.1, j4_.1]), (fun (p_ : FL) (s_ : List Sl) => ∃ j3_ : Pl, ∃ j4_ : Pl, s_ = [.rv (.dat n1), .rv (.dat t3), .lst (FL.l p_), j3_.1, j4_.1])⟩ X := by
  unfold B_once_in_0 F_once_in_0
  exact (rs_seq (rs_for (N := (fun (p_ : FL) (s_ : List Sl) => ∃ j4_ : Pl, s_ = [.rv (.dat n1), .rv (.dat t3), .lst (FL.l p_), .rv (.dat b9), j4_.1])) (r_range1 (r_bcons (r_dat r_C) r_bnil)) ⟨⟨_, by first | exact True.intro | exact Subtype.property _⟩, rfl⟩ (fun l10 s_ h_ => by obtain ⟨j11, rfl⟩ := h_; exact rt_of rg_set' (fun b12 => (r_B_once_in_1 n1 t3 b9 hEx l10 b12))) rfl) (fun p14 s_ h_ => by obtain ⟨j15, rfl⟩ := h_; exact (rs_next ⟨⟨_, by first | exact True.intro | exact Subtype.property _⟩, ⟨_, by first | exact True.intro | exact Subtype.property _⟩, rfl⟩)))
def F_once_in (n1 : D) : Out D := So.fin (So.seq (((o2 qLtA (Out.ok n1) (Out.ok (PyData.int 2))).bind dBool).so fun v => bcs v (((Out.ok ([] : List D)).bind fun ds => Out.ok (PyData.tuple ds)).so fun d => .rt d) (.nx ())) fun (p2 : Unit) => ((o2 qFdiv (Out.ok n1) (Out.ok (PyData.int 6))).so fun (t3 : D) => (So.seq (((o2 qEq (o2 qMod (Out.ok n1) (Out.ok (PyData.int 6))) (Out.ok (PyData.int 3))).bind dBool).so fun v => bcs v (((oCons (o2 qAdd ((oCons ((oListRg1 (o2 qAdd (o2 qMul (Out.ok (PyData.int 2)) (Out.ok t3)) (Out.ok (PyData.int 1)))).bind fun ds => Out.ok (PyData.list ds)) (Out.ok ([] : List D))).bind A_columns) ((oCons ((oCons (o2 qAdd (o2 qMul (Out.ok (PyData.int 2)) (Out.ok t3)) (Out.ok (PyData.int 1))) (Out.ok ([] : List D))).bind A_still_across) (Out.ok ([] : List D))).bind A_crossed)) (Out.ok ([] : List D))).bind A_threes_in).so fun d => .rt d) (.nx ())) fun (p4 : Unit) => ((oFL (Out.ok ([] : List D))).so fun (extra5 : FL) => (So.seq ((oRange1 (oCons (Out.ok t3) (Out.ok ([] : List D)))).so fun items => forO (fun l6 d => (tgName d).noer.so fun b9 => F_once_in_0 n1 t3 l6 b9) items extra5) fun (p16 : FL) => (((oCons (o2 qAdd (o2 qAdd ((oCons ((oListRg1 (Out.ok t3)).bind fun ds => Out.ok (PyData.list ds)) (Out.ok ([] : List D))).bind A_columns) (Out.ok (PyData.list (FL.l p16)))) ((oCons ((oCons (o2 qMul (Out.ok (PyData.int 2)) (Out.ok t3)) (Out.ok ([] : List D))).bind A_half_still_across) (Out.ok ([] : List D))).bind A_crossed)) (Out.ok ([] : List D))).bind A_threes_in).so fun d => .rt d))))))
def A_once_in (a : List D) : Out D := match a with | [n1] => F_once_in n1 | _ => .bad
@[simp] theorem A_once_in_is (n1 : D) : A_once_in [n1] = F_once_in n1 := rfl
theorem ra_once_in : ∀ (a : List D) (c : Nat) (P : Rv → Nat → Prop) (R : Exc → Nat → Prop), (A_once_in a).post (fun d => P (.dat d) c) (R · c) → W_once_in (a.map .dat) c P R := by
  intro a c P R q
  match a, q with
  | [n1], q => exact rf_def rfl (s := [.rv (.dat n1), .no, .no, .no, .no]) rfl (fun Ex X hEx => (rs_seq (rs_if (J := ⟨(fun (p_ : Unit) (s_ : List Sl) => s_ = [.rv (.dat n1), .no, .no, .no, .no]), _⟩) (r_bool (r_2 s_ltQ (r_nameB (i := 0) rfl) (r_dat r_C))) (rs_ret (r_tup r_dnil)) (rs_next rfl)) (fun p2 s_ h_ => by subst h_; exact (rs_set (f := fun (t3 : D) => [.rv (.dat n1), .rv (.dat t3), .no, .no, .no])  (r_frz (r_2 s_fdivQ (r_nameB (i := 0) rfl) (r_dat r_C))) (fun _ => rfl) (fun (t3 : D) => (rs_seq (rs_if (J := ⟨(fun (p_ : Unit) (s_ : List Sl) => s_ = [.rv (.dat n1), .rv (.dat t3), .no, .no, .no]), _⟩) (r_bool (r_2 s_eqQ (r_dat (r_frz (r_2 s_modQ (r_nameB (i := 0) rfl) (r_dat r_C)))) (r_dat r_C))) (rs_ret (r_call ra_threes_in (r_dcons (r_frz (r_2 s_addQ (r_dat (r_call ra_columns (r_dcons (r_frz (r_lz (r_listRg1 (r_dat (r_frz (r_2 s_addQ (r_dat (r_frz (r_2 s_mulQ (r_dat r_C) (r_nameB (i := 1) rfl)))) (r_dat r_C))))))) r_dnil) (fun e c h => hEx e c _ h))) (r_dat (r_call ra_crossed (r_dcons (r_call ra_still_across (r_dcons (r_frz (r_2 s_addQ (r_dat (r_frz (r_2 s_mulQ (r_dat r_C) (r_nameB (i := 1) rfl)))) (r_dat r_C))) r_dnil) (fun e c h => hEx e c _ h)) r_dnil) (fun e c h => hEx e c _ h))))) r_dnil) (fun e c h => hEx e c _ h))) (rs_next rfl)) (fun p4 s_ h_ => by subst h_; exact (rs_setF (f := fun (extra5 : FL) => [.rv (.dat n1), .rv (.dat t3), .lst (FL.l extra5), .no, .no]) KdFL (r_FL (r_lst r_dnil)) (fun _ => rfl) (fun (extra5 : FL) => (rs_seq (rs_for (N := (fun (p_ : FL) (s_ : List Sl) => ∃ j3_ : Pl, ∃ j4_ : Pl, s_ = [.rv (.dat n1), .rv (.dat t3), .lst (FL.l p_), j3_.1, j4_.1])) (r_range1 (r_bcons (r_nameB (i := 1) rfl) r_bnil)) ⟨⟨_, by first | exact True.intro | exact Subtype.property _⟩, ⟨_, by first | exact True.intro | exact Subtype.property _⟩, rfl⟩ (fun l6 s_ h_ => by obtain ⟨j7, j8, rfl⟩ := h_; exact rt_of rg_set' (fun b9 => (r_B_once_in_0 n1 t3 hEx l6 b9))) rfl) (fun p16 s_ h_ => by obtain ⟨j17, j18, rfl⟩ := h_; exact (rs_ret (r_call ra_threes_in (r_dcons (r_frz (r_2 s_addQ (r_dat (r_frz (r_2 s_addQ (r_dat (r_call ra_columns (r_dcons (r_frz (r_lz (r_listRg1 (r_nameB (i := 1) rfl)))) r_dnil) (fun e c h => hEx e c _ h))) (r_nameBL (i := 2) rfl)))) (r_dat (r_call ra_crossed (r_dcons (r_call ra_half_still_across (r_dcons (r_frz (r_2 s_mulQ (r_dat r_C) (r_nameB (i := 1) rfl))) r_dnil) (fun e c h => hEx e c _ h)) r_dnil) (fun e c h => hEx e c _ h))))) r_dnil) (fun e c h => hEx e c _ h)))))))))))))) q
  | [], q => exact q.elim
  | _ :: _ :: _, q => exact q.elim
def F_nexts (t1 : D) : Out D := So.fin ((o2 qAdd (o2 qAdd ((oCons (Out.ok (PyData.int 0)) (Out.ok ([] : List D))).bind fun ds => Out.ok (PyData.list ds)) (((oRange2 (oCons (Out.ok (PyData.int 1)) (oCons (o2 qMul (Out.ok (PyData.int 2)) (Out.ok t1)) (Out.ok ([] : List D))))).bind fun items => (compO tgName (fun b2 => (Out.ok true)) (fun b2 => (o2 qAdd (Out.ok b2) (Out.ok (PyData.int 1)))) items).noer).bind fun ds => Out.ok (PyData.list ds))) (oIf ((o2 qGtA (Out.ok t1) (Out.ok (PyData.int 0))).bind dBool) ((oCons (Out.ok (PyData.int 1)) (Out.ok ([] : List D))).bind fun ds => Out.ok (PyData.list ds)) ((Out.ok ([] : List D)).bind fun ds => Out.ok (PyData.list ds)))).so fun d => .rt d)
def A_nexts (a : List D) : Out D := match a with | [t1] => F_nexts t1 | _ => .bad
@[simp] theorem A_nexts_is (t1 : D) : A_nexts [t1] = F_nexts t1 := rfl
theorem ra_nexts : ∀ (a : List D) (c : Nat) (P : Rv → Nat → Prop) (R : Exc → Nat → Prop), (A_nexts a).post (fun d => P (.dat d) c) (R · c) → W_nexts (a.map .dat) c P R := by
  intro a c P R q
  match a, q with
  | [t1], q => exact rf_def rfl (s := [.rv (.dat t1), .no]) rfl (fun Ex X hEx => (rs_ret (r_frz (r_2 s_addQ (r_dat (r_frz (r_2 s_addQ (r_dat (r_frz (r_lz (r_lst (r_dcons r_C r_dnil))))) (r_dat (r_frz (r_lz (r_comp (sw := [.rv (.dat t1), .no]) (sb := fun b2 => [.rv (.dat t1), .rv (.dat b2)]) (s2 := [.rv (.dat t1), .no]) (by (try simp only [List.map_cons, List.map_nil]); repeat' first | exact plain_nil | refine plain_cons ?_ ?_ | exact True.intro | exact Subtype.property _) (r_range2 (r_bcons (r_dat r_C) (r_bcons (r_dat (r_frz (r_2 s_mulQ (r_dat r_C) (r_nameB (i := 0) rfl)))) r_bnil))) (fun _ => rfl) rg_set' (fun b2 => r_yes) (fun b2 => (r_frz (r_2 s_addQ (r_nameB (i := 1) rfl) (r_dat r_C)))) (fun _ _ => rfl) (fun _ => rfl)))))))) (r_dat (r_if (r_bool (r_2 s_gtQ (r_nameB (i := 0) rfl) (r_dat r_C))) (r_frz (r_lz (r_lst (r_dcons r_C r_dnil)))) (r_frz (r_lz (r_lst r_dnil))))))))) q
  | [], q => exact q.elim
  | _ :: _ :: _, q => exact q.elim
def F_five_in_1 (b4 : (D × (D × (D × (D × Unit))))) (l16 : FL) (b20 : D) : So FL FL :=
  ((o2 qIx (Out.ok b4.2.1) (Out.ok b20)).so fun (w21 : D) => (oM "list" dIndexI (Out.ok b4.2.1) (oCons (Out.ok b20) (Out.ok ([] : List D)))).so fun (last22 : D) => ((((oCons ((oCons (Out.ok b4.2.2.1) (oCons ((oCons (Out.ok b20) (oCons (Out.ok (PyData.int 0)) (Out.ok ([] : List D)))).bind A_thing_of) (oCons ((oCons (Out.ok b20) (oCons (Out.ok (PyData.int 1)) (Out.ok ([] : List D)))).bind A_thing_of) (Out.ok ([] : List D))))).bind fun ds => Out.ok (PyData.tuple ds)) (oCons ((oCons (Out.ok b4.2.2.1) (oCons ((oCons (Out.ok b20) (oCons (Out.ok (PyData.int 2)) (Out.ok ([] : List D)))).bind A_thing_of) (oCons ((oCons (Out.ok w21) (oCons (Out.ok (PyData.int 0)) (Out.ok ([] : List D)))).bind A_thing_of) (Out.ok ([] : List D))))).bind fun ds => Out.ok (PyData.tuple ds)) (Out.ok ([] : List D)))).bind fun ds => Out.ok (PyData.list ds)).bind fun d => flExtQ l16 d).so fun (found23 : FL) => ((((oCons ((oCons (Out.ok b4.2.2.1) (oCons ((oCons (Out.ok w21) (oCons (Out.ok (PyData.int 1)) (Out.ok ([] : List D)))).bind A_thing_of) (oCons ((oCons (Out.ok w21) (oCons (Out.ok (PyData.int 2)) (Out.ok ([] : List D)))).bind A_thing_of) (Out.ok ([] : List D))))).bind fun ds => Out.ok (PyData.tuple ds)) (oCons ((oCons (Out.ok b4.2.2.2.1) (oCons ((oCons (Out.ok b20) (oCons (Out.ok (PyData.int 1)) (Out.ok ([] : List D)))).bind A_thing_of) (oCons ((oCons (Out.ok b20) (oCons (Out.ok (PyData.int 2)) (Out.ok ([] : List D)))).bind A_thing_of) (Out.ok ([] : List D))))).bind fun ds => Out.ok (PyData.tuple ds)) (Out.ok ([] : List D)))).bind fun ds => Out.ok (PyData.list ds)).bind fun d => flExtQ found23 d).so fun (found24 : FL) => ((((oCons ((oCons (Out.ok b4.2.2.2.1) (oCons ((oCons (Out.ok w21) (oCons (Out.ok (PyData.int 0)) (Out.ok ([] : List D)))).bind A_thing_of) (oCons ((oCons (Out.ok w21) (oCons (Out.ok (PyData.int 1)) (Out.ok ([] : List D)))).bind A_thing_of) (Out.ok ([] : List D))))).bind fun ds => Out.ok (PyData.tuple ds)) (oCons ((oCons (Out.ok b4.2.2.2.1) (oCons ((oCons (Out.ok b20) (oCons (Out.ok (PyData.int 0)) (Out.ok ([] : List D)))).bind A_thing_of) (oCons ((oCons (Out.ok last22) (oCons (Out.ok (PyData.int 2)) (Out.ok ([] : List D)))).bind A_thing_of) (Out.ok ([] : List D))))).bind fun ds => Out.ok (PyData.tuple ds)) (Out.ok ([] : List D)))).bind fun ds => Out.ok (PyData.list ds)).bind fun d => flExtQ found24 d).so fun (found25 : FL) => (.nx found25)))))
theorem r_B_five_in_1 (n1 : D) (t3 : D) (b4 : (D × (D × (D × (D × Unit))))) {j15 : Pl} {j18 : Pl} {j19 : Pl} {X : Exc → Nat → Prop} {Ex : Exc → Ga → Prop} (hEx : ∀ e c s, X e c → Ex e ⟨s, c⟩) (l16 : FL) (b20 : D) : RS (B_five_in_1 Ex) [.rv (.dat n1), .rv (.dat t3), .rv (.dat b4.1), .rv (.dat b4.2.1), .rv (.dat b4.2.2.1), .rv (.dat b4.2.2.2.1), .lst (FL.l l16), .rv (.dat b20), j15.1, j18.1, j19.1] (F_five_in_1 b4 l16 b20) ⟨(fun (p_ : FL) (s_ : List Sl) => ∃ j7_ : Pl, ∃ j9_ : Pl, ∃ j10_ : Pl, s_ = [.rv (.dat n1), .rv (.dat t3), .rv (.dat b4.1), .rv (.dat b4.2.1), .rv (.dat b4.2.2.1), .rv (.dat b4.2.2.2.1), .lst (FL.l p_), j7_.1, j15.1, j9_.1, j10_.1]), (fun (p_ : FL) (s_ : List Sl) => ∃ j7_ : Pl, ∃ j9_ : Pl, ∃ j10_ : Pl, s_ = [.rv (.dat n1), .rv (.dat t3), .rv (.dat b4.1), .rv (.dat b4.2.1), .rv (.dat b4.2.2.1), .rv (.dat b4.2.2.2.1), .lst (FL.l p_), j7_.1, j15.1, j9_.1, j10_.1])⟩ X := by
  unfold B_five_in_1 F_five_in_1
  exact (rs_par (f := fun (w21 : D) (last22 : D) => [.rv (.dat n1), .rv (.dat t3), .rv (.dat b4.1), .rv (.dat b4.2.1), .rv (.dat b4.2.2.1), .rv (.dat b4.2.2.2.1), .lst (FL.l l16), .rv (.dat b20), j15.1, .rv (.dat w21), .rv (.dat last22)]) KdV KdV (r_zv (r_frz (r_2 s_ixQ (r_nameB (i := 3) rfl) (r_nameB (i := 7) rfl)))) (r_zv (r_frz (r_M s_indexI (r_nameB (i := 3) rfl) (r_bcons (r_nameB (i := 7) rfl) r_bnil)))) (fun _ _ => rfl) (fun (w21 : D) (last22 : D) => (rs_extendF (i := 6) (v := l16) (g := fun (found23 : FL) => [.rv (.dat n1), .rv (.dat t3), .rv (.dat b4.1), .rv (.dat b4.2.1), .rv (.dat b4.2.2.1), .rv (.dat b4.2.2.2.1), .lst (FL.l found23), .rv (.dat b20), j15.1, .rv (.dat w21), .rv (.dat last22)]) rfl rfl (r_dat (r_frz (r_lz (r_lst (r_dcons (r_tup (r_dcons (r_name (i := 4) rfl) (r_dcons (r_call ra_thing_of (r_dcons (r_name (i := 7) rfl) (r_dcons r_C r_dnil)) (fun e c h => hEx e c _ h)) (r_dcons (r_call ra_thing_of (r_dcons (r_name (i := 7) rfl) (r_dcons r_C r_dnil)) (fun e c h => hEx e c _ h)) r_dnil)))) (r_dcons (r_tup (r_dcons (r_name (i := 4) rfl) (r_dcons (r_call ra_thing_of (r_dcons (r_name (i := 7) rfl) (r_dcons r_C r_dnil)) (fun e c h => hEx e c _ h)) (r_dcons (r_call ra_thing_of (r_dcons (r_name (i := 9) rfl) (r_dcons r_C r_dnil)) (fun e c h => hEx e c _ h)) r_dnil)))) r_dnil)))))) (fun _ => rfl) (fun (found23 : FL) => (rs_extendF (i := 6) (v := found23) (g := fun (found24 : FL) => [.rv (.dat n1), .rv (.dat t3), .rv (.dat b4.1), .rv (.dat b4.2.1), .rv (.dat b4.2.2.1), .rv (.dat b4.2.2.2.1), .lst (FL.l found24), .rv (.dat b20), j15.1, .rv (.dat w21), .rv (.dat last22)]) rfl rfl (r_dat (r_frz (r_lz (r_lst (r_dcons (r_tup (r_dcons (r_name (i := 4) rfl) (r_dcons (r_call ra_thing_of (r_dcons (r_name (i := 9) rfl) (r_dcons r_C r_dnil)) (fun e c h => hEx e c _ h)) (r_dcons (r_call ra_thing_of (r_dcons (r_name (i := 9) rfl) (r_dcons r_C r_dnil)) (fun e c h => hEx e c _ h)) r_dnil)))) (r_dcons (r_tup (r_dcons (r_name (i := 5) rfl) (r_dcons (r_call ra_thing_of (r_dcons (r_name (i := 7) rfl) (r_dcons r_C r_dnil)) (fun e c h => hEx e c _ h)) (r_dcons (r_call ra_thing_of (r_dcons (r_name (i := 7) rfl) (r_dcons r_C r_dnil)) (fun e c h => hEx e c _ h)) r_dnil)))) r_dnil)))))) (fun _ => rfl) (fun (found24 : FL) => (rs_extendF (i := 6) (v := found24) (g := fun (found25 : FL) => [.rv (.dat n1), .rv (.dat t3), .rv (.dat b4.1), .rv (.dat b4.2.1), .rv (.dat b4.2.2.1), .rv (.dat b4.2.2.2.1), .lst (FL.l found25), .rv (.dat b20), j15.1, .rv (.dat w21), .rv (.dat last22)]) rfl rfl (r_dat (r_frz (r_lz (r_lst (r_dcons (r_tup (r_dcons (r_name (i := 5) rfl) (r_dcons (r_call ra_thing_of (r_dcons (r_name (i := 9) rfl) (r_dcons r_C r_dnil)) (fun e c h => hEx e c _ h)) (r_dcons (r_call ra_thing_of (r_dcons (r_name (i := 9) rfl) (r_dcons r_C r_dnil)) (fun e c h => hEx e c _ h)) r_dnil)))) (r_dcons (r_tup (r_dcons (r_name (i := 5) rfl) (r_dcons (r_call ra_thing_of (r_dcons (r_name (i := 7) rfl) (r_dcons r_C r_dnil)) (fun e c h => hEx e c _ h)) (r_dcons (r_call ra_thing_of (r_dcons (r_name (i := 10) rfl) (r_dcons r_C r_dnil)) (fun e c h => hEx e c _ h)) r_dnil)))) r_dnil)))))) (fun _ => rfl) (fun (found25 : FL) => (rs_next ⟨⟨_, by first | exact True.intro | exact Subtype.property _⟩, ⟨_, by first | exact True.intro | exact Subtype.property _⟩, ⟨_, by first | exact True.intro | exact Subtype.property _⟩, rfl⟩)))))))))
def F_five_in_0 (b4 : (D × (D × (D × (D × Unit))))) (l6 : FL) (b9 : (D × (D × Unit))) : So FL FL :=
  ((((oCons ((oCons (Out.ok b9.1) (oCons (Out.ok (PyData.int 0)) (Out.ok ([] : List D)))).bind A_thing_of) (oCons ((oCons (Out.ok b9.2.1) (oCons (Out.ok (PyData.int 0)) (Out.ok ([] : List D)))).bind A_thing_of) (oCons ((oCons (o2 qIx (o2 qIx (Out.ok b4.1) (Out.ok b9.1)) (Out.ok b9.2.1)) (oCons (Out.ok (PyData.int 1)) (Out.ok ([] : List D)))).bind A_thing_of) (Out.ok ([] : List D))))).bind fun ds => Out.ok (PyData.tuple ds)).bind fun d => flApp l6 d).so fun (found10 : FL) => ((((oCons ((oCons (Out.ok b9.1) (oCons (Out.ok (PyData.int 1)) (Out.ok ([] : List D)))).bind A_thing_of) (oCons ((oCons (Out.ok b9.2.1) (oCons (Out.ok (PyData.int 1)) (Out.ok ([] : List D)))).bind A_thing_of) (oCons ((oCons (o2 qIx (o2 qIx (Out.ok b4.1) (Out.ok b9.1)) (Out.ok b9.2.1)) (oCons (Out.ok (PyData.int 2)) (Out.ok ([] : List D)))).bind A_thing_of) (Out.ok ([] : List D))))).bind fun ds => Out.ok (PyData.tuple ds)).bind fun d => flApp found10 d).so fun (found11 : FL) => ((((oCons ((oCons (Out.ok b9.1) (oCons (Out.ok (PyData.int 2)) (Out.ok ([] : List D)))).bind A_thing_of) (oCons ((oCons (Out.ok b9.2.1) (oCons (Out.ok (PyData.int 2)) (Out.ok ([] : List D)))).bind A_thing_of) (oCons ((oCons (o2 qIx (Out.ok b4.2.1) (o2 qIx (o2 qIx (Out.ok b4.1) (Out.ok b9.1)) (Out.ok b9.2.1))) (oCons (Out.ok (PyData.int 0)) (Out.ok ([] : List D)))).bind A_thing_of) (Out.ok ([] : List D))))).bind fun ds => Out.ok (PyData.tuple ds)).bind fun d => flApp found11 d).so fun (found12 : FL) => (.nx found12))))
theorem r_B_five_in_0 (n1 : D) (t3 : D) (b4 : (D × (D × (D × (D × Unit)))))  {X : Exc → Nat → Prop} {Ex : Exc → Ga → Prop} (hEx : ∀ e c s, X e c → Ex e ⟨s, c⟩) (l6 : FL) (b9 : (D × (D × Unit))) : RS (B_five_in_0 Ex) [.rv (.dat n1), .rv (.dat t3), .rv (.dat b4.1), .rv (.dat b4.2.1), .rv (.dat b4.2.2.1), .rv (.dat b4.2.2.2.1), .lst (FL.l l6), .rv (.dat b9.1), .rv (.dat b9.2.1), .no, .no] (F_five_in_0 b4 l6 b9) ⟨(fun (p_ : FL) (s_ : List Sl) => ∃ j7_ : Pl, ∃ j8_ : Pl, s_ = [.rv (.dat n1), .rv (.dat t3), .rv (.dat b4.1), .rv (.dat b4.2.1), .rv (.dat b4.2.2.1), .rv (.dat b4.2.2.2.1), .lst (FL.l p_), j7_.1, j8_.1, .no, .no]), (fun (p_ : FL) (s_ : List Sl) => ∃ j7_ : Pl, ∃ j8_ : Pl, s_ = [.rv (.dat n1), .rv (.dat t3), .rv (.dat b4.1), .rv (.dat b4.2.1), .rv (.dat b4.2.2.1), .rv (.dat b4.2.2.2.1), .lst (FL.l p_), j7_.1, j8_.1, .no, .no])⟩ X := by
  unfold B_five_in_0 F_five_in_0
  exact (rs_appendF (i := 6) (v := l6) (g := fun (found10 : FL) => [.rv (.dat n1), .rv (.dat t3), .rv (.dat b4.1), .rv (.dat b4.2.1), .rv (.dat b4.2.2.1), .rv (.dat b4.2.2.2.1), .lst (FL.l found10), .rv (.dat b9.1), .rv (.dat b9.2.1), .no, .no]) rfl rfl (r_tup (r_dcons (r_call ra_thing_of (r_dcons (r_name (i := 7) rfl) (r_dcons r_C r_dnil)) (fun e c h => hEx e c _ h)) (r_dcons (r_call ra_thing_of (r_dcons (r_name (i := 8) rfl) (r_dcons r_C r_dnil)) (fun e c h => hEx e c _ h)) (r_dcons (r_call ra_thing_of (r_dcons (r_frz (r_2 s_ixQ (r_dat (r_frz (r_2 s_ixQ (r_nameB (i := 2) rfl) (r_nameB (i := 7) rfl)))) (r_nameB (i := 8) rfl))) (r_dcons r_C r_dnil)) (fun e c h => hEx e c _ h)) r_dnil)))) (fun _ => rfl) (fun (found10 : FL) => (rs_appendF (i := 6) (v := found10) (g := fun (found11 : FL) => [.rv (.dat n1), .rv (.dat t3), .rv (.dat b4.1), .rv (.dat b4.2.1), .rv (.dat b4.2.2.1), .rv (.dat b4.2.2.2.1), .lst (FL.l found11), .rv (.dat b9.1), .rv (.dat b9.2.1), .no, .no]) rfl rfl (r_tup (r_dcons (r_call ra_thing_of (r_dcons (r_name (i := 7) rfl) (r_dcons r_C r_dnil)) (fun e c h => hEx e c _ h)) (r_dcons (r_call ra_thing_of (r_dcons (r_name (i := 8) rfl) (r_dcons r_C r_dnil)) (fun e c h => hEx e c _ h)) (r_dcons (r_call ra_thing_of (r_dcons (r_frz (r_2 s_ixQ (r_dat (r_frz (r_2 s_ixQ (r_nameB (i := 2) rfl) (r_nameB (i := 7) rfl)))) (r_nameB (i := 8) rfl))) (r_dcons r_C r_dnil)) (fun e c h => hEx e c _ h)) r_dnil)))) (fun _ => rfl) (fun (found11 : FL) => (rs_appendF (i := 6) (v := found11) (g := fun (found12 : FL) => [.rv (.dat n1), .rv (.dat t3), .rv (.dat b4.1), .rv (.dat b4.2.1), .rv (.dat b4.2.2.1), .rv (.dat b4.2.2.2.1), .lst (FL.l found12), .rv (.dat b9.1), .rv (.dat b9.2.1), .no, .no]) rfl rfl (r_tup (r_dcons (r_call ra_thing_of (r_dcons (r_name (i := 7) rfl) (r_dcons r_C r_dnil)) (fun e c h => hEx e c _ h)) (r_dcons (r_call ra_thing_of (r_dcons (r_name (i := 8) rfl) (r_dcons r_C r_dnil)) (fun e c h => hEx e c _ h)) (r_dcons (r_call ra_thing_of (r_dcons (r_frz (r_2 s_ixQ (r_nameB (i := 3) rfl) (r_dat (r_frz (r_2 s_ixQ (r_dat (r_frz (r_2 s_ixQ (r_nameB (i := 2) rfl) (r_nameB (i := 7) rfl)))) (r_nameB (i := 8) rfl)))))) (r_dcons r_C r_dnil)) (fun e c h => hEx e c _ h)) r_dnil)))) (fun _ => rfl) (fun (found12 : FL) => (rs_next ⟨⟨_, by first | exact True.intro | exact Subtype.property _⟩, ⟨_, by first | exact True.intro | exact Subtype.property _⟩, rfl⟩)))))))
def F_five_in (n1 : D) : Out D := So.fin (So.seq (((o2 qEq (Out.ok n1) (Out.ok (PyData.int 5))).bind dBool).so fun v => bcs v (((oCons ((oCons (Out.ok (PyData.int 0)) (oCons (Out.ok (PyData.int 1)) (oCons (Out.ok (PyData.int 2)) (oCons (Out.ok (PyData.int 3)) (oCons (Out.ok (PyData.int 4)) (Out.ok ([] : List D))))))).bind fun ds => Out.ok (PyData.tuple ds)) (oCons ((Out.ok ([] : List D)).bind fun ds => Out.ok (PyData.tuple ds)) (Out.ok ([] : List D)))).bind fun ds => Out.ok (PyData.tuple ds)).so fun d => .rt d) (.nx ())) fun (p2 : Unit) => ((o2 qFdiv (Out.ok n1) (Out.ok (PyData.int 6))).so fun (t3 : D) => ((((oCons ((oCons (o2 qAdd (o2 qMul (Out.ok (PyData.int 2)) (Out.ok t3)) (Out.ok (PyData.int 1))) (Out.ok ([] : List D))).bind A_still_across) (oCons ((oCons (Out.ok t3) (Out.ok ([] : List D))).bind A_nexts) (oCons (o2 qSub (Out.ok n1) (Out.ok (PyData.int 2))) (oCons (o2 qSub (Out.ok n1) (Out.ok (PyData.int 1))) (Out.ok ([] : List D)))))).bind fun ds => Out.ok (PyData.tuple ds)).bind fun d => ((tgTup 4 (tgCons tgName (tgCons tgName (tgCons tgName (tgCons tgName tgNil))))) d).noer).so fun (b4 : (D × (D × (D × (D × Unit))))) => ((oFL (Out.ok ([] : List D))).so fun (found5 : FL) => (So.seq ((oItemsA ((oCons (o2 qAdd (o2 qMul (Out.ok (PyData.int 2)) (Out.ok t3)) (Out.ok (PyData.int 1))) (Out.ok ([] : List D))).bind A_all_pairs)).so fun items => forO (fun l6 d => ((tgTup 2 (tgCons tgName (tgCons tgName tgNil))) d).noer.so fun b9 => F_five_in_0 b4 l6 b9) items found5) fun (p13 : FL) => (So.seq ((oRange3 (oCons (Out.ok (PyData.int 1)) (oCons (o2 qMul (Out.ok (PyData.int 2)) (Out.ok t3)) (oCons (Out.ok (PyData.int 2)) (Out.ok ([] : List D)))))).so fun items => forO (fun l16 d => (tgName d).noer.so fun b20 => F_five_in_1 b4 l16 b20) items p13) fun (p26 : FL) => (((oCons ((oCons (Out.ok (PyData.int 0)) (oCons (Out.ok (PyData.int 1)) (oCons (Out.ok (PyData.int 2)) (oCons (Out.ok b4.2.2.1) (oCons (Out.ok b4.2.2.2.1) (Out.ok ([] : List D))))))).bind fun ds => Out.ok (PyData.tuple ds)) (oCons ((oCons (Out.ok (PyData.list (FL.l p26))) (Out.ok ([] : List D))).bind A_threes_in) (Out.ok ([] : List D)))).bind fun ds => Out.ok (PyData.tuple ds)).so fun d => .rt d)))))))
def A_five_in (a : List D) : Out D := match a with | [n1] => F_five_in n1 | _ => .bad
@[simp] theorem A_five_in_is (n1 : D) : A_five_in [n1] = F_five_in n1 := rfl
theorem ra_five_in : ∀ (a : List D) (c : Nat) (P : Rv → Nat → Prop) (R : Exc → Nat → Prop), (A_five_in a).post (fun d => P (.dat d) c) (R · c) → W_five_in (a.map .dat) c P R := by
  intro a c P R q
  match a, q with
  | [n1], q => exact rf_def rfl (s := [.rv (.dat n1), .no, .no, .no, .no, .no, .no, .no, .no, .no, .no]) rfl (fun Ex X hEx => (rs_seq (rs_if (J := ⟨(fun (p_ : Unit) (s_ : List Sl) => s_ = [.rv (.dat n1), .no, .no, .no, .no, .no, .no, .no, .no, .no, .no]), _⟩) (r_bool (r_2 s_eqQ (r_nameB (i := 0) rfl) (r_dat r_C))) (rs_ret (r_tup (r_dcons (r_tup (r_dcons r_C (r_dcons r_C (r_dcons r_C (r_dcons r_C (r_dcons r_C r_dnil)))))) (r_dcons (r_tup r_dnil) r_dnil)))) (rs_next rfl)) (fun p2 s_ h_ => by subst h_; exact (rs_set (f := fun (t3 : D) => [.rv (.dat n1), .rv (.dat t3), .no, .no, .no, .no, .no, .no, .no, .no, .no])  (r_frz (r_2 s_fdivQ (r_nameB (i := 0) rfl) (r_dat r_C))) (fun _ => rfl) (fun (t3 : D) => (rs_asg (r_tup (r_dcons (r_call ra_still_across (r_dcons (r_frz (r_2 s_addQ (r_dat (r_frz (r_2 s_mulQ (r_dat r_C) (r_nameB (i := 1) rfl)))) (r_dat r_C))) r_dnil) (fun e c h => hEx e c _ h)) (r_dcons (r_call ra_nexts (r_dcons (r_name (i := 1) rfl) r_dnil) (fun e c h => hEx e c _ h)) (r_dcons (r_frz (r_2 s_subQ (r_nameB (i := 0) rfl) (r_dat r_C))) (r_dcons (r_frz (r_2 s_subQ (r_nameB (i := 0) rfl) (r_dat r_C))) r_dnil))))) (rg_tup (rg_cons rg_set' (fun _ => (rg_cons rg_set' (fun _ => (rg_cons rg_set' (fun _ => (rg_cons rg_set' (fun _ => rg_nil))))))))) (fun (b4 : (D × (D × (D × (D × Unit))))) => (rs_setF (f := fun (found5 : FL) => [.rv (.dat n1), .rv (.dat t3), .rv (.dat b4.1), .rv (.dat b4.2.1), .rv (.dat b4.2.2.1), .rv (.dat b4.2.2.2.1), .lst (FL.l found5), .no, .no, .no, .no]) KdFL (r_FL (r_lst r_dnil)) (fun _ => rfl) (fun (found5 : FL) => (rs_seq (rs_for (N := (fun (p_ : FL) (s_ : List Sl) => ∃ j7_ : Pl, ∃ j8_ : Pl, s_ = [.rv (.dat n1), .rv (.dat t3), .rv (.dat b4.1), .rv (.dat b4.2.1), .rv (.dat b4.2.2.1), .rv (.dat b4.2.2.2.1), .lst (FL.l p_), j7_.1, j8_.1, .no, .no])) (r_itemsA (r_call ra_all_pairs (r_dcons (r_frz (r_2 s_addQ (r_dat (r_frz (r_2 s_mulQ (r_dat r_C) (r_nameB (i := 1) rfl)))) (r_dat r_C))) r_dnil) (fun e c h => hEx e c _ h))) ⟨⟨_, by first | exact True.intro | exact Subtype.property _⟩, ⟨_, by first | exact True.intro | exact Subtype.property _⟩, rfl⟩ (fun l6 s_ h_ => by obtain ⟨j7, j8, rfl⟩ := h_; exact rt_of (rg_tup (rg_cons rg_set' (fun _ => (rg_cons rg_set' (fun _ => rg_nil))))) (fun b9 => (r_B_five_in_0 n1 t3 b4 hEx l6 b9))) rfl) (fun p13 s_ h_ => by obtain ⟨j14, j15, rfl⟩ := h_; exact (rs_seq (rs_for (N := (fun (p_ : FL) (s_ : List Sl) => ∃ j7_ : Pl, ∃ j9_ : Pl, ∃ j10_ : Pl, s_ = [.rv (.dat n1), .rv (.dat t3), .rv (.dat b4.1), .rv (.dat b4.2.1), .rv (.dat b4.2.2.1), .rv (.dat b4.2.2.2.1), .lst (FL.l p_), j7_.1, j15.1, j9_.1, j10_.1])) (r_range3 (r_bcons (r_dat r_C) (r_bcons (r_dat (r_frz (r_2 s_mulQ (r_dat r_C) (r_nameB (i := 1) rfl)))) (r_bcons (r_dat r_C) r_bnil)))) ⟨⟨_, by first | exact True.intro | exact Subtype.property _⟩, ⟨_, by first | exact True.intro | exact Subtype.property _⟩, ⟨_, by first | exact True.intro | exact Subtype.property _⟩, rfl⟩ (fun l16 s_ h_ => by obtain ⟨j17, j18, j19, rfl⟩ := h_; exact rt_of rg_set' (fun b20 => (r_B_five_in_1 n1 t3 b4 hEx l16 b20))) rfl) (fun p26 s_ h_ => by obtain ⟨j27, j28, j29, rfl⟩ := h_; exact (rs_ret (r_tup (r_dcons (r_tup (r_dcons r_C (r_dcons r_C (r_dcons r_C (r_dcons (r_name (i := 4) rfl) (r_dcons (r_name (i := 5) rfl) r_dnil)))))) (r_dcons (r_call ra_threes_in (r_dcons (r_nameL (i := 6) (s1 := [.rv (.dat n1), .rv (.dat t3), .rv (.dat b4.1), .rv (.dat b4.2.1), .rv (.dat b4.2.2.1), .rv (.dat b4.2.2.2.1), .rv (.dat (PyData.list (FL.l p26))), j27.1, j15.1, j28.1, j29.1]) rfl rfl) r_dnil) (fun e c h => hEx e c _ h)) r_dnil))))))))))))))))) q
  | [], q => exact q.elim
  | _ :: _ :: _, q => exact q.elim
def F_most_in (n1 : D) : Out D := So.fin ((o2 qMod (Out.ok n1) (Out.ok (PyData.int 6))).so fun (rest2 : D) => (So.seq (((o2 dInA (Out.ok rest2) ((oCons (Out.ok (PyData.int 1)) (oCons (Out.ok (PyData.int 3)) (Out.ok ([] : List D)))).bind fun ds => Out.ok (PyData.tuple ds))).bind dBool).so fun v => bcs v (((oCons (Out.ok n1) (Out.ok ([] : List D))).bind A_once_in).so fun d => .rt d) (.nx ())) fun (p3 : Unit) => (So.seq (((o2 dInA (Out.ok rest2) ((oCons (Out.ok (PyData.int 0)) (oCons (Out.ok (PyData.int 2)) (Out.ok ([] : List D)))).bind fun ds => Out.ok (PyData.tuple ds))).bind dBool).so fun v => bcs v ((oN dTuple (oCons (((oItemsA ((oCons (o2 qAdd (Out.ok n1) (Out.ok (PyData.int 1))) (Out.ok ([] : List D))).bind A_once_in)).bind fun items => (compO tgName (fun b4 => ((o2 dNotInA (Out.ok n1) (Out.ok b4)).bind dBool)) (fun b4 => (Out.ok b4)) items).noer).bind fun ds => Out.ok (PyData.list ds)) (Out.ok ([] : List D)))).so fun d => .rt d) (.nx ())) fun (p5 : Unit) => ((((oCons (oIf ((o2 qEq (Out.ok rest2) (Out.ok (PyData.int 5))).bind dBool) (Out.ok n1) (o2 qAdd (Out.ok n1) (Out.ok (PyData.int 1)))) (Out.ok ([] : List D))).bind A_five_in).bind fun d => ((tgTup 2 (tgCons tgName (tgCons tgName tgNil))) d).noer).so fun (b6 : (D × (D × Unit))) => (So.seq (((o2 qEq (Out.ok rest2) (Out.ok (PyData.int 5))).bind dBool).so fun v => bcs v (((oCons (o2 qAdd (Out.ok b6.2.1) ((oCons ((oCons (o2 qIx (Out.ok b6.1) (Out.ok (PyData.int 0))) (oCons (o2 qIx (Out.ok b6.1) (Out.ok (PyData.int 1))) (oCons (o2 qIx (Out.ok b6.1) (Out.ok (PyData.int 2))) (Out.ok ([] : List D))))).bind fun ds => Out.ok (PyData.tuple ds)) (oCons ((oCons (o2 qIx (Out.ok b6.1) (Out.ok (PyData.int 0))) (oCons (o2 qIx (Out.ok b6.1) (Out.ok (PyData.int 3))) (oCons (o2 qIx (Out.ok b6.1) (Out.ok (PyData.int 4))) (Out.ok ([] : List D))))).bind fun ds => Out.ok (PyData.tuple ds)) (Out.ok ([] : List D)))).bind fun ds => Out.ok (PyData.tuple ds))) (Out.ok ([] : List D))).bind A_threes_in).so fun d => .rt d) (.nx ())) fun (p7 : Unit) => (((oItemsA (Out.ok b6.2.1)).bind fun items => (compO tgName (fun b8 => ((o2 dNotInA (Out.ok n1) (Out.ok b8)).bind dBool)) (fun b8 => (Out.ok b8)) items).noer).so fun (kept9 : List D) => (((oCons (o2 qAdd (Out.ok (PyData.list kept9)) ((oCons (oSl dSl (Out.ok b6.1) (Out.ok none) (oPart (Out.ok (PyData.int 3)))) (Out.ok ([] : List D))).bind fun ds => Out.ok (PyData.list ds))) (Out.ok ([] : List D))).bind A_threes_in).so fun d => .rt d)))))))
def A_most_in (a : List D) : Out D := match a with | [n1] => F_most_in n1 | _ => .bad
@[simp] theorem A_most_in_is (n1 : D) : A_most_in [n1] = F_most_in n1 := rfl
theorem ra_most_in : ∀ (a : List D) (c : Nat) (P : Rv → Nat → Prop) (R : Exc → Nat → Prop), (A_most_in a).post (fun d => P (.dat d) c) (R · c) → W_most_in (a.map .dat) c P R := by
  intro a c P R q
  match a, q with
  | [n1], q => exact rf_def rfl (s := [.rv (.dat n1), .no, .no, .no, .no, .no]) rfl (fun Ex X hEx => (rs_set (f := fun (rest2 : D) => [.rv (.dat n1), .rv (.dat rest2), .no, .no, .no, .no])  (r_frz (r_2 s_modQ (r_nameB (i := 0) rfl) (r_dat r_C))) (fun _ => rfl) (fun (rest2 : D) => (rs_seq (rs_if (J := ⟨(fun (p_ : Unit) (s_ : List Sl) => s_ = [.rv (.dat n1), .rv (.dat rest2), .no, .no, .no, .no]), _⟩) (r_bool (r_2 s_inA (r_nameB (i := 1) rfl) (r_dat (r_tup (r_dcons r_C (r_dcons r_C r_dnil)))))) (rs_ret (r_call ra_once_in (r_dcons (r_name (i := 0) rfl) r_dnil) (fun e c h => hEx e c _ h))) (rs_next rfl)) (fun p3 s_ h_ => by subst h_; exact (rs_seq (rs_if (J := ⟨(fun (p_ : Unit) (s_ : List Sl) => s_ = [.rv (.dat n1), .rv (.dat rest2), .no, .no, .no, .no]), _⟩) (r_bool (r_2 s_inA (r_nameB (i := 1) rfl) (r_dat (r_tup (r_dcons r_C (r_dcons r_C r_dnil)))))) (rs_ret (r_frz (r_N s_tuple (r_bcons (r_dat (r_frz (r_lz (r_comp (sw := [.rv (.dat n1), .rv (.dat rest2), .no, .no, .no, .no]) (sb := fun b4 => [.rv (.dat n1), .rv (.dat rest2), .rv (.dat b4), .no, .no, .no]) (s2 := [.rv (.dat n1), .rv (.dat rest2), .no, .no, .no, .no]) (by (try simp only [List.map_cons, List.map_nil]); repeat' first | exact plain_nil | refine plain_cons ?_ ?_ | exact True.intro | exact Subtype.property _) (r_itemsA (r_call ra_once_in (r_dcons (r_frz (r_2 s_addQ (r_nameB (i := 0) rfl) (r_dat r_C))) r_dnil) (fun e c h => hEx e c _ h))) (fun _ => rfl) rg_set' (fun b4 => (r_bool (r_2 s_notInA (r_nameB (i := 0) rfl) (r_nameB (i := 2) rfl)))) (fun b4 => (r_name (i := 2) rfl)) (fun _ _ => rfl) (fun _ => rfl))))) r_bnil)))) (rs_next rfl)) (fun p5 s_ h_ => by subst h_; exact (rs_asg (r_call ra_five_in (r_dcons (r_if (r_bool (r_2 s_eqQ (r_nameB (i := 1) rfl) (r_dat r_C))) (r_name (i := 0) rfl) (r_frz (r_2 s_addQ (r_nameB (i := 0) rfl) (r_dat r_C)))) r_dnil) (fun e c h => hEx e c _ h)) (rg_tup (rg_cons rg_set' (fun _ => (rg_cons rg_set' (fun _ => rg_nil))))) (fun (b6 : (D × (D × Unit))) => (rs_seq (rs_if (J := ⟨(fun (p_ : Unit) (s_ : List Sl) => s_ = [.rv (.dat n1), .rv (.dat rest2), .no, .rv (.dat b6.1), .rv (.dat b6.2.1), .no]), _⟩) (r_bool (r_2 s_eqQ (r_nameB (i := 1) rfl) (r_dat r_C))) (rs_ret (r_call ra_threes_in (r_dcons (r_frz (r_2 s_addQ (r_nameB (i := 4) rfl) (r_dat (r_tup (r_dcons (r_tup (r_dcons (r_frz (r_2 s_ixQ (r_nameB (i := 3) rfl) (r_dat r_C))) (r_dcons (r_frz (r_2 s_ixQ (r_nameB (i := 3) rfl) (r_dat r_C))) (r_dcons (r_frz (r_2 s_ixQ (r_nameB (i := 3) rfl) (r_dat r_C))) r_dnil)))) (r_dcons (r_tup (r_dcons (r_frz (r_2 s_ixQ (r_nameB (i := 3) rfl) (r_dat r_C))) (r_dcons (r_frz (r_2 s_ixQ (r_nameB (i := 3) rfl) (r_dat r_C))) (r_dcons (r_frz (r_2 s_ixQ (r_nameB (i := 3) rfl) (r_dat r_C))) r_dnil)))) r_dnil)))))) r_dnil) (fun e c h => hEx e c _ h))) (rs_next rfl)) (fun p7 s_ h_ => by subst h_; exact (rs_setL (f := fun (kept9 : List D) => [.rv (.dat n1), .rv (.dat rest2), .no, .rv (.dat b6.1), .rv (.dat b6.2.1), .lst kept9])  (r_comp (sw := [.rv (.dat n1), .rv (.dat rest2), .no, .rv (.dat b6.1), .rv (.dat b6.2.1), .no]) (sb := fun b8 => [.rv (.dat n1), .rv (.dat rest2), .rv (.dat b8), .rv (.dat b6.1), .rv (.dat b6.2.1), .no]) (s2 := [.rv (.dat n1), .rv (.dat rest2), .no, .rv (.dat b6.1), .rv (.dat b6.2.1), .no]) (by (try simp only [List.map_cons, List.map_nil]); repeat' first | exact plain_nil | refine plain_cons ?_ ?_ | exact True.intro | exact Subtype.property _) (r_itemsA (r_name (i := 4) rfl)) (fun _ => rfl) rg_set' (fun b8 => (r_bool (r_2 s_notInA (r_nameB (i := 0) rfl) (r_nameB (i := 2) rfl)))) (fun b8 => (r_name (i := 2) rfl)) (fun _ _ => rfl) (fun _ => rfl)) (fun _ => rfl) (fun (kept9 : List D) => rs_give (i := 5) (s1 := [.rv (.dat n1), .rv (.dat rest2), .no, .rv (.dat b6.1), .rv (.dat b6.2.1), .rv (.dat (PyData.list kept9))]) rfl rfl (rs_ret (r_call ra_threes_in (r_dcons (r_frz (r_2 s_addQ (r_nameB (i := 5) rfl) (r_dat (r_frz (r_lz (r_lst (r_dcons (r_frz (r_sl (r_nameB (i := 3) rfl) r_noPart (r_part (r_dat r_C)))) r_dnil))))))) r_dnil) (fun e c h => hEx e c _ h)))))))))))))))) q
  | [], q => exact q.elim
  | _ :: _ :: _, q => exact q.elim
def F_most_threes (n1 : D) : Out D := So.fin (((oCons (Out.ok (PyData.str "things")) (oCons (Out.ok n1) (Out.ok ([] : List D)))).bind A_need_count).so fun _ => (((oCons (Out.ok n1) (Out.ok ([] : List D))).bind A_most_in).so fun d => .rt d))
def A_most_threes (a : List D) : Out D := match a with | [n1] => F_most_threes n1 | _ => .bad
@[simp] theorem A_most_threes_is (n1 : D) : A_most_threes [n1] = F_most_threes n1 := rfl
theorem ra_most_threes : ∀ (a : List D) (c : Nat) (P : Rv → Nat → Prop) (R : Exc → Nat → Prop), (A_most_threes a).post (fun d => P (.dat d) c) (R · c) → W_most_threes (a.map .dat) c P R := by
  intro a c P R q
  match a, q with
  | [n1], q => exact rf_def rfl (s := [.rv (.dat n1)]) rfl (fun Ex X hEx => (rs_drop (r_call ra_need_count (r_dcons r_C (r_dcons (r_name (i := 0) rfl) r_dnil)) (fun e c h => hEx e c _ h)) (fun _ => (rs_ret (r_call ra_most_in (r_dcons (r_name (i := 0) rfl) r_dnil) (fun e c h => hEx e c _ h)))))) q
  | [], q => exact q.elim
  | _ :: _ :: _, q => exact q.elim
def F__law_is_thing (n1 : D) (value2 : D) : Out D := So.fin ((oAndV (o1 (dIsi .int) (Out.ok value2)) (oAndV (oNotV (o1 (dIsi .bool) (Out.ok value2))) (oChain qLeA qLtA (Out.ok (PyData.int 0)) (Out.ok value2) (Out.ok n1)))).so fun d => .rt d)
def A__law_is_thing (a : List D) : Out D := match a with | [n1, value2] => F__law_is_thing n1 value2 | _ => .bad
@[simp] theorem A__law_is_thing_is (n1 : D) (value2 : D) : A__law_is_thing [n1, value2] = F__law_is_thing n1 value2 := rfl
theorem ra__law_is_thing : ∀ (a : List D) (c : Nat) (P : Rv → Nat → Prop) (R : Exc → Nat → Prop), (A__law_is_thing a).post (fun d => P (.dat d) c) (R · c) → W__law_is_thing (a.map .dat) c P R := by
  intro a c P R q
  match a, q with
  | [n1, value2], q => exact rf_def rfl (s := [.rv (.dat n1), .rv (.dat value2)]) rfl (fun Ex X hEx => (rs_ret (r_andV (r_isi (r_nameB (i := 1) rfl)) (r_andV (r_notV (r_isi (r_nameB (i := 1) rfl))) (r_frz (r_chain s_leQ s_ltQ (r_dat r_C) (r_nameB (i := 1) rfl) (r_nameB (i := 0) rfl))))))) q
  | [], q => exact q.elim
  | [_], q => exact q.elim
  | _ :: _ :: _ :: _, q => exact q.elim
def F__law_are_threes_0 (n1 : D) (l4 : Unit) (b6 : D) : So Unit Unit :=
  (So.seq ((oOr (oNot ((o1 (dIsi .tuple) (Out.ok b6)).bind dBool)) ((o2 qNe (oN dLenQ (oCons (Out.ok b6) (Out.ok ([] : List D)))) (Out.ok (PyData.int 3))).bind dBool)).so fun v => bcs v ((Out.ok (PyData.bool false)).so fun d => .rt d) (.nx ())) fun (p7 : Unit) => (So.seq (((o2 qNe (((oItemsA (Out.ok b6)).bind fun items => (compO tgName (fun b8 => (oNot (((oCons (Out.ok n1) (oCons (Out.ok b8) (Out.ok ([] : List D)))).bind A__law_is_thing).bind dBool))) (fun b8 => (Out.ok b8)) items).noer).bind fun ds => Out.ok (PyData.list ds)) ((Out.ok ([] : List D)).bind fun ds => Out.ok (PyData.list ds))).bind dBool).so fun v => bcs v ((Out.ok (PyData.bool false)).so fun d => .rt d) (.nx ())) fun (p9 : Unit) => (So.seq ((oNot ((oChain qLtA qLtA (o2 qIx (Out.ok b6) (Out.ok (PyData.int 0))) (o2 qIx (Out.ok b6) (Out.ok (PyData.int 1))) (o2 qIx (Out.ok b6) (Out.ok (PyData.int 2)))).bind dBool)).so fun v => bcs v ((Out.ok (PyData.bool false)).so fun d => .rt d) (.nx ())) fun (p10 : Unit) => (.nx ()))))
theorem r_B__law_are_threes_0 (n1 : D) (value2 : D)  {X : Exc → Nat → Prop} {Ex : Exc → Ga → Prop} (hEx : ∀ e c s, X e c → Ex e ⟨s, c⟩) (l4 : Unit) (b6 : D) : RS (B__law_are_threes_0 Ex) [.rv (.dat n1), .rv (.dat value2), .rv (.dat b6), .no, .no] (F__law_are_threes_0 n1 l4 b6) ⟨(fun (p_ : Unit) (s_ : List Sl) => ∃ j2_ : Pl, s_ = [.rv (.dat n1), .rv (.dat value2), j2_.1, .no, .no]), (fun (p_ : Unit) (s_ : List Sl) => ∃ j2_ : Pl, s_ = [.rv (.dat n1), .rv (.dat value2), j2_.1, .no, .no])⟩ X := by
  unfold B__law_are_threes_0 F__law_are_threes_0
  exact (rs_seq (rs_if (J := ⟨(fun (p_ : Unit) (s_ : List Sl) => s_ = [.rv (.dat n1), .rv (.dat value2), .rv (.dat b6), .no, .no]), _⟩) (r_orT (r_notT (r_bool (r_z (r_isi (r_nameB (i := 2) rfl))))) (r_bool (r_2 s_neQ (r_dat (r_frz (r_N s_lenQ (r_bcons (r_nameB (i := 2) rfl) r_bnil)))) (r_dat r_C)))) (rs_ret r_C) (rs_next rfl)) (fun p7 s_ h_ => by subst h_; exact (rs_seq (rs_if (J := ⟨(fun (p_ : Unit) (s_ : List Sl) => s_ = [.rv (.dat n1), .rv (.dat value2), .rv (.dat b6), .no, .no]), _⟩) (r_bool (r_2 s_neQ (r_dat (r_frz (r_lz (r_comp (sw := [.rv (.dat n1), .rv (.dat value2), .rv (.dat b6), .no, .no]) (sb := fun b8 => [.rv (.dat n1), .rv (.dat value2), .rv (.dat b6), .rv (.dat b8), .no]) (s2 := [.rv (.dat n1), .rv (.dat value2), .rv (.dat b6), .no, .no]) (by (try simp only [List.map_cons, List.map_nil]); repeat' first | exact plain_nil | refine plain_cons ?_ ?_ | exact True.intro | exact Subtype.property _) (r_itemsA (r_name (i := 2) rfl)) (fun _ => rfl) rg_set' (fun b8 => (r_notT (r_bool (r_z (r_call ra__law_is_thing (r_dcons (r_name (i := 0) rfl) (r_dcons (r_name (i := 3) rfl) r_dnil)) (fun e c h => h.elim)))))) (fun b8 => (r_name (i := 3) rfl)) (fun _ _ => rfl) (fun _ => rfl))))) (r_dat (r_frz (r_lz (r_lst r_dnil)))))) (rs_ret r_C) (rs_next rfl)) (fun p9 s_ h_ => by subst h_; exact (rs_seq (rs_if (J := ⟨(fun (p_ : Unit) (s_ : List Sl) => s_ = [.rv (.dat n1), .rv (.dat value2), .rv (.dat b6), .no, .no]), _⟩) (r_notT (r_bool (r_chain s_ltQ s_ltQ (r_dat (r_frz (r_2 s_ixQ (r_nameB (i := 2) rfl) (r_dat r_C)))) (r_dat (r_frz (r_2 s_ixQ (r_nameB (i := 2) rfl) (r_dat r_C)))) (r_dat (r_frz (r_2 s_ixQ (r_nameB (i := 2) rfl) (r_dat r_C))))))) (rs_ret r_C) (rs_next rfl)) (fun p10 s_ h_ => by subst h_; exact (rs_next ⟨⟨_, by first | exact True.intro | exact Subtype.property _⟩, rfl⟩)))))))
def F__law_are_threes (n1 : D) (value2 : D) : Out D := So.fin (So.seq ((oNot ((o1 (dIsi .tuple) (Out.ok value2)).bind dBool)).so fun v => bcs v ((Out.ok (PyData.bool false)).so fun d => .rt d) (.nx ())) fun (p3 : Unit) => (So.seq ((oItemsA (Out.ok value2)).so fun items => forO (fun l4 d => (tgName d).noer.so fun b6 => F__law_are_threes_0 n1 l4 b6) items ()) fun (p11 : Unit) => ((o2 qEq (((oRange2 (oCons (Out.ok (PyData.int 1)) (oCons (oN dLenQ (oCons (Out.ok value2) (Out.ok ([] : List D)))) (Out.ok ([] : List D))))).bind fun items => (compO tgName (fun b13 => ((o2 qGtA (o2 qIx (Out.ok value2) (o2 qSub (Out.ok b13) (Out.ok (PyData.int 1)))) (o2 qIx (Out.ok value2) (Out.ok b13))).bind dBool)) (fun b13 => (Out.ok b13)) items).noer).bind fun ds => Out.ok (PyData.list ds)) ((Out.ok ([] : List D)).bind fun ds => Out.ok (PyData.list ds))).so fun d => .rt d)))
def A__law_are_threes (a : List D) : Out D := match a with | [n1, value2] => F__law_are_threes n1 value2 | _ => .bad
@[simp] theorem A__law_are_threes_is (n1 : D) (value2 : D) : A__law_are_threes [n1, value2] = F__law_are_threes n1 value2 := rfl
theorem ra__law_are_threes : ∀ (a : List D) (c : Nat) (P : Rv → Nat → Prop) (R : Exc → Nat → Prop), (A__law_are_threes a).post (fun d => P (.dat d) c) (R · c) → W__law_are_threes (a.map .dat) c P R := by
  intro a c P R q
  match a, q with
  | [n1, value2], q => exact rf_def rfl (s := [.rv (.dat n1), .rv (.dat value2), .no, .no, .no]) rfl (fun Ex X hEx => (rs_seq (rs_if (J := ⟨(fun (p_ : Unit) (s_ : List Sl) => s_ = [.rv (.dat n1), .rv (.dat value2), .no, .no, .no]), _⟩) (r_notT (r_bool (r_z (r_isi (r_nameB (i := 1) rfl))))) (rs_ret r_C) (rs_next rfl)) (fun p3 s_ h_ => by subst h_; exact (rs_seq (rs_for (N := (fun (p_ : Unit) (s_ : List Sl) => ∃ j2_ : Pl, s_ = [.rv (.dat n1), .rv (.dat value2), j2_.1, .no, .no])) (r_itemsA (r_name (i := 1) rfl)) ⟨⟨_, by first | exact True.intro | exact Subtype.property _⟩, rfl⟩ (fun l4 s_ h_ => by obtain ⟨j5, rfl⟩ := h_; exact rt_of rg_set' (fun b6 => (r_B__law_are_threes_0 n1 value2 hEx l4 b6))) rfl) (fun p11 s_ h_ => by obtain ⟨j12, rfl⟩ := h_; exact (rs_ret (r_frz (r_2 s_eqQ (r_dat (r_frz (r_lz (r_comp (sw := [.rv (.dat n1), .rv (.dat value2), j12.1, .no, .no]) (sb := fun b13 => [.rv (.dat n1), .rv (.dat value2), j12.1, .no, .rv (.dat b13)]) (s2 := [.rv (.dat n1), .rv (.dat value2), j12.1, .no, .no]) (by (try simp only [List.map_cons, List.map_nil]); repeat' first | exact plain_nil | refine plain_cons ?_ ?_ | exact True.intro | exact Subtype.property _) (r_range2 (r_bcons (r_dat r_C) (r_bcons (r_dat (r_frz (r_N s_lenQ (r_bcons (r_nameB (i := 1) rfl) r_bnil)))) r_bnil))) (fun _ => rfl) rg_set' (fun b13 => (r_bool (r_2 s_gtQ (r_dat (r_frz (r_2 s_ixQ (r_nameB (i := 1) rfl) (r_dat (r_frz (r_2 s_subQ (r_nameB (i := 4) rfl) (r_dat r_C))))))) (r_dat (r_frz (r_2 s_ixQ (r_nameB (i := 1) rfl) (r_nameB (i := 4) rfl))))))) (fun b13 => (r_name (i := 4) rfl)) (fun _ _ => rfl) (fun _ => rfl))))) (r_dat (r_frz (r_lz (r_lst r_dnil)))))))))))) q
  | [], q => exact q.elim
  | [_], q => exact q.elim
  | _ :: _ :: _ :: _, q => exact q.elim
def F__law_pairs_0 (n1 : D) (l3 : D) (b5 : D) : So D D :=
  ((o2 qAdd (Out.ok l3) (((oRange2 (oCons (o2 qAdd (Out.ok b5) (Out.ok (PyData.int 1))) (oCons (Out.ok n1) (Out.ok ([] : List D))))).bind fun items => (compO tgName (fun b6 => (Out.ok true)) (fun b6 => ((oCons (Out.ok b5) (oCons (Out.ok b6) (Out.ok ([] : List D)))).bind fun ds => Out.ok (PyData.tuple ds))) items).noer).bind fun ds => Out.ok (PyData.list ds))).so fun (found7 : D) => (.nx found7))
theorem r_B__law_pairs_0 (n1 : D)  {X : Exc → Nat → Prop} {Ex : Exc → Ga → Prop} (hEx : ∀ e c s, X e c → Ex e ⟨s, c⟩) (l3 : D) (b5 : D) : RS (B__law_pairs_0 Ex) [.rv (.dat n1), .rv (.dat l3), .rv (.dat b5), .no] (F__law_pairs_0 n1 l3 b5) ⟨(fun (p_ : D) (s_ : List Sl) => ∃ j2_ : Pl, s_ = [.rv (.dat n1), .rv (.dat p_), j2_.1, .no]), (fun (p_ : D) (s_ : List Sl) => ∃ j2_ : Pl, s_ = [.rv (.dat n1), .rv (.dat p_), j2_.1, .no])⟩ X := by
  unfold B__law_pairs_0 F__law_pairs_0
  exact (rs_set (f := fun (found7 : D) => [.rv (.dat n1), .rv (.dat found7), .rv (.dat b5), .no])  (r_frz (r_2 s_addQ (r_nameB (i := 1) rfl) (r_dat (r_frz (r_lz (r_comp (sw := [.rv (.dat n1), .rv (.dat l3), .rv (.dat b5), .no]) (sb := fun b6 => [.rv (.dat n1), .rv (.dat l3), .rv (.dat b5), .rv (.dat b6)]) (s2 := [.rv (.dat n1), .rv (.dat l3), .rv (.dat b5), .no]) (by (try simp only [List.map_cons, List.map_nil]); repeat' first | exact plain_nil | refine plain_cons ?_ ?_ | exact True.intro | exact Subtype.property _) (r_range2 (r_bcons (r_dat (r_frz (r_2 s_addQ (r_nameB (i := 2) rfl) (r_dat r_C)))) (r_bcons (r_nameB (i := 0) rfl) r_bnil))) (fun _ => rfl) rg_set' (fun b6 => r_yes) (fun b6 => (r_tup (r_dcons (r_name (i := 2) rfl) (r_dcons (r_name (i := 3) rfl) r_dnil)))) (fun _ _ => rfl) (fun _ => rfl))))))) (fun _ => rfl) (fun (found7 : D) => (rs_next ⟨⟨_, by first | exact True.intro | exact Subtype.property _⟩, rfl⟩)))
def F__law_pairs (n1 : D) : Out D := So.fin (((Out.ok ([] : List D)).bind fun ds => Out.ok (PyData.list ds)).so fun (found2 : D) => (So.seq ((oRange1 (oCons (Out.ok n1) (Out.ok ([] : List D)))).so fun items => forO (fun l3 d => (tgName d).noer.so fun b5 => F__law_pairs_0 n1 l3 b5) items found2) fun (p8 : D) => ((Out.ok p8).so fun d => .rt d)))
def A__law_pairs (a : List D) : Out D := match a with | [n1] => F__law_pairs n1 | _ => .bad
@[simp] theorem A__law_pairs_is (n1 : D) : A__law_pairs [n1] = F__law_pairs n1 := rfl
theorem ra__law_pairs : ∀ (a : List D) (c : Nat) (P : Rv → Nat → Prop) (R : Exc → Nat → Prop), (A__law_pairs a).post (fun d => P (.dat d) c) (R · c) → W__law_pairs (a.map .dat) c P R := by
  intro a c P R q
  match a, q with
  | [n1], q => exact rf_def rfl (s := [.rv (.dat n1), .no, .no, .no]) rfl (fun Ex X hEx => (rs_set (f := fun (found2 : D) => [.rv (.dat n1), .rv (.dat found2), .no, .no])  (r_frz (r_lz (r_lst r_dnil))) (fun _ => rfl) (fun (found2 : D) => (rs_seq (rs_for (N := (fun (p_ : D) (s_ : List Sl) => ∃ j2_ : Pl, s_ = [.rv (.dat n1), .rv (.dat p_), j2_.1, .no])) (r_range1 (r_bcons (r_nameB (i := 0) rfl) r_bnil)) ⟨⟨_, by first | exact True.intro | exact Subtype.property _⟩, rfl⟩ (fun l3 s_ h_ => by obtain ⟨j4, rfl⟩ := h_; exact rt_of rg_set' (fun b5 => (r_B__law_pairs_0 n1 hEx l3 b5))) rfl) (fun p8 s_ h_ => by obtain ⟨j9, rfl⟩ := h_; exact (rs_ret (r_name (i := 1) rfl))))))) q
  | [], q => exact q.elim
  | _ :: _ :: _, q => exact q.elim
def F__law_held_1  (l11 : TD) (b13 : D) : So TD TD :=
  (((o2 qAdd ((Out.ok b13).bind fun y => tdIx l11 y) (Out.ok (PyData.int 1))).bind fun v => (Out.ok b13).bind fun y => (OwTD.put l11 y v).noer).so fun (found14 : TD) => (.nx found14))
theorem r_B__law_held_1 (n1 : D) (threes2 : D) (b10 : (D × (D × (D × Unit))))  {X : Exc → Nat → Prop} {Ex : Exc → Ga → Prop} (hEx : ∀ e c s, X e c → Ex e ⟨s, c⟩) (l11 : TD) (b13 : D) : RS (B__law_held_1 Ex) [.rv (.dat n1), .rv (.dat threes2), .dt (TD.l l11), .rv (.dat b13), .rv (.dat b10.1), .rv (.dat b10.2.1), .rv (.dat b10.2.2.1)] (F__law_held_1 l11 b13) ⟨(fun (p_ : TD) (s_ : List Sl) => ∃ j3_ : Pl, s_ = [.rv (.dat n1), .rv (.dat threes2), .dt (TD.l p_), j3_.1, .rv (.dat b10.1), .rv (.dat b10.2.1), .rv (.dat b10.2.2.1)]), (fun (p_ : TD) (s_ : List Sl) => ∃ j3_ : Pl, s_ = [.rv (.dat n1), .rv (.dat threes2), .dt (TD.l p_), j3_.1, .rv (.dat b10.1), .rv (.dat b10.2.1), .rv (.dat b10.2.2.1)])⟩ X := by
  unfold B__law_held_1 F__law_held_1
  exact (rs_sub (i := 2) OwTD (a := l11) (g := fun (found14 : TD) => [.rv (.dat n1), .rv (.dat threes2), .dt (TD.l found14), .rv (.dat b13), .rv (.dat b10.1), .rv (.dat b10.2.1), .rv (.dat b10.2.2.1)]) (r_frz (r_2 s_addQ (r_dat (r_frz (r_ixTD (i := 2) rfl (r_nameB (i := 3) rfl)))) (r_dat r_C))) rfl (r_nameB (i := 3) rfl) rfl (fun _ => rfl) (fun (found14 : TD) => (rs_next ⟨⟨_, by first | exact True.intro | exact Subtype.property _⟩, rfl⟩)))
def F__law_held_0  (l5 : TD) (b10 : (D × (D × (D × Unit)))) : So TD TD :=
  (So.seq ((oItemsA ((oCons ((oCons (Out.ok b10.1) (oCons (Out.ok b10.2.1) (Out.ok ([] : List D)))).bind fun ds => Out.ok (PyData.tuple ds)) (oCons ((oCons (Out.ok b10.1) (oCons (Out.ok b10.2.2.1) (Out.ok ([] : List D)))).bind fun ds => Out.ok (PyData.tuple ds)) (oCons ((oCons (Out.ok b10.2.1) (oCons (Out.ok b10.2.2.1) (Out.ok ([] : List D)))).bind fun ds => Out.ok (PyData.tuple ds)) (Out.ok ([] : List D))))).bind fun ds => Out.ok (PyData.list ds))).so fun items => forO (fun l11 d => (tgName d).noer.so fun b13 => F__law_held_1 l11 b13) items l5) fun (p15 : TD) => (.nx p15))
theorem r_B__law_held_0 (n1 : D) (threes2 : D) {j6 : Pl} {X : Exc → Nat → Prop} {Ex : Exc → Ga → Prop} (hEx : ∀ e c s, X e c → Ex e ⟨s, c⟩) (l5 : TD) (b10 : (D × (D × (D × Unit)))) : RS (B__law_held_0 Ex) [.rv (.dat n1), .rv (.dat threes2), .dt (TD.l l5), j6.1, .rv (.dat b10.1), .rv (.dat b10.2.1), .rv (.dat b10.2.2.1)] (F__law_held_0 l5 b10) ⟨(fun (p_ : TD) (s_ : List Sl) => ∃ j3_ : Pl, ∃ j4_ : Pl, ∃ j5_ : Pl, ∃ j6_ : Pl, s_ = [.rv (.dat n1), .rv (.dat threes2), .dt (TD.l p_), j3_.1, j4_.1, j5_.1, j6_.1]), (fun (p_ : TD) (s_ : List Sl) => ∃ j3_ : Pl, ∃ j4_ : Pl, ∃ j5_ : Pl, ∃ j6_ : Pl, s_ = [.rv (.dat n1), .rv (.dat threes2), .dt (TD.l p_), j3_.1, j4_.1, j5_.1, j6_.1])⟩ X := by
  unfold B__law_held_0 F__law_held_0
  exact (rs_seq (rs_for (N := (fun (p_ : TD) (s_ : List Sl) => ∃ j3_ : Pl, s_ = [.rv (.dat n1), .rv (.dat threes2), .dt (TD.l p_), j3_.1, .rv (.dat b10.1), .rv (.dat b10.2.1), .rv (.dat b10.2.2.1)])) (r_itemsA (r_frz (r_lz (r_lst (r_dcons (r_tup (r_dcons (r_name (i := 4) rfl) (r_dcons (r_name (i := 5) rfl) r_dnil))) (r_dcons (r_tup (r_dcons (r_name (i := 4) rfl) (r_dcons (r_name (i := 6) rfl) r_dnil))) (r_dcons (r_tup (r_dcons (r_name (i := 5) rfl) (r_dcons (r_name (i := 6) rfl) r_dnil))) r_dnil))))))) ⟨⟨_, by first | exact True.intro | exact Subtype.property _⟩, rfl⟩ (fun l11 s_ h_ => by obtain ⟨j12, rfl⟩ := h_; exact rt_of rg_set' (fun b13 => (r_B__law_held_1 n1 threes2 b10 hEx l11 b13))) rfl) (fun p15 s_ h_ => by obtain ⟨j16, rfl⟩ := h_; exact (rs_next ⟨⟨_, by first | exact True.intro | exact Subtype.property _⟩, ⟨_, by first | exact True.intro | exact Subtype.property _⟩, ⟨_, by first | exact True.intro | exact Subtype.property _⟩, ⟨_, by first | exact True.intro | exact Subtype.property _⟩, rfl⟩)))
def F__law_held (n1 : D) (threes2 : D) : Out D := So.fin ((oN dDictTD (oCons (((oItemsA ((oCons (Out.ok n1) (Out.ok ([] : List D))).bind A__law_pairs)).bind fun items => (compO tgName (fun b3 => (Out.ok true)) (fun b3 => ((oCons (Out.ok b3) (oCons (Out.ok (PyData.int 0)) (Out.ok ([] : List D)))).bind fun ds => Out.ok (PyData.tuple ds))) items).noer).bind fun ds => Out.ok (PyData.list ds)) (Out.ok ([] : List D)))).so fun (found4 : TD) => (So.seq ((oItemsA (Out.ok threes2)).so fun items => forO (fun l5 d => ((tgTup 3 (tgCons tgName (tgCons tgName (tgCons tgName tgNil)))) d).noer.so fun b10 => F__law_held_0 l5 b10) items found4) fun (p17 : TD) => ((Out.ok (dtD (TD.l p17))).so fun d => .rt d)))
def A__law_held (a : List D) : Out D := match a with | [n1, threes2] => F__law_held n1 threes2 | _ => .bad
@[simp] theorem A__law_held_is (n1 : D) (threes2 : D) : A__law_held [n1, threes2] = F__law_held n1 threes2 := rfl
theorem ra__law_held : ∀ (a : List D) (c : Nat) (P : Rv → Nat → Prop) (R : Exc → Nat → Prop), (A__law_held a).post (fun d => P (.dat d) c) (R · c) → W__law_held (a.map .dat) c P R := by
  intro a c P R q
  match a, q with
  | [n1, threes2], q => exact rf_def rfl (s := [.rv (.dat n1), .rv (.dat threes2), .no, .no, .no, .no, .no]) rfl (fun Ex X hEx => (rs_setF (f := fun (found4 : TD) => [.rv (.dat n1), .rv (.dat threes2), .dt (TD.l found4), .no, .no, .no, .no]) KdTD (r_dictTD (r_bcons (r_dat (r_frz (r_lz (r_comp (sw := [.rv (.dat n1), .rv (.dat threes2), .no, .no, .no, .no, .no]) (sb := fun b3 => [.rv (.dat n1), .rv (.dat threes2), .no, .rv (.dat b3), .no, .no, .no]) (s2 := [.rv (.dat n1), .rv (.dat threes2), .no, .no, .no, .no, .no]) (by (try simp only [List.map_cons, List.map_nil]); repeat' first | exact plain_nil | refine plain_cons ?_ ?_ | exact True.intro | exact Subtype.property _) (r_itemsA (r_call ra__law_pairs (r_dcons (r_name (i := 0) rfl) r_dnil) (fun e c h => hEx e c _ h))) (fun _ => rfl) rg_set' (fun b3 => r_yes) (fun b3 => (r_tup (r_dcons (r_name (i := 3) rfl) (r_dcons r_C r_dnil)))) (fun _ _ => rfl) (fun _ => rfl))))) r_bnil)) (fun _ => rfl) (fun (found4 : TD) => (rs_seq (rs_for (N := (fun (p_ : TD) (s_ : List Sl) => ∃ j3_ : Pl, ∃ j4_ : Pl, ∃ j5_ : Pl, ∃ j6_ : Pl, s_ = [.rv (.dat n1), .rv (.dat threes2), .dt (TD.l p_), j3_.1, j4_.1, j5_.1, j6_.1])) (r_itemsA (r_name (i := 1) rfl)) ⟨⟨_, by first | exact True.intro | exact Subtype.property _⟩, ⟨_, by first | exact True.intro | exact Subtype.property _⟩, ⟨_, by first | exact True.intro | exact Subtype.property _⟩, ⟨_, by first | exact True.intro | exact Subtype.property _⟩, rfl⟩ (fun l5 s_ h_ => by obtain ⟨j6, j7, j8, j9, rfl⟩ := h_; exact rt_of (rg_tup (rg_cons rg_set' (fun _ => (rg_cons rg_set' (fun _ => (rg_cons rg_set' (fun _ => rg_nil))))))) (fun b10 => (r_B__law_held_0 n1 threes2 hEx l5 b10))) rfl) (fun p17 s_ h_ => by obtain ⟨j18, j19, j20, j21, rfl⟩ := h_; exact (rs_giveT (i := 2) (s1 := [.rv (.dat n1), .rv (.dat threes2), .rv (.dat (dtD (TD.l p17))), j18.1, j19.1, j20.1, j21.1]) rfl rfl (rs_ret (r_name (i := 2) rfl)))))))) q
  | [], q => exact q.elim
  | [_], q => exact q.elim
  | _ :: _ :: _ :: _, q => exact q.elim
def F__law_shape (n1 : D) (pairs2 : D) : Out D := So.fin (((oRange1 (oCons (Out.ok n1) (Out.ok ([] : List D)))).bind fun items => (compO tgName (fun b3 => (Out.ok true)) (fun b3 => (oN dLenQ (oCons (((oItemsA (Out.ok pairs2)).bind fun items => (compO tgName (fun b4 => ((o2 dInA (Out.ok b3) (Out.ok b4)).bind dBool)) (fun b4 => (Out.ok b4)) items).noer).bind fun ds => Out.ok (PyData.list ds)) (Out.ok ([] : List D))))) items).noer).so fun (each5 : List D) => (So.seq (((o2 qEq (oN dLenQ (oCons (Out.ok pairs2) (Out.ok ([] : List D)))) (Out.ok (PyData.int 0))).bind dBool).so fun v => bcs v ((Out.ok (PyData.str "none")).so fun d => .rt d) (.nx ())) fun (p6 : Unit) => (So.seq (((o2 qEq (((oItemsA (Out.ok (PyData.list each5))).bind fun items => (compO tgName (fun b7 => ((o2 qNe (Out.ok b7) (Out.ok (PyData.int 1))).bind dBool)) (fun b7 => (Out.ok b7)) items).noer).bind fun ds => Out.ok (PyData.list ds)) ((Out.ok ([] : List D)).bind fun ds => Out.ok (PyData.list ds))).bind dBool).so fun v => bcs v ((Out.ok (PyData.str "pairs")).so fun d => .rt d) (.nx ())) fun (p8 : Unit) => (So.seq ((oAnd ((o2 qEq (oM "list" dCountI (Out.ok (PyData.list each5)) (oCons (Out.ok (PyData.int 3)) (Out.ok ([] : List D)))) (Out.ok (PyData.int 1))).bind dBool) ((o2 qEq (oM "list" dCountI (Out.ok (PyData.list each5)) (oCons (Out.ok (PyData.int 1)) (Out.ok ([] : List D)))) (o2 qSub (Out.ok n1) (Out.ok (PyData.int 1)))).bind dBool)).so fun v => bcs v ((Out.ok (PyData.str "star")).so fun d => .rt d) (.nx ())) fun (p9 : Unit) => (So.seq ((oAnd ((o2 qEq (oN dLenQ (oCons (Out.ok pairs2) (Out.ok ([] : List D)))) (Out.ok (PyData.int 4))).bind dBool) (oAnd ((o2 qEq (oN dLenQ (oCons ((oN dDictTD (oCons (((oItemsA (Out.ok pairs2)).bind fun items => (compO tgName (fun b10 => (Out.ok true)) (fun b10 => ((oCons (Out.ok b10) (oCons (Out.ok (PyData.bool true)) (Out.ok ([] : List D)))).bind fun ds => Out.ok (PyData.tuple ds))) items).noer).bind fun ds => Out.ok (PyData.list ds)) (Out.ok ([] : List D)))).bind fun ds => Out.ok (dtD (TD.l ds))) (Out.ok ([] : List D)))) (Out.ok (PyData.int 4))).bind dBool) ((o2 qEq (oM "list" dCountI (Out.ok (PyData.list each5)) (oCons (Out.ok (PyData.int 2)) (Out.ok ([] : List D)))) (Out.ok (PyData.int 4))).bind dBool))).so fun v => bcs v ((Out.ok (PyData.str "ring")).so fun d => .rt d) (.nx ())) fun (p11 : Unit) => ((oIf (oAnd ((o2 qEq (oN dLenQ (oCons (Out.ok pairs2) (Out.ok ([] : List D)))) (Out.ok (PyData.int 2))).bind dBool) ((o2 qEq (o2 qIx (Out.ok pairs2) (Out.ok (PyData.int 0))) (o2 qIx (Out.ok pairs2) (Out.ok (PyData.int 1)))).bind dBool)) (Out.ok (PyData.str "twice")) (Out.ok (PyData.str "other"))).so fun d => .rt d))))))
def A__law_shape (a : List D) : Out D := match a with | [n1, pairs2] => F__law_shape n1 pairs2 | _ => .bad
@[simp] theorem A__law_shape_is (n1 : D) (pairs2 : D) : A__law_shape [n1, pairs2] = F__law_shape n1 pairs2 := rfl
theorem ra__law_shape : ∀ (a : List D) (c : Nat) (P : Rv → Nat → Prop) (R : Exc → Nat → Prop), (A__law_shape a).post (fun d => P (.dat d) c) (R · c) → W__law_shape (a.map .dat) c P R := by
  intro a c P R q
  match a, q with
  | [n1, pairs2], q => exact rf_def rfl (s := [.rv (.dat n1), .rv (.dat pairs2), .no, .no, .no, .no]) rfl (fun Ex X hEx => (rs_setL (f := fun (each5 : List D) => [.rv (.dat n1), .rv (.dat pairs2), .lst each5, .no, .no, .no])  (r_comp (sw := [.rv (.dat n1), .rv (.dat pairs2), .no, .no, .no, .no]) (sb := fun b3 => [.rv (.dat n1), .rv (.dat pairs2), .no, .no, .rv (.dat b3), .no]) (s2 := [.rv (.dat n1), .rv (.dat pairs2), .no, .no, .no, .no]) (by (try simp only [List.map_cons, List.map_nil]); repeat' first | exact plain_nil | refine plain_cons ?_ ?_ | exact True.intro | exact Subtype.property _) (r_range1 (r_bcons (r_nameB (i := 0) rfl) r_bnil)) (fun _ => rfl) rg_set' (fun b3 => r_yes) (fun b3 => (r_frz (r_N s_lenQ (r_bcons (r_dat (r_frz (r_lz (r_comp (sw := [.rv (.dat n1), .rv (.dat pairs2), .no, .no, .rv (.dat b3), .no]) (sb := fun b4 => [.rv (.dat n1), .rv (.dat pairs2), .no, .rv (.dat b4), .rv (.dat b3), .no]) (s2 := [.rv (.dat n1), .rv (.dat pairs2), .no, .no, .rv (.dat b3), .no]) (by (try simp only [List.map_cons, List.map_nil]); repeat' first | exact plain_nil | refine plain_cons ?_ ?_ | exact True.intro | exact Subtype.property _) (r_itemsA (r_name (i := 1) rfl)) (fun _ => rfl) rg_set' (fun b4 => (r_bool (r_2 s_inA (r_nameB (i := 4) rfl) (r_nameB (i := 3) rfl)))) (fun b4 => (r_name (i := 3) rfl)) (fun _ _ => rfl) (fun _ => rfl))))) r_bnil)))) (fun _ _ => rfl) (fun _ => rfl)) (fun _ => rfl) (fun (each5 : List D) => rs_give (i := 2) (s1 := [.rv (.dat n1), .rv (.dat pairs2), .rv (.dat (PyData.list each5)), .no, .no, .no]) rfl rfl (rs_seq (rs_if (J := ⟨(fun (p_ : Unit) (s_ : List Sl) => s_ = [.rv (.dat n1), .rv (.dat pairs2), .rv (.dat (PyData.list each5)), .no, .no, .no]), _⟩) (r_bool (r_2 s_eqQ (r_dat (r_frz (r_N s_lenQ (r_bcons (r_nameB (i := 1) rfl) r_bnil)))) (r_dat r_C))) (rs_ret r_C) (rs_next rfl)) (fun p6 s_ h_ => by subst h_; exact (rs_seq (rs_if (J := ⟨(fun (p_ : Unit) (s_ : List Sl) => s_ = [.rv (.dat n1), .rv (.dat pairs2), .rv (.dat (PyData.list each5)), .no, .no, .no]), _⟩) (r_bool (r_2 s_eqQ (r_dat (r_frz (r_lz (r_comp (sw := [.rv (.dat n1), .rv (.dat pairs2), .rv (.dat (PyData.list each5)), .no, .no, .no]) (sb := fun b7 => [.rv (.dat n1), .rv (.dat pairs2), .rv (.dat (PyData.list each5)), .no, .no, .rv (.dat b7)]) (s2 := [.rv (.dat n1), .rv (.dat pairs2), .rv (.dat (PyData.list each5)), .no, .no, .no]) (by (try simp only [List.map_cons, List.map_nil]); repeat' first | exact plain_nil | refine plain_cons ?_ ?_ | exact True.intro | exact Subtype.property _) (r_itemsA (r_name (i := 2) rfl)) (fun _ => rfl) rg_set' (fun b7 => (r_bool (r_2 s_neQ (r_nameB (i := 5) rfl) (r_dat r_C)))) (fun b7 => (r_name (i := 5) rfl)) (fun _ _ => rfl) (fun _ => rfl))))) (r_dat (r_frz (r_lz (r_lst r_dnil)))))) (rs_ret r_C) (rs_next rfl)) (fun p8 s_ h_ => by subst h_; exact (rs_seq (rs_if (J := ⟨(fun (p_ : Unit) (s_ : List Sl) => s_ = [.rv (.dat n1), .rv (.dat pairs2), .rv (.dat (PyData.list each5)), .no, .no, .no]), _⟩) (r_andT (r_bool (r_2 s_eqQ (r_dat (r_frz (r_M s_countI (r_nameB (i := 2) rfl) (r_bcons (r_dat r_C) r_bnil)))) (r_dat r_C))) (r_bool (r_2 s_eqQ (r_dat (r_frz (r_M s_countI (r_nameB (i := 2) rfl) (r_bcons (r_dat r_C) r_bnil)))) (r_dat (r_frz (r_2 s_subQ (r_nameB (i := 0) rfl) (r_dat r_C))))))) (rs_ret r_C) (rs_next rfl)) (fun p9 s_ h_ => by subst h_; exact (rs_seq (rs_if (J := ⟨(fun (p_ : Unit) (s_ : List Sl) => s_ = [.rv (.dat n1), .rv (.dat pairs2), .rv (.dat (PyData.list each5)), .no, .no, .no]), _⟩) (r_andT (r_bool (r_2 s_eqQ (r_dat (r_frz (r_N s_lenQ (r_bcons (r_nameB (i := 1) rfl) r_bnil)))) (r_dat r_C))) (r_andT (r_bool (r_2 s_eqQ (r_dat (r_frz (r_N s_lenQ (r_bcons (r_dat (r_frz (r_kTD (r_dictTD (r_bcons (r_dat (r_frz (r_lz (r_comp (sw := [.rv (.dat n1), .rv (.dat pairs2), .rv (.dat (PyData.list each5)), .no, .no, .no]) (sb := fun b10 => [.rv (.dat n1), .rv (.dat pairs2), .rv (.dat (PyData.list each5)), .rv (.dat b10), .no, .no]) (s2 := [.rv (.dat n1), .rv (.dat pairs2), .rv (.dat (PyData.list each5)), .no, .no, .no]) (by (try simp only [List.map_cons, List.map_nil]); repeat' first | exact plain_nil | refine plain_cons ?_ ?_ | exact True.intro | exact Subtype.property _) (r_itemsA (r_name (i := 1) rfl)) (fun _ => rfl) rg_set' (fun b10 => r_yes) (fun b10 => (r_tup (r_dcons (r_name (i := 3) rfl) (r_dcons r_C r_dnil)))) (fun _ _ => rfl) (fun _ => rfl))))) r_bnil))))) r_bnil)))) (r_dat r_C))) (r_bool (r_2 s_eqQ (r_dat (r_frz (r_M s_countI (r_nameB (i := 2) rfl) (r_bcons (r_dat r_C) r_bnil)))) (r_dat r_C))))) (rs_ret r_C) (rs_next rfl)) (fun p11 s_ h_ => by subst h_; exact (rs_ret (r_if (r_andT (r_bool (r_2 s_eqQ (r_dat (r_frz (r_N s_lenQ (r_bcons (r_nameB (i := 1) rfl) r_bnil)))) (r_dat r_C))) (r_bool (r_2 s_eqQ (r_dat (r_frz (r_2 s_ixQ (r_nameB (i := 1) rfl) (r_dat r_C)))) (r_dat (r_frz (r_2 s_ixQ (r_nameB (i := 1) rfl) (r_dat r_C))))))) r_C r_C))))))))))))) q
  | [], q => exact q.elim
  | [_], q => exact q.elim
  | _ :: _ :: _ :: _, q => exact q.elim
def F_left_shape (n1 : D) : Out D := So.fin (((oCons (Out.ok (PyData.str "things")) (oCons (Out.ok n1) (Out.ok ([] : List D)))).bind A_need_count).so fun _ => ((oIf ((o2 qEq (Out.ok n1) (Out.ok (PyData.int 0))).bind dBool) (Out.ok (PyData.str "none")) (o2 qIx (Out.ok D_LEFT) (o2 qMod (Out.ok n1) (Out.ok (PyData.int 6))))).so fun d => .rt d))
def A_left_shape (a : List D) : Out D := match a with | [n1] => F_left_shape n1 | _ => .bad
@[simp] theorem A_left_shape_is (n1 : D) : A_left_shape [n1] = F_left_shape n1 := rfl
theorem ra_left_shape : ∀ (a : List D) (c : Nat) (P : Rv → Nat → Prop) (R : Exc → Nat → Prop), (A_left_shape a).post (fun d => P (.dat d) c) (R · c) → W_left_shape (a.map .dat) c P R := by
  intro a c P R q
  match a, q with
  | [n1], q => exact rf_def rfl (s := [.rv (.dat n1)]) rfl (fun Ex X hEx => (rs_drop (r_call ra_need_count (r_dcons r_C (r_dcons (r_name (i := 0) rfl) r_dnil)) (fun e c h => hEx e c _ h)) (fun _ => (rs_ret (r_if (r_bool (r_2 s_eqQ (r_nameB (i := 0) rfl) (r_dat r_C))) r_C (r_frz (r_2 s_ixQ (r_dat r_C) (r_dat (r_frz (r_2 s_modQ (r_nameB (i := 0) rfl) (r_dat r_C))))))))))) q
  | [], q => exact q.elim
  | _ :: _ :: _, q => exact q.elim
def F_is_thing (n1 : D) (value2 : D) : Out D := So.fin ((oAndV ((oCons (Out.ok value2) (Out.ok ([] : List D))).bind A_is_count) (o2 qLtA (Out.ok value2) (Out.ok n1))).so fun d => .rt d)
def A_is_thing (a : List D) : Out D := match a with | [n1, value2] => F_is_thing n1 value2 | _ => .bad
@[simp] theorem A_is_thing_is (n1 : D) (value2 : D) : A_is_thing [n1, value2] = F_is_thing n1 value2 := rfl
theorem ra_is_thing : ∀ (a : List D) (c : Nat) (P : Rv → Nat → Prop) (R : Exc → Nat → Prop), (A_is_thing a).post (fun d => P (.dat d) c) (R · c) → W_is_thing (a.map .dat) c P R := by
  intro a c P R q
  match a, q with
  | [n1, value2], q => exact rf_def rfl (s := [.rv (.dat n1), .rv (.dat value2)]) rfl (fun Ex X hEx => (rs_ret (r_andV (r_call ra_is_count (r_dcons (r_name (i := 1) rfl) r_dnil) (fun e c h => hEx e c _ h)) (r_frz (r_2 s_ltQ (r_nameB (i := 1) rfl) (r_nameB (i := 0) rfl)))))) q
  | [], q => exact q.elim
  | [_], q => exact q.elim
  | _ :: _ :: _ :: _, q => exact q.elim
def F_need_pairs_0 (n1 : D) (l3 : Unit) (b5 : D) : So Unit Unit :=
  (So.seq ((oOr (oNot ((o1 (dIsi .tuple) (Out.ok b5)).bind dBool)) (oOr ((o2 qNe (oN dLenQ (oCons (Out.ok b5) (Out.ok ([] : List D)))) (Out.ok (PyData.int 2))).bind dBool) (oOr (oNot (((oCons (Out.ok n1) (oCons (o2 qIx (Out.ok b5) (Out.ok (PyData.int 0))) (Out.ok ([] : List D)))).bind A_is_thing).bind dBool)) (oNot (((oCons (Out.ok n1) (oCons (o2 qIx (Out.ok b5) (Out.ok (PyData.int 1))) (Out.ok ([] : List D)))).bind A_is_thing).bind dBool))))).so fun v => bcs v (((oCons (Out.ok (PyData.str "pair")) (oCons (Out.ok b5) (Out.ok ([] : List D)))).bind (exc2 "BadNumber" "what" "number")).so fun e => .er e) (.nx ())) fun (p6 : Unit) => (So.seq (((o2 qGeA (o2 qIx (Out.ok b5) (Out.ok (PyData.int 0))) (o2 qIx (Out.ok b5) (Out.ok (PyData.int 1)))).bind dBool).so fun v => bcs v (((oCons (Out.ok (PyData.str "pair")) (oCons (Out.ok b5) (Out.ok ([] : List D)))).bind (exc2 "BadNumber" "what" "number")).so fun e => .er e) (.nx ())) fun (p7 : Unit) => (.nx ())))
theorem r_B_need_pairs_0 (n1 : D) (pairs2 : D)  {X : Exc → Nat → Prop} {Ex : Exc → Ga → Prop} (hEx : ∀ e c s, X e c → Ex e ⟨s, c⟩) (l3 : Unit) (b5 : D) : RS (B_need_pairs_0 Ex) [.rv (.dat n1), .rv (.dat pairs2), .rv (.dat b5)] (F_need_pairs_0 n1 l3 b5) ⟨(fun (p_ : Unit) (s_ : List Sl) => ∃ j2_ : Pl, s_ = [.rv (.dat n1), .rv (.dat pairs2), j2_.1]), (fun (p_ : Unit) (s_ : List Sl) => ∃ j2_ : Pl, s_ = [.rv (.dat n1), .rv (.dat pairs2), j2_.1])⟩ X := by
  unfold B_need_pairs_0 F_need_pairs_0
  exact (rs_seq (rs_if (J := ⟨(fun (p_ : Unit) (s_ : List Sl) => s_ = [.rv (.dat n1), .rv (.dat pairs2), .rv (.dat b5)]), _⟩) (r_orT (r_notT (r_bool (r_z (r_isi (r_nameB (i := 2) rfl))))) (r_orT (r_bool (r_2 s_neQ (r_dat (r_frz (r_N s_lenQ (r_bcons (r_nameB (i := 2) rfl) r_bnil)))) (r_dat r_C))) (r_orT (r_notT (r_bool (r_z (r_call ra_is_thing (r_dcons (r_name (i := 0) rfl) (r_dcons (r_frz (r_2 s_ixQ (r_nameB (i := 2) rfl) (r_dat r_C))) r_dnil)) (fun e c h => hEx e c _ h))))) (r_notT (r_bool (r_z (r_call ra_is_thing (r_dcons (r_name (i := 0) rfl) (r_dcons (r_frz (r_2 s_ixQ (r_nameB (i := 2) rfl) (r_dat r_C))) r_dnil)) (fun e c h => hEx e c _ h)))))))) (rs_raise (r_dcons r_C (r_dcons (r_name (i := 2) rfl) r_dnil)) (fun e c h => hEx e c _ h) (exc2_F _ _ _)) (rs_next rfl)) (fun p6 s_ h_ => by subst h_; exact (rs_seq (rs_if (J := ⟨(fun (p_ : Unit) (s_ : List Sl) => s_ = [.rv (.dat n1), .rv (.dat pairs2), .rv (.dat b5)]), _⟩) (r_bool (r_2 s_geQ (r_dat (r_frz (r_2 s_ixQ (r_nameB (i := 2) rfl) (r_dat r_C)))) (r_dat (r_frz (r_2 s_ixQ (r_nameB (i := 2) rfl) (r_dat r_C)))))) (rs_raise (r_dcons r_C (r_dcons (r_name (i := 2) rfl) r_dnil)) (fun e c h => hEx e c _ h) (exc2_F _ _ _)) (rs_next rfl)) (fun p7 s_ h_ => by subst h_; exact (rs_next ⟨⟨_, by first | exact True.intro | exact Subtype.property _⟩, rfl⟩)))))
def F_need_pairs (n1 : D) (pairs2 : D) : Out D := So.fin (So.seq ((oItemsA (Out.ok pairs2)).so fun items => forO (fun l3 d => (tgName d).noer.so fun b5 => F_need_pairs_0 n1 l3 b5) items ()) fun (p8 : Unit) => (.nx ()))
def A_need_pairs (a : List D) : Out D := match a with | [n1, pairs2] => F_need_pairs n1 pairs2 | _ => .bad
@[simp] theorem A_need_pairs_is (n1 : D) (pairs2 : D) : A_need_pairs [n1, pairs2] = F_need_pairs n1 pairs2 := rfl
theorem ra_need_pairs : ∀ (a : List D) (c : Nat) (P : Rv → Nat → Prop) (R : Exc → Nat → Prop), (A_need_pairs a).post (fun d => P (.dat d) c) (R · c) → W_need_pairs (a.map .dat) c P R := by
  intro a c P R q
  match a, q with
  | [n1, pairs2], q => exact rf_def rfl (s := [.rv (.dat n1), .rv (.dat pairs2), .no]) rfl (fun Ex X hEx => (rs_seq (rs_for (N := (fun (p_ : Unit) (s_ : List Sl) => ∃ j2_ : Pl, s_ = [.rv (.dat n1), .rv (.dat pairs2), j2_.1])) (r_itemsA (r_name (i := 1) rfl)) ⟨⟨_, by first | exact True.intro | exact Subtype.property _⟩, rfl⟩ (fun l3 s_ h_ => by obtain ⟨j4, rfl⟩ := h_; exact rt_of rg_set' (fun b5 => (r_B_need_pairs_0 n1 pairs2 hEx l3 b5))) rfl) (fun p8 s_ h_ => by obtain ⟨j9, rfl⟩ := h_; exact (rs_next True.intro)))) q
  | [], q => exact q.elim
  | [_], q => exact q.elim
  | _ :: _ :: _ :: _, q => exact q.elim
def F_shape_in (n1 : D) (pairs2 : D) : Out D := So.fin (((oRange1 (oCons (Out.ok n1) (Out.ok ([] : List D)))).bind fun items => (compO tgName (fun b3 => (Out.ok true)) (fun b3 => (oN dLenQ (oCons (((oItemsA (Out.ok pairs2)).bind fun items => (compO tgName (fun b4 => ((o2 dInA (Out.ok b3) (Out.ok b4)).bind dBool)) (fun b4 => (Out.ok b4)) items).noer).bind fun ds => Out.ok (PyData.list ds)) (Out.ok ([] : List D))))) items).noer).so fun (each5 : List D) => (So.seq (((o2 qEq (oN dLenQ (oCons (Out.ok pairs2) (Out.ok ([] : List D)))) (Out.ok (PyData.int 0))).bind dBool).so fun v => bcs v ((Out.ok (PyData.str "none")).so fun d => .rt d) (.nx ())) fun (p6 : Unit) => (So.seq ((oAnd ((o2 qEq (oN dMinQ (oCons (Out.ok (PyData.list each5)) (Out.ok ([] : List D)))) (Out.ok (PyData.int 1))).bind dBool) ((o2 qEq (oN dMaxQ (oCons (Out.ok (PyData.list each5)) (Out.ok ([] : List D)))) (Out.ok (PyData.int 1))).bind dBool)).so fun v => bcs v ((Out.ok (PyData.str "pairs")).so fun d => .rt d) (.nx ())) fun (p7 : Unit) => (So.seq (((o2 qEq ((oN dSortA (oCons (Out.ok (PyData.list each5)) (Out.ok ([] : List D)))).bind fun ds => Out.ok (PyData.list ds)) (o2 qAdd (o2 qMul ((oCons (Out.ok (PyData.int 1)) (Out.ok ([] : List D))).bind fun ds => Out.ok (PyData.list ds)) (o2 qSub (Out.ok n1) (Out.ok (PyData.int 1)))) ((oCons (Out.ok (PyData.int 3)) (Out.ok ([] : List D))).bind fun ds => Out.ok (PyData.list ds)))).bind dBool).so fun v => bcs v ((Out.ok (PyData.str "star")).so fun d => .rt d) (.nx ())) fun (p8 : Unit) => ((oN dLenQ (oCons (((oItemsA (Out.ok pairs2)).bind fun items => (dcompF tgName (fun b9 => (Out.ok true)) (fun b9 => (Out.ok b9)) (fun b9 => (Out.ok (PyData.bool true))) items TD.nil).noer).bind fun ds => Out.ok (dtD (TD.l ds))) (Out.ok ([] : List D)))).so fun (unlike10 : D) => (So.seq ((oAnd ((o2 qEq (oN dLenQ (oCons (Out.ok pairs2) (Out.ok ([] : List D)))) (Out.ok (PyData.int 4))).bind dBool) (oAnd ((o2 qEq (Out.ok unlike10) (Out.ok (PyData.int 4))).bind dBool) ((o2 dInA (oSl dSl ((oN dSortA (oCons (Out.ok (PyData.list each5)) (Out.ok ([] : List D)))).bind fun ds => Out.ok (PyData.list ds)) (oPart (o1 dNeg (Out.ok (PyData.int 5)))) (Out.ok none)) ((oCons ((oCons (Out.ok (PyData.int 0)) (oCons (Out.ok (PyData.int 2)) (oCons (Out.ok (PyData.int 2)) (oCons (Out.ok (PyData.int 2)) (oCons (Out.ok (PyData.int 2)) (Out.ok ([] : List D))))))).bind fun ds => Out.ok (PyData.list ds)) (oCons ((oCons (Out.ok (PyData.int 2)) (oCons (Out.ok (PyData.int 2)) (oCons (Out.ok (PyData.int 2)) (oCons (Out.ok (PyData.int 2)) (Out.ok ([] : List D)))))).bind fun ds => Out.ok (PyData.list ds)) (Out.ok ([] : List D)))).bind fun ds => Out.ok (PyData.tuple ds))).bind dBool))).so fun v => bcs v ((Out.ok (PyData.str "ring")).so fun d => .rt d) (.nx ())) fun (p11 : Unit) => ((oIf (oAnd ((o2 qEq (oN dLenQ (oCons (Out.ok pairs2) (Out.ok ([] : List D)))) (Out.ok (PyData.int 2))).bind dBool) ((o2 qEq (Out.ok unlike10) (Out.ok (PyData.int 1))).bind dBool)) (Out.ok (PyData.str "twice")) (Out.ok (PyData.str "other"))).so fun d => .rt d)))))))
def A_shape_in (a : List D) : Out D := match a with | [n1, pairs2] => F_shape_in n1 pairs2 | _ => .bad
@[simp] theorem A_shape_in_is (n1 : D) (pairs2 : D) : A_shape_in [n1, pairs2] = F_shape_in n1 pairs2 := rfl
theorem ra_shape_in : ∀ (a : List D) (c : Nat) (P : Rv → Nat → Prop) (R : Exc → Nat → Prop), (A_shape_in a).post (fun d => P (.dat d) c) (R · c) → W_shape_in (a.map .dat) c P R := by
  intro a c P R q
  match a, q with
  | [n1, pairs2], q => exact rf_def rfl (s := [.rv (.dat n1), .rv (.dat pairs2), .no, .no, .no, .no]) rfl (fun Ex X hEx => (rs_setL (f := fun (each5 : List D) => [.rv (.dat n1), .rv (.dat pairs2), .lst each5, .no, .no, .no])  (r_comp (sw := [.rv (.dat n1), .rv (.dat pairs2), .no, .no, .no, .no]) (sb := fun b3 => [.rv (.dat n1), .rv (.dat pairs2), .no, .no, .rv (.dat b3), .no]) (s2 := [.rv (.dat n1), .rv (.dat pairs2), .no, .no, .no, .no]) (by (try simp only [List.map_cons, List.map_nil]); repeat' first | exact plain_nil | refine plain_cons ?_ ?_ | exact True.intro | exact Subtype.property _) (r_range1 (r_bcons (r_nameB (i := 0) rfl) r_bnil)) (fun _ => rfl) rg_set' (fun b3 => r_yes) (fun b3 => (r_frz (r_N s_lenQ (r_bcons (r_dat (r_frz (r_lz (r_comp (sw := [.rv (.dat n1), .rv (.dat pairs2), .no, .no, .rv (.dat b3), .no]) (sb := fun b4 => [.rv (.dat n1), .rv (.dat pairs2), .no, .rv (.dat b4), .rv (.dat b3), .no]) (s2 := [.rv (.dat n1), .rv (.dat pairs2), .no, .no, .rv (.dat b3), .no]) (by (try simp only [List.map_cons, List.map_nil]); repeat' first | exact plain_nil | refine plain_cons ?_ ?_ | exact True.intro | exact Subtype.property _) (r_itemsA (r_name (i := 1) rfl)) (fun _ => rfl) rg_set' (fun b4 => (r_bool (r_2 s_inA (r_nameB (i := 4) rfl) (r_nameB (i := 3) rfl)))) (fun b4 => (r_name (i := 3) rfl)) (fun _ _ => rfl) (fun _ => rfl))))) r_bnil)))) (fun _ _ => rfl) (fun _ => rfl)) (fun _ => rfl) (fun (each5 : List D) => rs_give (i := 2) (s1 := [.rv (.dat n1), .rv (.dat pairs2), .rv (.dat (PyData.list each5)), .no, .no, .no]) rfl rfl (rs_seq (rs_if (J := ⟨(fun (p_ : Unit) (s_ : List Sl) => s_ = [.rv (.dat n1), .rv (.dat pairs2), .rv (.dat (PyData.list each5)), .no, .no, .no]), _⟩) (r_bool (r_2 s_eqQ (r_dat (r_frz (r_N s_lenQ (r_bcons (r_nameB (i := 1) rfl) r_bnil)))) (r_dat r_C))) (rs_ret r_C) (rs_next rfl)) (fun p6 s_ h_ => by subst h_; exact (rs_seq (rs_if (J := ⟨(fun (p_ : Unit) (s_ : List Sl) => s_ = [.rv (.dat n1), .rv (.dat pairs2), .rv (.dat (PyData.list each5)), .no, .no, .no]), _⟩) (r_andT (r_bool (r_2 s_eqQ (r_dat (r_frz (r_N s_minQ (r_bcons (r_nameB (i := 2) rfl) r_bnil)))) (r_dat r_C))) (r_bool (r_2 s_eqQ (r_dat (r_frz (r_N s_maxQ (r_bcons (r_nameB (i := 2) rfl) r_bnil)))) (r_dat r_C)))) (rs_ret r_C) (rs_next rfl)) (fun p7 s_ h_ => by subst h_; exact (rs_seq (rs_if (J := ⟨(fun (p_ : Unit) (s_ : List Sl) => s_ = [.rv (.dat n1), .rv (.dat pairs2), .rv (.dat (PyData.list each5)), .no, .no, .no]), _⟩) (r_bool (r_2 s_eqQ (r_dat (r_frz (r_lz (r_Nl s_sortA (r_bcons (r_nameB (i := 2) rfl) r_bnil))))) (r_dat (r_frz (r_2 s_addQ (r_dat (r_frz (r_2 s_mulQ (r_dat (r_frz (r_lz (r_lst (r_dcons r_C r_dnil))))) (r_dat (r_frz (r_2 s_subQ (r_nameB (i := 0) rfl) (r_dat r_C))))))) (r_dat (r_frz (r_lz (r_lst (r_dcons r_C r_dnil)))))))))) (rs_ret r_C) (rs_next rfl)) (fun p8 s_ h_ => by subst h_; exact (rs_set (f := fun (unlike10 : D) => [.rv (.dat n1), .rv (.dat pairs2), .rv (.dat (PyData.list each5)), .no, .no, .rv (.dat unlike10)])  (r_frz (r_N s_lenQ (r_bcons (r_dat (r_frz (r_kTD (r_dcompF (sw := [.rv (.dat n1), .rv (.dat pairs2), .rv (.dat (PyData.list each5)), .no, .no, .no]) (sb := fun b9 => [.rv (.dat n1), .rv (.dat pairs2), .rv (.dat (PyData.list each5)), .rv (.dat b9), .no, .no]) (s2 := [.rv (.dat n1), .rv (.dat pairs2), .rv (.dat (PyData.list each5)), .no, .no, .no]) (by (try simp only [List.map_cons, List.map_nil]); repeat' first | exact plain_nil | refine plain_cons ?_ ?_ | exact True.intro | exact Subtype.property _) (r_itemsA (r_name (i := 1) rfl)) (fun _ => rfl) rg_set' (fun b9 => r_yes) (fun b9 => (r_name (i := 3) rfl)) (fun b9 => r_C) (fun _ _ => rfl) (fun _ => rfl))))) r_bnil))) (fun _ => rfl) (fun (unlike10 : D) => (rs_seq (rs_if (J := ⟨(fun (p_ : Unit) (s_ : List Sl) => s_ = [.rv (.dat n1), .rv (.dat pairs2), .rv (.dat (PyData.list each5)), .no, .no, .rv (.dat unlike10)]), _⟩) (r_andT (r_bool (r_2 s_eqQ (r_dat (r_frz (r_N s_lenQ (r_bcons (r_nameB (i := 1) rfl) r_bnil)))) (r_dat r_C))) (r_andT (r_bool (r_2 s_eqQ (r_nameB (i := 5) rfl) (r_dat r_C))) (r_bool (r_2 s_inA (r_dat (r_frz (r_sl (r_dat (r_frz (r_lz (r_Nl s_sortA (r_bcons (r_nameB (i := 2) rfl) r_bnil))))) (r_part (r_dat (r_frz (r_1 s_neg (r_dat r_C))))) r_noPart))) (r_dat (r_tup (r_dcons (r_frz (r_lz (r_lst (r_dcons r_C (r_dcons r_C (r_dcons r_C (r_dcons r_C (r_dcons r_C r_dnil)))))))) (r_dcons (r_frz (r_lz (r_lst (r_dcons r_C (r_dcons r_C (r_dcons r_C (r_dcons r_C r_dnil))))))) r_dnil)))))))) (rs_ret r_C) (rs_next rfl)) (fun p11 s_ h_ => by subst h_; exact (rs_ret (r_if (r_andT (r_bool (r_2 s_eqQ (r_dat (r_frz (r_N s_lenQ (r_bcons (r_nameB (i := 1) rfl) r_bnil)))) (r_dat r_C))) (r_bool (r_2 s_eqQ (r_nameB (i := 5) rfl) (r_dat r_C)))) r_C r_C))))))))))))))) q
  | [], q => exact q.elim
  | [_], q => exact q.elim
  | _ :: _ :: _ :: _, q => exact q.elim
def F_shape_of (n1 : D) (pairs2 : D) : Out D := So.fin (((oCons (Out.ok (PyData.str "things")) (oCons (Out.ok n1) (Out.ok ([] : List D)))).bind A_need_count).so fun _ => (((oCons (Out.ok n1) (oCons (Out.ok pairs2) (Out.ok ([] : List D)))).bind A_need_pairs).so fun _ => (((oCons (Out.ok n1) (oCons ((oN dListA (oCons (Out.ok pairs2) (Out.ok ([] : List D)))).bind fun ds => Out.ok (PyData.list ds)) (Out.ok ([] : List D)))).bind A_shape_in).so fun d => .rt d)))
def A_shape_of (a : List D) : Out D := match a with | [n1, pairs2] => F_shape_of n1 pairs2 | _ => .bad
@[simp] theorem A_shape_of_is (n1 : D) (pairs2 : D) : A_shape_of [n1, pairs2] = F_shape_of n1 pairs2 := rfl
theorem ra_shape_of : ∀ (a : List D) (c : Nat) (P : Rv → Nat → Prop) (R : Exc → Nat → Prop), (A_shape_of a).post (fun d => P (.dat d) c) (R · c) → W_shape_of (a.map .dat) c P R := by
  intro a c P R q
  match a, q with
  | [n1, pairs2], q => exact rf_def rfl (s := [.rv (.dat n1), .rv (.dat pairs2)]) rfl (fun Ex X hEx => (rs_drop (r_call ra_need_count (r_dcons r_C (r_dcons (r_name (i := 0) rfl) r_dnil)) (fun e c h => hEx e c _ h)) (fun _ => (rs_drop (r_call ra_need_pairs (r_dcons (r_name (i := 0) rfl) (r_dcons (r_name (i := 1) rfl) r_dnil)) (fun e c h => hEx e c _ h)) (fun _ => (rs_ret (r_call ra_shape_in (r_dcons (r_name (i := 0) rfl) (r_dcons (r_frz (r_lz (r_Nl s_listA (r_bcons (r_nameB (i := 1) rfl) r_bnil)))) r_dnil)) (fun e c h => hEx e c _ h)))))))) q
  | [], q => exact q.elim
  | [_], q => exact q.elim
  | _ :: _ :: _ :: _, q => exact q.elim
def F__law_mixed_0  (l4 : FL × FL) (b6 : D) : Pn (So (FL × FL) (FL × FL)) :=
  (((Pn.lift (oCons (oN dLenQ (oCons (Out.ok (PyData.list (FL.l l4.1))) (Out.ok ([] : List D)))) (Out.ok ([] : List D)))).bind A__law_draw).bind fun d => (Pn.lift (flPop l4.2 l4.1 d)).bind fun p_ => (fun (found7 left8 : FL) => (Pn.ret (.nx (left8, found7)))) p_.1 p_.2)
theorem r_B__law_mixed_0 (some1 : D)   {Ex : Exc → Ga → Prop} (l4 : FL × FL) (b6 : D) : PSj (B__law_mixed_0 Ex) [.rv .pen, .rv (.dat some1), .lst (FL.l l4.1), .lst (FL.l l4.2), .rv (.dat b6)] (F__law_mixed_0 l4 b6) ⟨(fun (p_ : FL × FL) (s_ : List Sl) => ∃ j4_ : Pl, s_ = [.rv .pen, .rv (.dat some1), .lst (FL.l p_.1), .lst (FL.l p_.2), j4_.1]), (fun (p_ : FL × FL) (s_ : List Sl) => ∃ j4_ : Pl, s_ = [.rv .pen, .rv (.dat some1), .lst (FL.l p_.1), .lst (FL.l p_.2), j4_.1])⟩ X0 := by
  unfold B__law_mixed_0 F__law_mixed_0
  exact (pj_appPopF (i := 3) (j := 2) (v := l4.2) (u := l4.1) (k := fun (found7 left8 : FL) => (Pn.ret (.nx (left8, found7)))) (g := fun (found7 left8 : FL) => [.rv .pen, .rv (.dat some1), .lst (FL.l left8), .lst (FL.l found7), .rv (.dat b6)]) rfl rfl rfl rfl (p_dat (p_callP ra__law_draw (p_pcons (i := 0) rfl (RO.po (r_dcons (r_frz (r_N s_lenQ (r_bcons (r_nameBL (i := 2) rfl) r_bnil))) r_dnil))))) (fun _ _ => rfl) (fun (found7 left8 : FL) => (RS.ps (rs_next ⟨⟨_, by first | exact True.intro | exact Subtype.property _⟩, rfl⟩))))
def F__law_mixed (some1 : D) : Pn D := Pn.fin ((Pn.lift (oFL (oN dListA (oCons (Out.ok some1) (Out.ok ([] : List D)))))).bind fun (left2 : FL) => (Pn.lift (oFL (Out.ok ([] : List D)))).bind fun (found3 : FL) => (Pn.seq ((Pn.lift (oRange1 (oCons (oN dLenQ (oCons (Out.ok some1) (Out.ok ([] : List D)))) (Out.ok ([] : List D))))).bind fun items => forP (fun l4 d => (Pn.lift (tgName d)).bind fun b6 => F__law_mixed_0 l4 b6) items (left2, found3)) fun (p9 : FL × FL) => (Pn.ret ((Out.ok (PyData.list (FL.l p9.2))).so fun d => .rt d))))
def A__law_mixed (a : List D) : Pn D := match a with | [some1] => F__law_mixed some1 | _ => fun _ _ => False
@[simp] theorem A__law_mixed_is (some1 : D) : A__law_mixed [some1] = F__law_mixed some1 := rfl
theorem ra__law_mixed : ∀ (a : List D) (c : Nat) (Q : D → Nat → Prop) (P : Rv → Nat → Prop) (R : Exc → Nat → Prop), A__law_mixed a c Q → (∀ d c', Q d c' → P (.dat d) c') → W__law_mixed (penA' a) c P R := by
  intro a c Q P R q k
  match a, q with
  | [some1], q => exact pf_def rfl (s := [.rv .pen, .rv (.dat some1), .no, .no, .no]) rfl (fun Ex => (pj_par (f := fun (left2 : FL) (found3 : FL) => [.rv .pen, .rv (.dat some1), .lst (FL.l left2), .lst (FL.l found3), .no]) KdFL KdFL (RO.po (r_FL (r_Nl s_listA (r_bcons (r_nameB (i := 1) rfl) r_bnil)))) (RO.po (r_FL (r_lst r_dnil))) (fun _ _ => rfl) (fun (left2 : FL) (found3 : FL) => (pj_seq (pj_for (N := (fun (p_ : FL × FL) (s_ : List Sl) => ∃ j4_ : Pl, s_ = [.rv .pen, .rv (.dat some1), .lst (FL.l p_.1), .lst (FL.l p_.2), j4_.1])) (RO.po (r_range1 (r_bcons (r_dat (r_frz (r_N s_lenQ (r_bcons (r_nameB (i := 1) rfl) r_bnil)))) r_bnil))) ⟨⟨_, by first | exact True.intro | exact Subtype.property _⟩, rfl⟩ (fun l4 s_ h_ => by obtain ⟨j5, rfl⟩ := h_; exact pt_of rg_set' (fun b6 => (r_B__law_mixed_0 some1 l4 b6))) rfl) (fun p9 s_ h_ => by obtain ⟨j10, rfl⟩ := h_; exact (RS.ps (rs_ret (r_nameL (i := 3) (s1 := [.rv .pen, .rv (.dat some1), .lst (FL.l p9.1), .rv (.dat (PyData.list (FL.l p9.2))), j10.1]) rfl rfl)))))))) q k
  | [], q => exact q.elim
  | _ :: _ :: _, q => exact q.elim
def F_law_0  (l1 : Unit) (b8 : D) : Pn (So Unit Unit) :=
  ((Pn.lift ((oCons (Out.ok b8) (Out.ok ([] : List D))).bind A__law_bar)).bind fun (bar9 : D) => (Pn.seq ((Pn.lift (oOr ((oNeRepr (oCons ((oCons (Out.ok b8) (Out.ok ([] : List D))).bind A_most_bar) (Out.ok ([] : List D))) (oCons (Out.ok bar9) (Out.ok ([] : List D)))).bind dBool) ((oNeRepr (oCons ((oCons (Out.ok b8) (Out.ok ([] : List D))).bind A_most_number) (Out.ok ([] : List D))) (oCons (o2 qIx (Out.ok bar9) (Out.ok (PyData.int 2))) (Out.ok ([] : List D)))).bind dBool))).bind fun v => if v = true then (Pn.ret ((Out.ok (PyData.bool false)).so fun d => .rt d)) else (Pn.ret (.nx ()))) fun (p10 : Unit) => ((Pn.lift ((oCons (Out.ok b8) (Out.ok ([] : List D))).bind A_most_threes)).bind fun (told11 : D) => (Pn.seq ((Pn.lift (oOr (oNot (((oCons (Out.ok b8) (oCons (Out.ok told11) (Out.ok ([] : List D)))).bind A__law_are_threes).bind dBool)) (oOr ((o2 qNe (oN dLenQ (oCons (Out.ok told11) (Out.ok ([] : List D)))) (o2 qIx (Out.ok bar9) (Out.ok (PyData.int 2)))).bind dBool) ((oNeRepr (oCons ((oCons (Out.ok b8) (Out.ok ([] : List D))).bind A_most_threes) (Out.ok ([] : List D))) (oCons (Out.ok told11) (Out.ok ([] : List D)))).bind dBool)))).bind fun v => if v = true then (Pn.ret ((Out.ok (PyData.bool false)).so fun d => .rt d)) else (Pn.ret (.nx ()))) fun (p12 : Unit) => ((Pn.lift ((oCons (Out.ok b8) (oCons (Out.ok told11) (Out.ok ([] : List D)))).bind A__law_held)).bind fun (held13 : D) => (Pn.seq ((Pn.lift ((o2 qNe (((oItemsA (Out.ok held13)).bind fun items => (compO tgName (fun b14 => ((o2 qGtA ((Out.ok b14).bind fun y => ixIx held13 (mkTR held13) y) (Out.ok (PyData.int 1))).bind dBool)) (fun b14 => (Out.ok b14)) items).noer).bind fun ds => Out.ok (PyData.list ds)) ((Out.ok ([] : List D)).bind fun ds => Out.ok (PyData.list ds))).bind dBool)).bind fun v => if v = true then (Pn.ret ((Out.ok (PyData.bool false)).so fun d => .rt d)) else (Pn.ret (.nx ()))) fun (p15 : Unit) => ((Pn.lift ((oItemsA (Out.ok held13)).bind fun items => (compO tgName (fun b16 => ((o2 qEq ((Out.ok b16).bind fun y => ixIx held13 (mkTR held13) y) (Out.ok (PyData.int 0))).bind dBool)) (fun b16 => (Out.ok b16)) items).noer)).bind fun (left17 : List D) => ((Pn.lift (oIf ((o2 qEq (Out.ok b8) (Out.ok (PyData.int 0))).bind dBool) (Out.ok (PyData.str "none")) (o2 qIx ((oCons (Out.ok (PyData.str "pairs")) (oCons (Out.ok (PyData.str "none")) (oCons (Out.ok (PyData.str "pairs")) (oCons (Out.ok (PyData.str "none")) (oCons (Out.ok (PyData.str "star")) (oCons (Out.ok (PyData.str "ring")) (Out.ok ([] : List D)))))))).bind fun ds => Out.ok (PyData.list ds)) (o2 qMod (Out.ok b8) (Out.ok (PyData.int 6)))))).bind fun (due18 : D) => (Pn.seq ((Pn.lift (oOr ((o2 qNe ((oCons (Out.ok b8) (oCons (Out.ok (PyData.list left17)) (Out.ok ([] : List D)))).bind A__law_shape) (Out.ok due18)).bind dBool) ((oNeRepr (oCons ((oCons (Out.ok b8) (Out.ok ([] : List D))).bind A_left_shape) (Out.ok ([] : List D))) (oCons (Out.ok due18) (Out.ok ([] : List D)))).bind dBool))).bind fun v => if v = true then (Pn.ret ((Out.ok (PyData.bool false)).so fun d => .rt d)) else (Pn.ret (.nx ()))) fun (p19 : Unit) => (Pn.seq (((p2 qNe (pN dRepr (pCons ((pCons (Pn.lift (Out.ok b8)) (pCons ((Pn.lift (oCons (Out.ok (PyData.list left17)) (Out.ok ([] : List D)))).bind A__law_mixed) (Pn.lift (Out.ok ([] : List D))))).bind fun a => Pn.lift (A_shape_of a)) (Pn.lift (Out.ok ([] : List D))))) (Pn.lift (oN dRepr (oCons (Out.ok due18) (Out.ok ([] : List D)))))).bind fun d => Pn.lift (dBool d)).bind fun v => if v = true then (Pn.ret ((Out.ok (PyData.bool false)).so fun d => .rt d)) else (Pn.ret (.nx ()))) fun (p20 : Unit) => (Pn.ret (.nx ()))))))))))))
theorem r_B_law_0  {j3 : Pl} {j4 : Pl} {j5 : Pl} {j6 : Pl} {j7 : Pl}   (l1 : Unit) (b8 : D) : PSj (B_law_0) [.no, .rv .pen, .rv (.dat b8), j3.1, j4.1, j5.1, .no, j6.1, j7.1] (F_law_0 l1 b8) ⟨(fun (p_ : Unit) (s_ : List Sl) => ∃ j2_ : Pl, ∃ j3_ : Pl, ∃ j4_ : Pl, ∃ j5_ : Pl, ∃ j7_ : Pl, ∃ j8_ : Pl, s_ = [.no, .rv .pen, j2_.1, j3_.1, j4_.1, j5_.1, .no, j7_.1, j8_.1]), (fun (p_ : Unit) (s_ : List Sl) => ∃ j2_ : Pl, ∃ j3_ : Pl, ∃ j4_ : Pl, ∃ j5_ : Pl, ∃ j7_ : Pl, ∃ j8_ : Pl, s_ = [.no, .rv .pen, j2_.1, j3_.1, j4_.1, j5_.1, .no, j7_.1, j8_.1])⟩ X0 := by
  unfold B_law_0 F_law_0
  exact (pj_set (f := fun (bar9 : D) => [.no, .rv .pen, .rv (.dat b8), .rv (.dat bar9), j4.1, j5.1, .no, j6.1, j7.1])  (RO.po (r_call ra__law_bar (r_dcons (r_name (i := 2) rfl) r_dnil) (fun e c h => h.elim))) (fun _ => rfl) (fun (bar9 : D) => (pj_seq (pj_if (J := ⟨(fun (p_ : Unit) (s_ : List Sl) => s_ = [.no, .rv .pen, .rv (.dat b8), .rv (.dat bar9), j4.1, j5.1, .no, j6.1, j7.1]), _⟩) (RO.po (r_orT (r_bool (.le (neRepr_le (oCons ((oCons (Out.ok b8) (Out.ok ([] : List D))).bind A_most_bar) (Out.ok ([] : List D))) (oCons (Out.ok bar9) (Out.ok ([] : List D)))) (r_2 s_ne (r_dat (r_frz (r_N s_repr (r_bcons (r_dat (r_call ra_most_bar (r_dcons (r_name (i := 2) rfl) r_dnil) (fun e c h => h.elim))) r_bnil)))) (r_dat (r_frz (r_N s_repr (r_bcons (r_nameB (i := 3) rfl) r_bnil))))))) (r_bool (.le (neRepr_le (oCons ((oCons (Out.ok b8) (Out.ok ([] : List D))).bind A_most_number) (Out.ok ([] : List D))) (oCons (o2 qIx (Out.ok bar9) (Out.ok (PyData.int 2))) (Out.ok ([] : List D)))) (r_2 s_ne (r_dat (r_frz (r_N s_repr (r_bcons (r_dat (r_call ra_most_number (r_dcons (r_name (i := 2) rfl) r_dnil) (fun e c h => h.elim))) r_bnil)))) (r_dat (r_frz (r_N s_repr (r_bcons (r_dat (r_frz (r_2 s_ixQ (r_nameB (i := 3) rfl) (r_dat r_C)))) r_bnil))))))))) (RS.ps (rs_ret r_C)) (RS.ps (rs_next rfl))) (fun p10 s_ h_ => by subst h_; exact (pj_set (f := fun (told11 : D) => [.no, .rv .pen, .rv (.dat b8), .rv (.dat bar9), .rv (.dat told11), j5.1, .no, j6.1, j7.1])  (RO.po (r_call ra_most_threes (r_dcons (r_name (i := 2) rfl) r_dnil) (fun e c h => h.elim))) (fun _ => rfl) (fun (told11 : D) => (pj_seq (pj_if (J := ⟨(fun (p_ : Unit) (s_ : List Sl) => s_ = [.no, .rv .pen, .rv (.dat b8), .rv (.dat bar9), .rv (.dat told11), j5.1, .no, j6.1, j7.1]), _⟩) (RO.po (r_orT (r_notT (r_bool (r_z (r_call ra__law_are_threes (r_dcons (r_name (i := 2) rfl) (r_dcons (r_name (i := 4) rfl) r_dnil)) (fun e c h => h.elim))))) (r_orT (r_bool (r_2 s_neQ (r_dat (r_frz (r_N s_lenQ (r_bcons (r_nameB (i := 4) rfl) r_bnil)))) (r_dat (r_frz (r_2 s_ixQ (r_nameB (i := 3) rfl) (r_dat r_C)))))) (r_bool (.le (neRepr_le (oCons ((oCons (Out.ok b8) (Out.ok ([] : List D))).bind A_most_threes) (Out.ok ([] : List D))) (oCons (Out.ok told11) (Out.ok ([] : List D)))) (r_2 s_ne (r_dat (r_frz (r_N s_repr (r_bcons (r_dat (r_call ra_most_threes (r_dcons (r_name (i := 2) rfl) r_dnil) (fun e c h => h.elim))) r_bnil)))) (r_dat (r_frz (r_N s_repr (r_bcons (r_nameB (i := 4) rfl) r_bnil)))))))))) (RS.ps (rs_ret r_C)) (RS.ps (rs_next rfl))) (fun p12 s_ h_ => by subst h_; exact (pj_set (f := fun (held13 : D) => [.no, .rv .pen, .rv (.dat b8), .rv (.dat bar9), .rv (.dat told11), .rv (.dat held13), .no, j6.1, j7.1])  (RO.po (r_call ra__law_held (r_dcons (r_name (i := 2) rfl) (r_dcons (r_name (i := 4) rfl) r_dnil)) (fun e c h => h.elim))) (fun _ => rfl) (fun (held13 : D) => (pj_seq (pj_if (J := ⟨(fun (p_ : Unit) (s_ : List Sl) => s_ = [.no, .rv .pen, .rv (.dat b8), .rv (.dat bar9), .rv (.dat told11), .rv (.dat held13), .no, j6.1, j7.1]), _⟩) (RO.po (r_bool (r_2 s_neQ (r_dat (r_frz (r_lz (r_comp (sw := [.no, .rv .pen, .rv (.dat b8), .rv (.dat bar9), .rv (.dat told11), .rv (.dat held13), .no, j6.1, j7.1]) (sb := fun b14 => [.no, .rv .pen, .rv (.dat b8), .rv (.dat bar9), .rv (.dat told11), .rv (.dat held13), .rv (.dat b14), j6.1, j7.1]) (s2 := [.no, .rv .pen, .rv (.dat b8), .rv (.dat bar9), .rv (.dat told11), .rv (.dat held13), .no, j6.1, j7.1]) (by (try simp only [List.map_cons, List.map_nil]); repeat' first | exact plain_nil | refine plain_cons ?_ ?_ | exact True.intro | exact Subtype.property _) (r_itemsA (r_name (i := 5) rfl)) (fun _ => rfl) rg_set' (fun b14 => (r_bool (r_2 s_gtQ (r_dat (r_frz (r_ixV (i := 5) rfl (r_nameB (i := 6) rfl)))) (r_dat r_C)))) (fun b14 => (r_name (i := 6) rfl)) (fun _ _ => rfl) (fun _ => rfl))))) (r_dat (r_frz (r_lz (r_lst r_dnil))))))) (RS.ps (rs_ret r_C)) (RS.ps (rs_next rfl))) (fun p15 s_ h_ => by subst h_; exact (pj_setL (f := fun (left17 : List D) => [.no, .rv .pen, .rv (.dat b8), .rv (.dat bar9), .rv (.dat told11), .rv (.dat held13), .no, .lst left17, j7.1])  (RO.po (r_comp (sw := [.no, .rv .pen, .rv (.dat b8), .rv (.dat bar9), .rv (.dat told11), .rv (.dat held13), .no, j6.1, j7.1]) (sb := fun b16 => [.no, .rv .pen, .rv (.dat b8), .rv (.dat bar9), .rv (.dat told11), .rv (.dat held13), .rv (.dat b16), j6.1, j7.1]) (s2 := [.no, .rv .pen, .rv (.dat b8), .rv (.dat bar9), .rv (.dat told11), .rv (.dat held13), .no, j6.1, j7.1]) (by (try simp only [List.map_cons, List.map_nil]); repeat' first | exact plain_nil | refine plain_cons ?_ ?_ | exact True.intro | exact Subtype.property _) (r_itemsA (r_name (i := 5) rfl)) (fun _ => rfl) rg_set' (fun b16 => (r_bool (r_2 s_eqQ (r_dat (r_frz (r_ixV (i := 5) rfl (r_nameB (i := 6) rfl)))) (r_dat r_C)))) (fun b16 => (r_name (i := 6) rfl)) (fun _ _ => rfl) (fun _ => rfl))) (fun _ => rfl) (fun (left17 : List D) => pj_give (i := 7) (s1 := [.no, .rv .pen, .rv (.dat b8), .rv (.dat bar9), .rv (.dat told11), .rv (.dat held13), .no, .rv (.dat (PyData.list left17)), j7.1]) rfl rfl (pj_set (f := fun (due18 : D) => [.no, .rv .pen, .rv (.dat b8), .rv (.dat bar9), .rv (.dat told11), .rv (.dat held13), .no, .rv (.dat (PyData.list left17)), .rv (.dat due18)])  (RO.po (r_if (r_bool (r_2 s_eqQ (r_nameB (i := 2) rfl) (r_dat r_C))) r_C (r_frz (r_2 s_ixQ (r_dat (r_frz (r_lz (r_lst (r_dcons r_C (r_dcons r_C (r_dcons r_C (r_dcons r_C (r_dcons r_C (r_dcons r_C r_dnil)))))))))) (r_dat (r_frz (r_2 s_modQ (r_nameB (i := 2) rfl) (r_dat r_C)))))))) (fun _ => rfl) (fun (due18 : D) => (pj_seq (pj_if (J := ⟨(fun (p_ : Unit) (s_ : List Sl) => s_ = [.no, .rv .pen, .rv (.dat b8), .rv (.dat bar9), .rv (.dat told11), .rv (.dat held13), .no, .rv (.dat (PyData.list left17)), .rv (.dat due18)]), _⟩) (RO.po (r_orT (r_bool (r_2 s_neQ (r_dat (r_call ra__law_shape (r_dcons (r_name (i := 2) rfl) (r_dcons (r_name (i := 7) rfl) r_dnil)) (fun e c h => h.elim))) (r_nameB (i := 8) rfl))) (r_bool (.le (neRepr_le (oCons ((oCons (Out.ok b8) (Out.ok ([] : List D))).bind A_left_shape) (Out.ok ([] : List D))) (oCons (Out.ok due18) (Out.ok ([] : List D)))) (r_2 s_ne (r_dat (r_frz (r_N s_repr (r_bcons (r_dat (r_call ra_left_shape (r_dcons (r_name (i := 2) rfl) r_dnil) (fun e c h => h.elim))) r_bnil)))) (r_dat (r_frz (r_N s_repr (r_bcons (r_nameB (i := 8) rfl) r_bnil))))))))) (RS.ps (rs_ret r_C)) (RS.ps (rs_next rfl))) (fun p19 s_ h_ => by subst h_; exact (pj_seq (pj_if (J := ⟨(fun (p_ : Unit) (s_ : List Sl) => s_ = [.no, .rv .pen, .rv (.dat b8), .rv (.dat bar9), .rv (.dat told11), .rv (.dat held13), .no, .rv (.dat (PyData.list left17)), .rv (.dat due18)]), _⟩) (p_bool (p_2 s_neQ (p_dat (p_frz (p_N s_repr (p_bcons (p_dat (p_call ra_shape_of (p_dcons (RO.po (r_name (i := 2) rfl)) (p_dcons (p_callP ra__law_mixed (p_pcons (i := 1) rfl (RO.po (r_dcons (r_name (i := 7) rfl) r_dnil)))) (RO.po r_dnil))))) (RO.po r_bnil))))) (RO.po (r_dat (r_frz (r_N s_repr (r_bcons (r_nameB (i := 8) rfl) r_bnil))))))) (RS.ps (rs_ret r_C)) (RS.ps (rs_next rfl))) (fun p20 s_ h_ => by subst h_; exact (RS.ps (rs_next ⟨⟨_, by first | exact True.intro | exact Subtype.property _⟩, ⟨_, by first | exact True.intro | exact Subtype.property _⟩, ⟨_, by first | exact True.intro | exact Subtype.property _⟩, ⟨_, by first | exact True.intro | exact Subtype.property _⟩, ⟨_, by first | exact True.intro | exact Subtype.property _⟩, ⟨_, by first | exact True.intro | exact Subtype.property _⟩, rfl⟩))))))))))))))))))))))
def F_law : Pn (So Unit Unit) := (Pn.seq ((pItemsA ((pCons ((Pn.lift (oCons (Out.ok (PyData.int 61)) (Out.ok ([] : List D)))).bind A__law_draw) (pCons ((Pn.lift (oCons (Out.ok (PyData.int 31)) (Out.ok ([] : List D)))).bind A__law_draw) (pCons ((Pn.lift (oCons (Out.ok (PyData.int 13)) (Out.ok ([] : List D)))).bind A__law_draw) (pCons ((Pn.lift (oCons (Out.ok (PyData.int 7)) (Out.ok ([] : List D)))).bind A__law_draw) (Pn.lift (Out.ok ([] : List D))))))).bind fun ds => Pn.ret (PyData.list ds))).bind fun items => forP (fun l1 d => (Pn.lift (tgName d)).bind fun b8 => F_law_0 l1 b8) items ()) fun (p21 : Unit) => (Pn.ret ((Out.ok (PyData.bool true)).so fun d => .rt d)))
theorem law_plain_of (q : F_law 0 fun v _ => v = .rt (.bool true)) : wTrue W_law 9 := by
  refine law_of (t := F_law) (s := [.no, .rv .pen, .no, .no, .no, .no, .no, .no, .no]) rfl ?_ q
  unfold W_law F_law
  exact (pj_seq (pj_for (N := (fun (p_ : Unit) (s_ : List Sl) => ∃ j2_ : Pl, ∃ j3_ : Pl, ∃ j4_ : Pl, ∃ j5_ : Pl, ∃ j7_ : Pl, ∃ j8_ : Pl, s_ = [.no, .rv .pen, j2_.1, j3_.1, j4_.1, j5_.1, .no, j7_.1, j8_.1])) (p_itemsA (p_frz (p_lz (p_lst (p_dcons (p_callP ra__law_draw (p_pcons (i := 1) rfl (RO.po (r_dcons r_C r_dnil)))) (p_dcons (p_callP ra__law_draw (p_pcons (i := 1) rfl (RO.po (r_dcons r_C r_dnil)))) (p_dcons (p_callP ra__law_draw (p_pcons (i := 1) rfl (RO.po (r_dcons r_C r_dnil)))) (p_dcons (p_callP ra__law_draw (p_pcons (i := 1) rfl (RO.po (r_dcons r_C r_dnil)))) (RO.po r_dnil))))))))) ⟨⟨_, by first | exact True.intro | exact Subtype.property _⟩, ⟨_, by first | exact True.intro | exact Subtype.property _⟩, ⟨_, by first | exact True.intro | exact Subtype.property _⟩, ⟨_, by first | exact True.intro | exact Subtype.property _⟩, ⟨_, by first | exact True.intro | exact Subtype.property _⟩, ⟨_, by first | exact True.intro | exact Subtype.property _⟩, rfl⟩ (fun l1 s_ h_ => by obtain ⟨j2, j3, j4, j5, j6, j7, rfl⟩ := h_; exact pt_of rg_set' (fun b8 => (r_B_law_0  l1 b8))) rfl) (fun p21 s_ h_ => by obtain ⟨j22, j23, j24, j25, j26, j27, rfl⟩ := h_; exact (RS.ps (rs_ret r_C))))
end
end Lk22

namespace Lk22
open PySem PySem.Spec PyProof.Rows L2 VL
noncomputable section
/-! the shape of a permutation -/
def cntIn (items : List D) (b : D) : Out D := oN dLenQ (oCons (((oItemsA (Out.ok (.list items))).bind fun items => (compO tgName (fun b4 => ((o2 dInA (Out.ok b) (Out.ok b4)).bind dBool)) (fun b4 => (Out.ok b4)) items).noer).bind fun ds => Out.ok (PyData.list ds)) (Out.ok ([] : List D)))
theorem noer_is {t : Out α} {a : α} (h : t.noer = .ok a) : t = .ok a := by cases t <;> first | exact h | (unfold Out.noer at h; cases h)
theorem cnt_perm {xs ys : List D} (p : ys.Perm xs) (b y : D) (h : cntIn xs b = .ok y) : cntIn ys b = .ok y := by
  unfold cntIn at h ⊢
  rw [oItemsA_l, Out.ok_bind] at h ⊢
  cases hc : compO tgName (fun b4 => ((o2 dInA (Out.ok b) (Out.ok b4)).bind dBool)) (fun b4 => (Out.ok b4)) xs with
  | ok zs =>
    obtain ⟨zs', h', p'⟩ := compO_perm p hc
    rw [h']
    rw [hc] at h
    rw [noer_ok, Out.ok_bind, oCons_ok, oN_ok] at h ⊢
    have : dLenQ [PyData.list zs'] = dLenQ [PyData.list zs] := by
      unfold dLenQ
      simp only [dLen, p'.length_eq]
    rw [this]; exact h
  | er e => rw [hc] at h; cases h
  | bad => rw [hc] at h; cases h
theorem need_ok {n : D} {xs : List D} (h : allNx (F_need_pairs_0 n) xs = true) : F_need_pairs n (.list xs) = .ok .none := by
  unfold F_need_pairs
  rw [oItemsA_l, Out.ok_so]
  have e := forO_nx (M := Unit) (f := fun l3 d => (tgName d).noer.so fun b5 => F_need_pairs_0 n l3 b5) xs fun d hd => by
    show (tgName d).noer.so _ = _
    unfold tgName
    rw [noer_ok, Out.ok_so]
    exact allNx_mem h d hd
  rw [e]; rfl
theorem allNx_perm {f : Unit → D → So Unit Unit} : ∀ {xs : List D}, (∀ d ∈ xs, f () d = .nx ()) → allNx f xs = true
  | [], _ => rfl
  | x :: r, h => by
    unfold allNx
    rw [h x (List.mem_cons_self ..)]
    exact allNx_perm fun d hd => h d (List.mem_cons_of_mem _ hd)
theorem len_perm {xs ys : List D} (p : ys.Perm xs) : oN dLenQ (oCons (Out.ok (PyData.list ys)) (Out.ok ([] : List D))) = oN dLenQ (oCons (Out.ok (PyData.list xs)) (Out.ok ([] : List D))) := by
  rw [oCons_ok, oCons_ok, oN_ok, oN_ok]
  have : dLenQ [PyData.list ys] = dLenQ [PyData.list xs] := by
    unfold dLenQ
    simp only [dLen, p.length_eq]
  rw [this]
theorem dlen_perm {xs ys : List D} (p : ys.Perm xs) (hk : keyd xs = true) (hn : xs.length ≤ 16777216) :
    oN dLenQ (oCons (((oItemsA (Out.ok (.list ys))).bind fun items => (dcompF tgName (fun b9 => (Out.ok true)) (fun b9 => (Out.ok b9)) (fun b9 => (Out.ok (PyData.bool true))) items TD.nil).noer).bind fun ds => Out.ok (dtD (TD.l ds))) (Out.ok ([] : List D))) =
    oN dLenQ (oCons (((oItemsA (Out.ok (.list xs))).bind fun items => (dcompF tgName (fun b9 => (Out.ok true)) (fun b9 => (Out.ok b9)) (fun b9 => (Out.ok (PyData.bool true))) items TD.nil).noer).bind fun ds => Out.ok (dtD (TD.l ds))) (Out.ok ([] : List D))) := by
  obtain ⟨v, v', h1, h2, h3⟩ := dset_perm p hk hn
  rw [oItemsA_l, oItemsA_l, Out.ok_bind, Out.ok_bind, h1, h2, noer_ok, noer_ok, Out.ok_bind, Out.ok_bind, oCons_ok, oCons_ok, oN_ok, oN_ok]
  have : dLenQ [dtD (TD.l v')] = dLenQ [dtD (TD.l v)] := by
    show (Out.ok (PyData.int _) : Out D) = Out.ok (PyData.int _)
    rw [List.length_map, List.length_map, h3]
  rw [this]
/-- the same shape however the pairs lie -/
theorem shape_perm {n : D} {xs ys : List D} {v : D} (p : ys.Perm xs) (hk : keyd xs = true) (hn : xs.length ≤ 16777216) (h : F_shape_in n (.list xs) = .ok v) : F_shape_in n (.list ys) = .ok v := by
  unfold F_shape_in at h ⊢
  rw [len_perm p, dlen_perm p hk hn]
  cases he : ((oRange1 (oCons (Out.ok n) (Out.ok ([] : List D)))).bind fun items => (compO tgName (fun b3 => (Out.ok true)) (cntIn xs) items).noer) with
  | ok each =>
    have he' : ((oRange1 (oCons (Out.ok n) (Out.ok ([] : List D)))).bind fun items => (compO tgName (fun b3 => (Out.ok true)) (cntIn ys) items).noer) = .ok each := by
      cases hr : oRange1 (oCons (Out.ok n) (Out.ok ([] : List D))) with
      | ok items =>
        rw [hr, Out.ok_bind] at he
        rw [Out.ok_bind, compO_yes (cntIn xs) (noer_is he) (cntIn ys) fun b _ y hy => cnt_perm p b y hy]; rfl
      | er e => rw [hr] at he; cases he
      | bad => rw [hr] at he; cases he
    unfold cntIn at he he'
    rw [he']
    rw [he] at h
    exact h
  | er e => unfold cntIn at he; rw [he] at h; cases h
  | bad => unfold cntIn at he; rw [he] at h; cases h
theorem shape_of_perm {n : D} {xs ys : List D} {v : D} (hc : F_need_count (.str "things") n = .ok .none) (hp : allNx (F_need_pairs_0 n) xs = true) (p : ys.Perm xs) (hk : keyd xs = true) (hn : xs.length ≤ 16777216) (h : F_shape_in n (.list xs) = .ok v) : F_shape_of n (.list ys) = .ok v := by
  have hp' : allNx (F_need_pairs_0 n) ys = true := allNx_perm fun d hd => allNx_mem hp d (p.mem_iff.mp hd)
  unfold F_shape_of
  have e1 : (oCons (Out.ok (PyData.str "things")) (oCons (Out.ok n) (Out.ok ([] : List D)))).bind A_need_count = .ok .none := by
    rw [oCons_ok, oCons_ok, Out.ok_bind]; exact hc
  have e2 : (oCons (Out.ok n) (oCons (Out.ok (PyData.list ys)) (Out.ok ([] : List D)))).bind A_need_pairs = .ok .none := by
    rw [oCons_ok, oCons_ok, Out.ok_bind]; exact need_ok hp'
  have e3 : (oCons (Out.ok n) (oCons ((oN dListA (oCons (Out.ok (PyData.list ys)) (Out.ok ([] : List D)))).bind fun ds => Out.ok (PyData.list ds)) (Out.ok ([] : List D)))).bind A_shape_in = .ok v := by
    have : (oN dListA (oCons (Out.ok (PyData.list ys)) (Out.ok ([] : List D)))) = .ok ys := rfl
    rw [this, Out.ok_bind, oCons_ok, oCons_ok, Out.ok_bind]
    exact shape_perm p hk hn h
  rw [e1, e2, e3]; rfl
/-! what is mixed is a permutation -/
theorem erase_perm : ∀ (l : List D) (r : Nat) (hr : r < l.length), (l[r] :: l.eraseIdx r).Perm l
  | [], _, h => absurd h (Nat.not_lt_zero _)
  | x :: t, 0, _ => List.Perm.refl _
  | x :: t, r + 1, h => (List.Perm.swap x _ _).trans (List.Perm.cons x (erase_perm t r (Nat.lt_of_succ_lt_succ h)))
theorem flPop_ok {f l : FL} {r : Nat} (hn : f.n < 16777216) (hl : l.n < 16777216) (hr : r < l.l.length) : ∃ f' l' : FL, flPop f l (.int r) = .ok (f', l') ∧ (f'.l ++ l'.l).Perm (f.l ++ l.l) ∧ f'.n = f.n + 1 ∧ l'.n + 1 = l.n := by
  have hz : l.l[r]? = some l.l[r] := List.getElem?_eq_getElem hr
  have hs : seqIndex? (r : Int) l.l.length = some r := by
    unfold seqIndex?
    simp
    omega
  refine ⟨f.push l.l[r], FL.of (l.l.eraseIdx r), ?_, ?_, rfl, ?_⟩
  · unfold flPop
    have hb : Nat.blt f.n 16777216 = true := Nat.blt_eq.mpr hn
    rw [hb, cond_true]
    have hlen : l.l.length = l.n := FL.len l
    have hd : dPop l.l (.int r) = .ok (l.l[r], l.l.eraseIdx r) := by
      unfold dPop
      simp only [hs, hz]
      rw [if_pos (by omega)]
    rw [hd]; rfl
  · rw [FL.l_push, FL.l_of]
    rw [List.append_assoc, List.singleton_append]
    refine List.Perm.append_left _ ?_
    exact erase_perm _ _ hr
  · rw [← FL.len, ← FL.len, FL.l_of, List.length_eraseIdx, if_pos hr]
    omega
theorem mixed_0 {l f : FL} {d : D} {c : Nat} {P : So (FL × FL) (FL × FL) → Nat → Prop} (hf : f.n < 16777216) (hl : l.n < 16777216) (h0 : 0 < l.n) (hc : c < 2 ^ 40)
    (h : ∀ l' f' : FL, (f'.l ++ l'.l).Perm (f.l ++ l.l) → f'.n = f.n + 1 → l'.n + 1 = l.n → P (.nx (l', f')) (c + 1)) : F__law_mixed_0 (l, f) d c P := by
  have hlen : l.l.length = l.n := FL.len l
  unfold F__law_mixed_0
  show drawP (.int (l.l.length : Nat)) c (fun d c' => ((Pn.lift (flPop f l d)).bind fun p_ => Pn.ret (So.nx (p_.2, p_.1))) c' P)
  refine draw_ok _ l.n (by rw [hlen]) c _ h0 (by omega) hc fun r hr => ?_
  obtain ⟨f', l', e, p, h1, h2⟩ := flPop_ok (f := f) (l := l) (r := r) hf hl (by rw [hlen]; exact hr)
  show Out.post (flPop f l (.int r)) _ _
  rw [e]
  exact h l' f' p h1 h2
theorem mixed_loop : ∀ (items : List D) (l f : FL) (c : Nat) (Q : So (FL × FL) Unit → Nat → Prop), l.n = items.length → f.n + l.n < 16777216 → c + l.n < 2 ^ 40 →
    (∀ f' l' : FL, f'.l.Perm (f.l ++ l.l) → Q (.nx (l', f')) (c + items.length)) → forP (fun l4 d => (Pn.lift (tgName d)).bind fun b6 => F__law_mixed_0 l4 b6) items (l, f) c Q
  | [], l, f, c, Q, hl, _, _, h => by
    have e : l.l = [] := List.eq_nil_of_length_eq_zero (by rw [FL.len]; exact hl)
    exact h f l (by rw [e, List.append_nil])
  | d :: r, l, f, c, Q, hl, hn, hc, h => by
    rw [List.length_cons] at hl h
    show F__law_mixed_0 (l, f) d c _
    refine mixed_0 (by omega) (by omega) (by omega) (by omega) fun l' f' p hf' hl' => ?_
    refine mixed_loop r l' f' (c + 1) Q (by omega) (by omega) (by omega) fun f'' l'' p' => ?_
    have := h f'' l'' (p'.trans p)
    rwa [show c + (r.length + 1) = c + 1 + r.length by omega] at this
theorem range1_len (xs : List D) (hn : xs.length < 16777216) : ∃ items : List D, items.length = xs.length ∧ oRange1 (oCons (oN dLenQ (oCons (Out.ok (PyData.list xs)) (Out.ok ([] : List D)))) (Out.ok ([] : List D))) = .ok items := by
  refine ⟨rangeD 0 ((xs.length : Nat) : Int).toNat, by simp [rangeD], ?_⟩
  show oRange1 (.ok [.int (xs.length : Nat)]) = _
  rw [oRange1_ok, if_pos (by omega)]
theorem mixed_ok (xs : List D) (c : Nat) (P : D → Nat → Prop) (hn : xs.length < 16777216) (hc : c + xs.length < 2 ^ 40) (h : ∀ ys : List D, ys.Perm xs → P (.list ys) (c + xs.length)) : F__law_mixed (.list xs) c P := by
  unfold F__law_mixed
  obtain ⟨items, hi, e⟩ := range1_len xs hn
  rw [e]
  show forP (fun l4 d => (Pn.lift (tgName d)).bind fun b6 => F__law_mixed_0 l4 b6) items (FL.of xs, FL.of []) c _
  have hz : (FL.of xs).n = xs.length := rfl
  have hz' : (FL.of ([] : List D)).n = 0 := rfl
  refine mixed_loop items _ _ c _ (by rw [hz, hi]) (by rw [hz, hz']; omega) (by rw [hz]; exact hc) fun f' l' p => ?_
  rw [FL.l_of, FL.l_of, List.nil_append] at p
  rw [hi]
  exact h _ p
end
end Lk22
namespace Lk22
open PySem PySem.Spec PyProof.Rows L2 VL
noncomputable section
def isNone (t : Out D) : Bool := match t with | .ok .none => true | _ => false
def isFalse (t : Out Bool) : Bool := match t with | .ok false => true | _ => false
theorem isNone_is {t : Out D} (h : isNone t = true) : t = .ok .none := by
  unfold isNone at h
  split at h
  · rfl
  · cases h
theorem isFalse_is {t : Out Bool} (h : isFalse t = true) : t = .ok false := by
  unfold isFalse at h
  split at h
  · rfl
  · cases h
def chk_F_law_0 (b8 : D) : Bool := (match ((oCons (Out.ok b8) (Out.ok ([] : List D))).bind A__law_bar) with | .ok bar9 => (match (oOr ((oNeRepr (oCons ((oCons (Out.ok b8) (Out.ok ([] : List D))).bind A_most_bar) (Out.ok ([] : List D))) (oCons (Out.ok bar9) (Out.ok ([] : List D)))).bind dBool) ((oNeRepr (oCons ((oCons (Out.ok b8) (Out.ok ([] : List D))).bind A_most_number) (Out.ok ([] : List D))) (oCons (o2 qIx (Out.ok bar9) (Out.ok (PyData.int 2))) (Out.ok ([] : List D)))).bind dBool)) with | .ok false => (match ((oCons (Out.ok b8) (Out.ok ([] : List D))).bind A_most_threes) with | .ok told11 => (match (oOr (oNot (((oCons (Out.ok b8) (oCons (Out.ok told11) (Out.ok ([] : List D)))).bind A__law_are_threes).bind dBool)) (oOr ((o2 qNe (oN dLenQ (oCons (Out.ok told11) (Out.ok ([] : List D)))) (o2 qIx (Out.ok bar9) (Out.ok (PyData.int 2)))).bind dBool) ((oNeRepr (oCons ((oCons (Out.ok b8) (Out.ok ([] : List D))).bind A_most_threes) (Out.ok ([] : List D))) (oCons (Out.ok told11) (Out.ok ([] : List D)))).bind dBool))) with | .ok false => (match ((oCons (Out.ok b8) (oCons (Out.ok told11) (Out.ok ([] : List D)))).bind A__law_held) with | .ok held13 => (match ((o2 qNe (((oItemsA (Out.ok held13)).bind fun items => (compO tgName (fun b14 => ((o2 qGtA ((Out.ok b14).bind fun y => ixIx held13 (mkTR held13) y) (Out.ok (PyData.int 1))).bind dBool)) (fun b14 => (Out.ok b14)) items).noer).bind fun ds => Out.ok (PyData.list ds)) ((Out.ok ([] : List D)).bind fun ds => Out.ok (PyData.list ds))).bind dBool) with | .ok false => (match ((oItemsA (Out.ok held13)).bind fun items => (compO tgName (fun b16 => ((o2 qEq ((Out.ok b16).bind fun y => ixIx held13 (mkTR held13) y) (Out.ok (PyData.int 0))).bind dBool)) (fun b16 => (Out.ok b16)) items).noer) with | .ok left17 => (match (oIf ((o2 qEq (Out.ok b8) (Out.ok (PyData.int 0))).bind dBool) (Out.ok (PyData.str "none")) (o2 qIx ((oCons (Out.ok (PyData.str "pairs")) (oCons (Out.ok (PyData.str "none")) (oCons (Out.ok (PyData.str "pairs")) (oCons (Out.ok (PyData.str "none")) (oCons (Out.ok (PyData.str "star")) (oCons (Out.ok (PyData.str "ring")) (Out.ok ([] : List D)))))))).bind fun ds => Out.ok (PyData.list ds)) (o2 qMod (Out.ok b8) (Out.ok (PyData.int 6))))) with | .ok due18 => (match (oOr ((o2 qNe ((oCons (Out.ok b8) (oCons (Out.ok (PyData.list left17)) (Out.ok ([] : List D)))).bind A__law_shape) (Out.ok due18)).bind dBool) ((oNeRepr (oCons ((oCons (Out.ok b8) (Out.ok ([] : List D))).bind A_left_shape) (Out.ok ([] : List D))) (oCons (Out.ok due18) (Out.ok ([] : List D)))).bind dBool)) with | .ok false => (match F_shape_in b8 (.list left17) with | .ok sh => (allNx (F_need_pairs_0 b8) left17 && keyd left17 && Nat.ble left17.length 100000 && isNone (F_need_count (.str "things") b8) && isFalse ((o2 qNe (oN dRepr (oCons (Out.ok sh) (Out.ok ([] : List D)))) (oN dRepr (oCons (Out.ok due18) (Out.ok ([] : List D))))).bind dBool)) | _ => false) | _ => false) | _ => false) | _ => false) | _ => false) | _ => false) | _ => false) | _ => false) | _ => false) | _ => false)
theorem chk_F_law_0_gives (b8 : D) (h : chk_F_law_0 b8 = true) : ∃ bar9 : D, ∃ told11 : D, ∃ held13 : D, ∃ left17 : List D, ∃ due18 : D, (((oCons (Out.ok b8) (Out.ok ([] : List D))).bind A__law_bar) = .ok bar9) ∧ ((oOr ((oNeRepr (oCons ((oCons (Out.ok b8) (Out.ok ([] : List D))).bind A_most_bar) (Out.ok ([] : List D))) (oCons (Out.ok bar9) (Out.ok ([] : List D)))).bind dBool) ((oNeRepr (oCons ((oCons (Out.ok b8) (Out.ok ([] : List D))).bind A_most_number) (Out.ok ([] : List D))) (oCons (o2 qIx (Out.ok bar9) (Out.ok (PyData.int 2))) (Out.ok ([] : List D)))).bind dBool)) = .ok false) ∧ (((oCons (Out.ok b8) (Out.ok ([] : List D))).bind A_most_threes) = .ok told11) ∧ ((oOr (oNot (((oCons (Out.ok b8) (oCons (Out.ok told11) (Out.ok ([] : List D)))).bind A__law_are_threes).bind dBool)) (oOr ((o2 qNe (oN dLenQ (oCons (Out.ok told11) (Out.ok ([] : List D)))) (o2 qIx (Out.ok bar9) (Out.ok (PyData.int 2)))).bind dBool) ((oNeRepr (oCons ((oCons (Out.ok b8) (Out.ok ([] : List D))).bind A_most_threes) (Out.ok ([] : List D))) (oCons (Out.ok told11) (Out.ok ([] : List D)))).bind dBool))) = .ok false) ∧ (((oCons (Out.ok b8) (oCons (Out.ok told11) (Out.ok ([] : List D)))).bind A__law_held) = .ok held13) ∧ (((o2 qNe (((oItemsA (Out.ok held13)).bind fun items => (compO tgName (fun b14 => ((o2 qGtA ((Out.ok b14).bind fun y => ixIx held13 (mkTR held13) y) (Out.ok (PyData.int 1))).bind dBool)) (fun b14 => (Out.ok b14)) items).noer).bind fun ds => Out.ok (PyData.list ds)) ((Out.ok ([] : List D)).bind fun ds => Out.ok (PyData.list ds))).bind dBool) = .ok false) ∧ (((oItemsA (Out.ok held13)).bind fun items => (compO tgName (fun b16 => ((o2 qEq ((Out.ok b16).bind fun y => ixIx held13 (mkTR held13) y) (Out.ok (PyData.int 0))).bind dBool)) (fun b16 => (Out.ok b16)) items).noer) = .ok left17) ∧ ((oIf ((o2 qEq (Out.ok b8) (Out.ok (PyData.int 0))).bind dBool) (Out.ok (PyData.str "none")) (o2 qIx ((oCons (Out.ok (PyData.str "pairs")) (oCons (Out.ok (PyData.str "none")) (oCons (Out.ok (PyData.str "pairs")) (oCons (Out.ok (PyData.str "none")) (oCons (Out.ok (PyData.str "star")) (oCons (Out.ok (PyData.str "ring")) (Out.ok ([] : List D)))))))).bind fun ds => Out.ok (PyData.list ds)) (o2 qMod (Out.ok b8) (Out.ok (PyData.int 6))))) = .ok due18) ∧ ((oOr ((o2 qNe ((oCons (Out.ok b8) (oCons (Out.ok (PyData.list left17)) (Out.ok ([] : List D)))).bind A__law_shape) (Out.ok due18)).bind dBool) ((oNeRepr (oCons ((oCons (Out.ok b8) (Out.ok ([] : List D))).bind A_left_shape) (Out.ok ([] : List D))) (oCons (Out.ok due18) (Out.ok ([] : List D)))).bind dBool)) = .ok false) ∧ ((match F_shape_in b8 (.list left17) with | .ok sh => (allNx (F_need_pairs_0 b8) left17 && keyd left17 && Nat.ble left17.length 100000 && isNone (F_need_count (.str "things") b8) && isFalse ((o2 qNe (oN dRepr (oCons (Out.ok sh) (Out.ok ([] : List D)))) (oN dRepr (oCons (Out.ok due18) (Out.ok ([] : List D))))).bind dBool)) | _ => false) = true) := by
  unfold chk_F_law_0 at h
  split at h
  case h_2 => cases h
  rename_i bar9 e0
  split at h
  case h_2 => cases h
  rename_i e1
  split at h
  case h_2 => cases h
  rename_i told11 e2
  split at h
  case h_2 => cases h
  rename_i e3
  split at h
  case h_2 => cases h
  rename_i held13 e4
  split at h
  case h_2 => cases h
  rename_i e5
  split at h
  case h_2 => cases h
  rename_i left17 e6
  split at h
  case h_2 => cases h
  rename_i due18 e7
  split at h
  case h_2 => cases h
  rename_i e8
  exact ⟨bar9, told11, held13, left17, due18, e0, e1, e2, e3, e4, e5, e6, e7, e8, h⟩

theorem tail_ok (b8 : D) (left17 : List D) (due18 : D) (h : (match F_shape_in b8 (.list left17) with | .ok sh => (allNx (F_need_pairs_0 b8) left17 && keyd left17 && Nat.ble left17.length 100000 && isNone (F_need_count (.str "things") b8) && isFalse ((o2 qNe (oN dRepr (oCons (Out.ok sh) (Out.ok ([] : List D)))) (oN dRepr (oCons (Out.ok due18) (Out.ok ([] : List D))))).bind dBool)) | _ => false) = true) (c : Nat) (P : So Unit Unit → Nat → Prop) (hc : c + 100000 < 2 ^ 40) (q : ∀ c', c' ≤ c + 100000 → P (.nx ()) c') :
    (Pn.seq (((p2 qNe (pN dRepr (pCons ((pCons (Pn.lift (Out.ok b8)) (pCons ((Pn.lift (oCons (Out.ok (PyData.list left17)) (Out.ok ([] : List D)))).bind A__law_mixed) (Pn.lift (Out.ok ([] : List D))))).bind fun a => Pn.lift (A_shape_of a)) (Pn.lift (Out.ok ([] : List D))))) (Pn.lift (oN dRepr (oCons (Out.ok due18) (Out.ok ([] : List D)))))).bind fun d => Pn.lift (dBool d)).bind fun v => if v = true then (Pn.ret ((Out.ok (PyData.bool false)).so fun d => .rt d)) else (Pn.ret (.nx ()))) fun (p20 : Unit) => (Pn.ret (.nx ()))) c P := by
  split at h
  case h_2 => cases h
  rename_i sh e
  simp only [Bool.and_eq_true] at h
  obtain ⟨⟨⟨⟨h1, h2⟩, h3⟩, h4⟩, h5⟩ := h
  have h3 := Nat.le_of_ble_eq_true h3
  have h4 := isNone_is h4
  have h5 := isFalse_is h5
  simp only [Pn.seq, Pn.bind, Pn.lift, Pn.ret, p2, pN, pCons, Out.post, oCons_ok, Out.ok_bind, A__law_mixed_is]
  refine mixed_ok left17 c _ (by omega) (by omega) fun ys p => ?_
  simp only [A_shape_of_is]
  rw [shape_of_perm h4 h1 p h2 (by omega) e]
  have q' := q (c + left17.length) (by omega)
  simp only [oCons_ok, oN_ok] at h5 ⊢
  cases e1 : dRepr [sh] with
  | er e => rw [e1] at h5; cases h5
  | bad => rw [e1] at h5; cases h5
  | ok x1 =>
  rw [e1] at h5
  dsimp only
  cases e2 : dRepr [due18] with
  | er e => rw [e2] at h5; cases h5
  | bad => rw [e2] at h5; cases h5
  | ok x2 =>
  rw [e2] at h5
  have h5 : ((qNe x1 x2).noer).bind dBool = .ok false := h5
  show Out.post (qNe x1 x2) _ _
  cases e3 : qNe x1 x2 with
  | er e => rw [e3] at h5; cases h5
  | bad => rw [e3] at h5; cases h5
  | ok x3 =>
  rw [e3] at h5
  have h5 : dBool x3 = .ok false := h5
  show Out.post (dBool x3) _ _
  rw [h5]
  exact q' 
theorem step_ok (b8 : D) (h : chk_F_law_0 b8 = true) (c : Nat) (P : So Unit Unit → Nat → Prop) (hc : c + 100000 < 2 ^ 40) (q : ∀ c', c' ≤ c + 100000 → P (.nx ()) c') : F_law_0 () b8 c P := by
  obtain ⟨bar9, told11, held13, left17, due18, e0, e1, e2, e3, e4, e5, e6, e7, e8, ht⟩ := chk_F_law_0_gives b8 h
  unfold F_law_0
  exact L_let e0 <| L_guard e1 <| L_let e2 <| L_guard e3 <| L_let e4 <| L_guard e5 <| L_let e6 <| L_let e7 <| L_guard e8 <| tail_ok b8 left17 due18 ht c P hc q
theorem chk_0 : chk_F_law_0 (.int (0 : Nat)) = true := by decide +kernel
theorem chk_1 : chk_F_law_0 (.int (1 : Nat)) = true := by decide +kernel
theorem chk_2 : chk_F_law_0 (.int (2 : Nat)) = true := by decide +kernel
theorem chk_3 : chk_F_law_0 (.int (3 : Nat)) = true := by decide +kernel
theorem chk_4 : chk_F_law_0 (.int (4 : Nat)) = true := by decide +kernel
theorem chk_5 : chk_F_law_0 (.int (5 : Nat)) = true := by decide +kernel
theorem chk_6 : chk_F_law_0 (.int (6 : Nat)) = true := by decide +kernel
theorem chk_7 : chk_F_law_0 (.int (7 : Nat)) = true := by decide +kernel
theorem chk_8 : chk_F_law_0 (.int (8 : Nat)) = true := by decide +kernel
theorem chk_9 : chk_F_law_0 (.int (9 : Nat)) = true := by decide +kernel
theorem chk_10 : chk_F_law_0 (.int (10 : Nat)) = true := by decide +kernel
theorem chk_11 : chk_F_law_0 (.int (11 : Nat)) = true := by decide +kernel
theorem chk_12 : chk_F_law_0 (.int (12 : Nat)) = true := by decide +kernel
theorem chk_13 : chk_F_law_0 (.int (13 : Nat)) = true := by decide +kernel
theorem chk_14 : chk_F_law_0 (.int (14 : Nat)) = true := by decide +kernel
theorem chk_15 : chk_F_law_0 (.int (15 : Nat)) = true := by decide +kernel
theorem chk_16 : chk_F_law_0 (.int (16 : Nat)) = true := by decide +kernel
theorem chk_17 : chk_F_law_0 (.int (17 : Nat)) = true := by decide +kernel
theorem chk_18 : chk_F_law_0 (.int (18 : Nat)) = true := by decide +kernel
theorem chk_19 : chk_F_law_0 (.int (19 : Nat)) = true := by decide +kernel
theorem chk_20 : chk_F_law_0 (.int (20 : Nat)) = true := by decide +kernel
theorem chk_21 : chk_F_law_0 (.int (21 : Nat)) = true := by decide +kernel
theorem chk_22 : chk_F_law_0 (.int (22 : Nat)) = true := by decide +kernel
theorem chk_23 : chk_F_law_0 (.int (23 : Nat)) = true := by decide +kernel
theorem chk_24 : chk_F_law_0 (.int (24 : Nat)) = true := by decide +kernel
theorem chk_25 : chk_F_law_0 (.int (25 : Nat)) = true := by decide +kernel
theorem chk_26 : chk_F_law_0 (.int (26 : Nat)) = true := by decide +kernel
theorem chk_27 : chk_F_law_0 (.int (27 : Nat)) = true := by decide +kernel
theorem chk_28 : chk_F_law_0 (.int (28 : Nat)) = true := by decide +kernel
theorem chk_29 : chk_F_law_0 (.int (29 : Nat)) = true := by decide +kernel
theorem chk_30 : chk_F_law_0 (.int (30 : Nat)) = true := by decide +kernel
theorem chk_31 : chk_F_law_0 (.int (31 : Nat)) = true := by decide +kernel
theorem chk_32 : chk_F_law_0 (.int (32 : Nat)) = true := by decide +kernel
theorem chk_33 : chk_F_law_0 (.int (33 : Nat)) = true := by decide +kernel
theorem chk_34 : chk_F_law_0 (.int (34 : Nat)) = true := by decide +kernel
theorem chk_35 : chk_F_law_0 (.int (35 : Nat)) = true := by decide +kernel
theorem chk_36 : chk_F_law_0 (.int (36 : Nat)) = true := by decide +kernel
theorem chk_37 : chk_F_law_0 (.int (37 : Nat)) = true := by decide +kernel
theorem chk_38 : chk_F_law_0 (.int (38 : Nat)) = true := by decide +kernel
theorem chk_39 : chk_F_law_0 (.int (39 : Nat)) = true := by decide +kernel
theorem chk_40 : chk_F_law_0 (.int (40 : Nat)) = true := by decide +kernel
theorem chk_41 : chk_F_law_0 (.int (41 : Nat)) = true := by decide +kernel
theorem chk_42 : chk_F_law_0 (.int (42 : Nat)) = true := by decide +kernel
theorem chk_43 : chk_F_law_0 (.int (43 : Nat)) = true := by decide +kernel
theorem chk_44 : chk_F_law_0 (.int (44 : Nat)) = true := by decide +kernel
theorem chk_45 : chk_F_law_0 (.int (45 : Nat)) = true := by decide +kernel
theorem chk_46 : chk_F_law_0 (.int (46 : Nat)) = true := by decide +kernel
theorem chk_47 : chk_F_law_0 (.int (47 : Nat)) = true := by decide +kernel
theorem chk_48 : chk_F_law_0 (.int (48 : Nat)) = true := by decide +kernel
theorem chk_49 : chk_F_law_0 (.int (49 : Nat)) = true := by decide +kernel
theorem chk_50 : chk_F_law_0 (.int (50 : Nat)) = true := by decide +kernel
theorem chk_51 : chk_F_law_0 (.int (51 : Nat)) = true := by decide +kernel
theorem chk_52 : chk_F_law_0 (.int (52 : Nat)) = true := by decide +kernel
theorem chk_53 : chk_F_law_0 (.int (53 : Nat)) = true := by decide +kernel
theorem chk_54 : chk_F_law_0 (.int (54 : Nat)) = true := by decide +kernel
theorem chk_55 : chk_F_law_0 (.int (55 : Nat)) = true := by decide +kernel
theorem chk_56 : chk_F_law_0 (.int (56 : Nat)) = true := by decide +kernel
theorem chk_57 : chk_F_law_0 (.int (57 : Nat)) = true := by decide +kernel
theorem chk_58 : chk_F_law_0 (.int (58 : Nat)) = true := by decide +kernel
theorem chk_59 : chk_F_law_0 (.int (59 : Nat)) = true := by decide +kernel
theorem chk_60 : chk_F_law_0 (.int (60 : Nat)) = true := by decide +kernel
theorem chk_all : ∀ n : Nat, n < 61 → chk_F_law_0 (.int (n : Nat)) = true
  | 0, _ => chk_0
  | 1, _ => chk_1
  | 2, _ => chk_2
  | 3, _ => chk_3
  | 4, _ => chk_4
  | 5, _ => chk_5
  | 6, _ => chk_6
  | 7, _ => chk_7
  | 8, _ => chk_8
  | 9, _ => chk_9
  | 10, _ => chk_10
  | 11, _ => chk_11
  | 12, _ => chk_12
  | 13, _ => chk_13
  | 14, _ => chk_14
  | 15, _ => chk_15
  | 16, _ => chk_16
  | 17, _ => chk_17
  | 18, _ => chk_18
  | 19, _ => chk_19
  | 20, _ => chk_20
  | 21, _ => chk_21
  | 22, _ => chk_22
  | 23, _ => chk_23
  | 24, _ => chk_24
  | 25, _ => chk_25
  | 26, _ => chk_26
  | 27, _ => chk_27
  | 28, _ => chk_28
  | 29, _ => chk_29
  | 30, _ => chk_30
  | 31, _ => chk_31
  | 32, _ => chk_32
  | 33, _ => chk_33
  | 34, _ => chk_34
  | 35, _ => chk_35
  | 36, _ => chk_36
  | 37, _ => chk_37
  | 38, _ => chk_38
  | 39, _ => chk_39
  | 40, _ => chk_40
  | 41, _ => chk_41
  | 42, _ => chk_42
  | 43, _ => chk_43
  | 44, _ => chk_44
  | 45, _ => chk_45
  | 46, _ => chk_46
  | 47, _ => chk_47
  | 48, _ => chk_48
  | 49, _ => chk_49
  | 50, _ => chk_50
  | 51, _ => chk_51
  | 52, _ => chk_52
  | 53, _ => chk_53
  | 54, _ => chk_54
  | 55, _ => chk_55
  | 56, _ => chk_56
  | 57, _ => chk_57
  | 58, _ => chk_58
  | 59, _ => chk_59
  | 60, _ => chk_60
  | n + 61, h => absurd h (by omega)
theorem loop : ∀ (items : List D) (c : Nat) (Q : So Unit Unit → Nat → Prop), (∀ d ∈ items, chk_F_law_0 d = true) → c + items.length * 100000 < 2 ^ 40 → (∀ c', c' ≤ c + items.length * 100000 → Q (.nx ()) c') → forP (fun l1 d => (Pn.lift (tgName d)).bind fun b8 => F_law_0 l1 b8) items () c Q
  | [], c, Q, _, _, q => q c (Nat.le_add_right ..)
  | d :: r, c, Q, h, hc, q => by
    rw [List.length_cons] at hc q
    refine step_ok d (h d (List.mem_cons_self ..)) c _ (by omega) fun c' hc' => ?_
    exact loop r c' Q (fun x hx => h x (List.mem_cons_of_mem _ hx)) (by omega) fun c'' hc'' => q c'' (by omega)
def drawsP : Pn (List D) := (pItemsA ((pCons ((Pn.lift (oCons (Out.ok (PyData.int 61)) (Out.ok ([] : List D)))).bind A__law_draw) (pCons ((Pn.lift (oCons (Out.ok (PyData.int 31)) (Out.ok ([] : List D)))).bind A__law_draw) (pCons ((Pn.lift (oCons (Out.ok (PyData.int 13)) (Out.ok ([] : List D)))).bind A__law_draw) (pCons ((Pn.lift (oCons (Out.ok (PyData.int 7)) (Out.ok ([] : List D)))).bind A__law_draw) (Pn.lift (Out.ok ([] : List D))))))).bind fun ds => Pn.ret (PyData.list ds)))
theorem draws_ok (R : List D → Nat → Prop) (h : ∀ a b c d : Nat, a < 61 → b < 31 → c < 13 → d < 7 → R [.int (a : Nat), .int (b : Nat), .int (c : Nat), .int (d : Nat)] 4) : drawsP 0 R := by
  unfold drawsP
  simp only [pItemsA, pCons, Pn.bind, Pn.lift, Out.post, Pn.ret, oCons_ok, drawA_1, oItemsA_l]
  refine draw_ok 61 61 rfl 0 _ (by omega) (by omega) (by omega) fun a ha => ?_
  refine draw_ok 31 31 rfl 1 _ (by omega) (by omega) (by omega) fun b hb => ?_
  refine draw_ok 13 13 rfl 2 _ (by omega) (by omega) (by omega) fun c hc => ?_
  refine draw_ok 7 7 rfl 3 _ (by omega) (by omega) (by omega) fun d hd => ?_
  exact h a b c d ha hb hc hd
theorem law_ok_plain : F_law 0 fun v _ => v = .rt (.bool true) := by
  have e : F_law = Pn.seq (drawsP.bind fun items => forP (fun l1 d => (Pn.lift (tgName d)).bind fun b8 => F_law_0 l1 b8) items ()) fun (_ : Unit) => (Pn.ret ((Out.ok (PyData.bool true)).so fun d => .rt d)) := rfl
  rw [e, seq_bind]
  refine draws_ok _ fun a b c d ha hb hc hd => ?_
  unfold Pn.seq
  refine loop _ 4 _ (fun x hx => ?_) (by show 4 + 4 * 100000 < 2 ^ 40; omega) fun c' _ => rfl
  simp only [List.mem_cons, List.not_mem_nil, or_false] at hx
  rcases hx with rfl | rfl | rfl | rfl
  · exact chk_all a ha
  · exact chk_all b (by omega)
  · exact chk_all c (by omega)
  · exact chk_all d (by omega)
theorem law_plain : wTrue W_law 9 := law_plain_of law_ok_plain
end
end Lk22
namespace Lk22
open PySem PySem.Spec PyProof.Rows L2 VL
theorem all_of {P : Program} {w : World} {K : Fg} {h : Heap} {mg : Str → Option Value} {fa : Addr} {f__law_pen : Addr} {oc__law_pen kV__law_pen doc__law_pen pm__law_pen cdv__law_pen ct__law_pen : Value} {od__law_pen an__law_pen : Option Addr} {osl__law_pen : Array (Option Value)} {f__law_draw : Addr} {oc__law_draw kV__law_draw doc__law_draw pm__law_draw cdv__law_draw ct__law_draw : Value} {od__law_draw an__law_draw : Option Addr} {osl__law_draw : Array (Option Value)} {f__law_bar : Addr} {oc__law_bar kV__law_bar doc__law_bar pm__law_bar cdv__law_bar ct__law_bar : Value} {od__law_bar an__law_bar : Option Addr} {osl__law_bar : Array (Option Value)} {f_is_whole : Addr} {oc_is_whole kV_is_whole doc_is_whole pm_is_whole cdv_is_whole ct_is_whole : Value} {od_is_whole an_is_whole : Option Addr} {osl_is_whole : Array (Option Value)} {f_is_count : Addr} {oc_is_count kV_is_count doc_is_count pm_is_count cdv_is_count ct_is_count : Value} {od_is_count an_is_count : Option Addr} {osl_is_count : Array (Option Value)} {f_need_count : Addr} {oc_need_count kV_need_count doc_need_count pm_need_count cdv_need_count ct_need_count : Value} {od_need_count an_need_count : Option Addr} {osl_need_count : Array (Option Value)} {f_most_bar_in : Addr} {oc_most_bar_in kV_most_bar_in doc_most_bar_in pm_most_bar_in cdv_most_bar_in ct_most_bar_in : Value} {od_most_bar_in an_most_bar_in : Option Addr} {osl_most_bar_in : Array (Option Value)} {f_most_bar : Addr} {oc_most_bar kV_most_bar doc_most_bar pm_most_bar cdv_most_bar ct_most_bar : Value} {od_most_bar an_most_bar : Option Addr} {osl_most_bar : Array (Option Value)} {f_most_number : Addr} {oc_most_number kV_most_number doc_most_number pm_most_number cdv_most_number ct_most_number : Value} {od_most_number an_most_number : Option Addr} {osl_most_number : Array (Option Value)} {f_threes_in : Addr} {oc_threes_in kV_threes_in doc_threes_in pm_threes_in cdv_threes_in ct_threes_in : Value} {od_threes_in an_threes_in : Option Addr} {osl_threes_in : Array (Option Value)} {f_thing_of : Addr} {oc_thing_of kV_thing_of doc_thing_of pm_thing_of cdv_thing_of ct_thing_of : Value} {od_thing_of an_thing_of : Option Addr} {osl_thing_of : Array (Option Value)} {f_columns : Addr} {oc_columns kV_columns doc_columns pm_columns cdv_columns ct_columns : Value} {od_columns an_columns : Option Addr} {osl_columns : Array (Option Value)} {f_all_pairs : Addr} {oc_all_pairs kV_all_pairs doc_all_pairs pm_all_pairs cdv_all_pairs ct_all_pairs : Value} {od_all_pairs an_all_pairs : Option Addr} {osl_all_pairs : Array (Option Value)} {f_crossed : Addr} {oc_crossed kV_crossed doc_crossed pm_crossed cdv_crossed ct_crossed : Value} {od_crossed an_crossed : Option Addr} {osl_crossed : Array (Option Value)} {f_still_across : Addr} {oc_still_across kV_still_across doc_still_across pm_still_across cdv_still_across ct_still_across : Value} {od_still_across an_still_across : Option Addr} {osl_still_across : Array (Option Value)} {f_half_of : Addr} {oc_half_of kV_half_of doc_half_of pm_half_of cdv_half_of ct_half_of : Value} {od_half_of an_half_of : Option Addr} {osl_half_of : Array (Option Value)} {f_half_still_across : Addr} {oc_half_still_across kV_half_still_across doc_half_still_across pm_half_still_across cdv_half_still_across ct_half_still_across : Value} {od_half_still_across an_half_still_across : Option Addr} {osl_half_still_across : Array (Option Value)} {f_once_in : Addr} {oc_once_in kV_once_in doc_once_in pm_once_in cdv_once_in ct_once_in : Value} {od_once_in an_once_in : Option Addr} {osl_once_in : Array (Option Value)} {f_nexts : Addr} {oc_nexts kV_nexts doc_nexts pm_nexts cdv_nexts ct_nexts : Value} {od_nexts an_nexts : Option Addr} {osl_nexts : Array (Option Value)} {f_five_in : Addr} {oc_five_in kV_five_in doc_five_in pm_five_in cdv_five_in ct_five_in : Value} {od_five_in an_five_in : Option Addr} {osl_five_in : Array (Option Value)} {f_most_in : Addr} {oc_most_in kV_most_in doc_most_in pm_most_in cdv_most_in ct_most_in : Value} {od_most_in an_most_in : Option Addr} {osl_most_in : Array (Option Value)} {f_most_threes : Addr} {oc_most_threes kV_most_threes doc_most_threes pm_most_threes cdv_most_threes ct_most_threes : Value} {od_most_threes an_most_threes : Option Addr} {osl_most_threes : Array (Option Value)} {f__law_is_thing : Addr} {oc__law_is_thing kV__law_is_thing doc__law_is_thing pm__law_is_thing cdv__law_is_thing ct__law_is_thing : Value} {od__law_is_thing an__law_is_thing : Option Addr} {osl__law_is_thing : Array (Option Value)} {f__law_are_threes : Addr} {oc__law_are_threes kV__law_are_threes doc__law_are_threes pm__law_are_threes cdv__law_are_threes ct__law_are_threes : Value} {od__law_are_threes an__law_are_threes : Option Addr} {osl__law_are_threes : Array (Option Value)} {f__law_pairs : Addr} {oc__law_pairs kV__law_pairs doc__law_pairs pm__law_pairs cdv__law_pairs ct__law_pairs : Value} {od__law_pairs an__law_pairs : Option Addr} {osl__law_pairs : Array (Option Value)} {f__law_held : Addr} {oc__law_held kV__law_held doc__law_held pm__law_held cdv__law_held ct__law_held : Value} {od__law_held an__law_held : Option Addr} {osl__law_held : Array (Option Value)} {f__law_shape : Addr} {oc__law_shape kV__law_shape doc__law_shape pm__law_shape cdv__law_shape ct__law_shape : Value} {od__law_shape an__law_shape : Option Addr} {osl__law_shape : Array (Option Value)} {f_left_shape : Addr} {oc_left_shape kV_left_shape doc_left_shape pm_left_shape cdv_left_shape ct_left_shape : Value} {od_left_shape an_left_shape : Option Addr} {osl_left_shape : Array (Option Value)} {f_is_thing : Addr} {oc_is_thing kV_is_thing doc_is_thing pm_is_thing cdv_is_thing ct_is_thing : Value} {od_is_thing an_is_thing : Option Addr} {osl_is_thing : Array (Option Value)} {f_need_pairs : Addr} {oc_need_pairs kV_need_pairs doc_need_pairs pm_need_pairs cdv_need_pairs ct_need_pairs : Value} {od_need_pairs an_need_pairs : Option Addr} {osl_need_pairs : Array (Option Value)} {f_shape_in : Addr} {oc_shape_in kV_shape_in doc_shape_in pm_shape_in cdv_shape_in ct_shape_in : Value} {od_shape_in an_shape_in : Option Addr} {osl_shape_in : Array (Option Value)} {f_shape_of : Addr} {oc_shape_of kV_shape_of doc_shape_of pm_shape_of cdv_shape_of ct_shape_of : Value} {od_shape_of an_shape_of : Option Addr} {osl_shape_of : Array (Option Value)} {f__law_mixed : Addr} {oc__law_mixed kV__law_mixed doc__law_mixed pm__law_mixed cdv__law_mixed ct__law_mixed : Value} {od__law_mixed an__law_mixed : Option Addr} {osl__law_mixed : Array (Option Value)} {f_law : Addr} {oc_law kV_law doc_law pm_law cdv_law ct_law : Value} {od_law an_law : Option Addr} {osl_law : Array (Option Value)} {C_BadNumber : Addr} {C_NotKept : Addr} {fI_BadNumber : Addr} {nm_BadNumber qn_BadNumber : Str} {N_BadNumber : Addr} {bs_BadNumber bm_BadNumber sub_BadNumber : List Value} {sn_BadNumber : List Str} {ab_BadNumber : Bool} {col_BadNumber : Option Bool} {dd_BadNumber : Option Addr} {m0_BadNumber m1_BadNumber m2_BadNumber m3_BadNumber m5_BadNumber : Option Value} {oc_BadNumber kV_BadNumber doc_BadNumber pm_BadNumber cdv_BadNumber ct_BadNumber : Value} {od_BadNumber an_BadNumber : Option Addr} {osl_BadNumber : Array (Option Value)} {fI_NotKept : Addr} {nm_NotKept qn_NotKept : Str} {N_NotKept : Addr} {bs_NotKept bm_NotKept sub_NotKept : List Value} {sn_NotKept : List Str} {ab_NotKept : Bool} {col_NotKept : Option Bool} {dd_NotKept : Option Addr} {m0_NotKept m1_NotKept m2_NotKept m3_NotKept m5_NotKept : Option Value} {oc_NotKept kV_NotKept doc_NotKept pm_NotKept cdv_NotKept ct_NotKept : Value} {od_NotKept an_NotKept : Option Addr} {osl_NotKept : Array (Option Value)} {K_LEFT : Addr} {oK_LEFT : Option Addr} {nK_LEFT : Nat} {sK_LEFT : Array (Option Value)} {tk0_LEFT_0 : Tok} {tk1_LEFT_1 : Tok} {tk2_LEFT_2 : Tok} {tk3_LEFT_3 : Tok} {tk4_LEFT_4 : Tok} {tk5_LEFT_5 : Tok} (X : K.In h) (G : h.Ns mainGlobals mg) (hfa : mg "law" = some (.ref fa))
    (a__law_pen : PySem.W.nsIn K mainGlobals "_law_pen" = some (some (.ref f__law_pen)))
    (l__law_pen : K.lookup f__law_pen = some ⟨oc__law_pen, od__law_pen, .func (PySem.W.fnOf "_law_pen" "_law_pen" (defArgs s__law_pen) (defBody s__law_pen) (defScope s__law_pen) .none kV__law_pen doc__law_pen pm__law_pen an__law_pen cdv__law_pen ct__law_pen), osl__law_pen⟩)
    (qc__law_pen : PySem.W.codeIn K cdv__law_pen "_law_pen" = true)
    (k__law_pen : PySem.W.keepIn K (.ref f__law_pen) = true)
    (a__law_draw : PySem.W.nsIn K mainGlobals "_law_draw" = some (some (.ref f__law_draw)))
    (l__law_draw : K.lookup f__law_draw = some ⟨oc__law_draw, od__law_draw, .func (PySem.W.fnOf "_law_draw" "_law_draw" (defArgs s__law_draw) (defBody s__law_draw) (defScope s__law_draw) .none kV__law_draw doc__law_draw pm__law_draw an__law_draw cdv__law_draw ct__law_draw), osl__law_draw⟩)
    (qc__law_draw : PySem.W.codeIn K cdv__law_draw "_law_draw" = true)
    (k__law_draw : PySem.W.keepIn K (.ref f__law_draw) = true)
    (a__law_bar : PySem.W.nsIn K mainGlobals "_law_bar" = some (some (.ref f__law_bar)))
    (l__law_bar : K.lookup f__law_bar = some ⟨oc__law_bar, od__law_bar, .func (PySem.W.fnOf "_law_bar" "_law_bar" (defArgs s__law_bar) (defBody s__law_bar) (defScope s__law_bar) .none kV__law_bar doc__law_bar pm__law_bar an__law_bar cdv__law_bar ct__law_bar), osl__law_bar⟩)
    (qc__law_bar : PySem.W.codeIn K cdv__law_bar "_law_bar" = true)
    (k__law_bar : PySem.W.keepIn K (.ref f__law_bar) = true)
    (a_is_whole : PySem.W.nsIn K mainGlobals "is_whole" = some (some (.ref f_is_whole)))
    (l_is_whole : K.lookup f_is_whole = some ⟨oc_is_whole, od_is_whole, .func (PySem.W.fnOf "is_whole" "is_whole" (defArgs s_is_whole) (defBody s_is_whole) (defScope s_is_whole) .none kV_is_whole doc_is_whole pm_is_whole an_is_whole cdv_is_whole ct_is_whole), osl_is_whole⟩)
    (qc_is_whole : PySem.W.codeIn K cdv_is_whole "is_whole" = true)
    (k_is_whole : PySem.W.keepIn K (.ref f_is_whole) = true)
    (a_is_count : PySem.W.nsIn K mainGlobals "is_count" = some (some (.ref f_is_count)))
    (l_is_count : K.lookup f_is_count = some ⟨oc_is_count, od_is_count, .func (PySem.W.fnOf "is_count" "is_count" (defArgs s_is_count) (defBody s_is_count) (defScope s_is_count) .none kV_is_count doc_is_count pm_is_count an_is_count cdv_is_count ct_is_count), osl_is_count⟩)
    (qc_is_count : PySem.W.codeIn K cdv_is_count "is_count" = true)
    (k_is_count : PySem.W.keepIn K (.ref f_is_count) = true)
    (a_need_count : PySem.W.nsIn K mainGlobals "need_count" = some (some (.ref f_need_count)))
    (l_need_count : K.lookup f_need_count = some ⟨oc_need_count, od_need_count, .func (PySem.W.fnOf "need_count" "need_count" (defArgs s_need_count) (defBody s_need_count) (defScope s_need_count) .none kV_need_count doc_need_count pm_need_count an_need_count cdv_need_count ct_need_count), osl_need_count⟩)
    (qc_need_count : PySem.W.codeIn K cdv_need_count "need_count" = true)
    (k_need_count : PySem.W.keepIn K (.ref f_need_count) = true)
    (a_most_bar_in : PySem.W.nsIn K mainGlobals "most_bar_in" = some (some (.ref f_most_bar_in)))
    (l_most_bar_in : K.lookup f_most_bar_in = some ⟨oc_most_bar_in, od_most_bar_in, .func (PySem.W.fnOf "most_bar_in" "most_bar_in" (defArgs s_most_bar_in) (defBody s_most_bar_in) (defScope s_most_bar_in) .none kV_most_bar_in doc_most_bar_in pm_most_bar_in an_most_bar_in cdv_most_bar_in ct_most_bar_in), osl_most_bar_in⟩)
    (qc_most_bar_in : PySem.W.codeIn K cdv_most_bar_in "most_bar_in" = true)
    (k_most_bar_in : PySem.W.keepIn K (.ref f_most_bar_in) = true)
    (a_most_bar : PySem.W.nsIn K mainGlobals "most_bar" = some (some (.ref f_most_bar)))
    (l_most_bar : K.lookup f_most_bar = some ⟨oc_most_bar, od_most_bar, .func (PySem.W.fnOf "most_bar" "most_bar" (defArgs s_most_bar) (defBody s_most_bar) (defScope s_most_bar) .none kV_most_bar doc_most_bar pm_most_bar an_most_bar cdv_most_bar ct_most_bar), osl_most_bar⟩)
    (qc_most_bar : PySem.W.codeIn K cdv_most_bar "most_bar" = true)
    (k_most_bar : PySem.W.keepIn K (.ref f_most_bar) = true)
    (a_most_number : PySem.W.nsIn K mainGlobals "most_number" = some (some (.ref f_most_number)))
    (l_most_number : K.lookup f_most_number = some ⟨oc_most_number, od_most_number, .func (PySem.W.fnOf "most_number" "most_number" (defArgs s_most_number) (defBody s_most_number) (defScope s_most_number) .none kV_most_number doc_most_number pm_most_number an_most_number cdv_most_number ct_most_number), osl_most_number⟩)
    (qc_most_number : PySem.W.codeIn K cdv_most_number "most_number" = true)
    (k_most_number : PySem.W.keepIn K (.ref f_most_number) = true)
    (a_threes_in : PySem.W.nsIn K mainGlobals "threes_in" = some (some (.ref f_threes_in)))
    (l_threes_in : K.lookup f_threes_in = some ⟨oc_threes_in, od_threes_in, .func (PySem.W.fnOf "threes_in" "threes_in" (defArgs s_threes_in) (defBody s_threes_in) (defScope s_threes_in) .none kV_threes_in doc_threes_in pm_threes_in an_threes_in cdv_threes_in ct_threes_in), osl_threes_in⟩)
    (qc_threes_in : PySem.W.codeIn K cdv_threes_in "threes_in" = true)
    (k_threes_in : PySem.W.keepIn K (.ref f_threes_in) = true)
    (a_thing_of : PySem.W.nsIn K mainGlobals "thing_of" = some (some (.ref f_thing_of)))
    (l_thing_of : K.lookup f_thing_of = some ⟨oc_thing_of, od_thing_of, .func (PySem.W.fnOf "thing_of" "thing_of" (defArgs s_thing_of) (defBody s_thing_of) (defScope s_thing_of) .none kV_thing_of doc_thing_of pm_thing_of an_thing_of cdv_thing_of ct_thing_of), osl_thing_of⟩)
    (qc_thing_of : PySem.W.codeIn K cdv_thing_of "thing_of" = true)
    (k_thing_of : PySem.W.keepIn K (.ref f_thing_of) = true)
    (a_columns : PySem.W.nsIn K mainGlobals "columns" = some (some (.ref f_columns)))
    (l_columns : K.lookup f_columns = some ⟨oc_columns, od_columns, .func (PySem.W.fnOf "columns" "columns" (defArgs s_columns) (defBody s_columns) (defScope s_columns) .none kV_columns doc_columns pm_columns an_columns cdv_columns ct_columns), osl_columns⟩)
    (qc_columns : PySem.W.codeIn K cdv_columns "columns" = true)
    (k_columns : PySem.W.keepIn K (.ref f_columns) = true)
    (a_all_pairs : PySem.W.nsIn K mainGlobals "all_pairs" = some (some (.ref f_all_pairs)))
    (l_all_pairs : K.lookup f_all_pairs = some ⟨oc_all_pairs, od_all_pairs, .func (PySem.W.fnOf "all_pairs" "all_pairs" (defArgs s_all_pairs) (defBody s_all_pairs) (defScope s_all_pairs) .none kV_all_pairs doc_all_pairs pm_all_pairs an_all_pairs cdv_all_pairs ct_all_pairs), osl_all_pairs⟩)
    (qc_all_pairs : PySem.W.codeIn K cdv_all_pairs "all_pairs" = true)
    (k_all_pairs : PySem.W.keepIn K (.ref f_all_pairs) = true)
    (a_crossed : PySem.W.nsIn K mainGlobals "crossed" = some (some (.ref f_crossed)))
    (l_crossed : K.lookup f_crossed = some ⟨oc_crossed, od_crossed, .func (PySem.W.fnOf "crossed" "crossed" (defArgs s_crossed) (defBody s_crossed) (defScope s_crossed) .none kV_crossed doc_crossed pm_crossed an_crossed cdv_crossed ct_crossed), osl_crossed⟩)
    (qc_crossed : PySem.W.codeIn K cdv_crossed "crossed" = true)
    (k_crossed : PySem.W.keepIn K (.ref f_crossed) = true)
    (a_still_across : PySem.W.nsIn K mainGlobals "still_across" = some (some (.ref f_still_across)))
    (l_still_across : K.lookup f_still_across = some ⟨oc_still_across, od_still_across, .func (PySem.W.fnOf "still_across" "still_across" (defArgs s_still_across) (defBody s_still_across) (defScope s_still_across) .none kV_still_across doc_still_across pm_still_across an_still_across cdv_still_across ct_still_across), osl_still_across⟩)
    (qc_still_across : PySem.W.codeIn K cdv_still_across "still_across" = true)
    (k_still_across : PySem.W.keepIn K (.ref f_still_across) = true)
    (a_half_of : PySem.W.nsIn K mainGlobals "half_of" = some (some (.ref f_half_of)))
    (l_half_of : K.lookup f_half_of = some ⟨oc_half_of, od_half_of, .func (PySem.W.fnOf "half_of" "half_of" (defArgs s_half_of) (defBody s_half_of) (defScope s_half_of) .none kV_half_of doc_half_of pm_half_of an_half_of cdv_half_of ct_half_of), osl_half_of⟩)
    (qc_half_of : PySem.W.codeIn K cdv_half_of "half_of" = true)
    (k_half_of : PySem.W.keepIn K (.ref f_half_of) = true)
    (a_half_still_across : PySem.W.nsIn K mainGlobals "half_still_across" = some (some (.ref f_half_still_across)))
    (l_half_still_across : K.lookup f_half_still_across = some ⟨oc_half_still_across, od_half_still_across, .func (PySem.W.fnOf "half_still_across" "half_still_across" (defArgs s_half_still_across) (defBody s_half_still_across) (defScope s_half_still_across) .none kV_half_still_across doc_half_still_across pm_half_still_across an_half_still_across cdv_half_still_across ct_half_still_across), osl_half_still_across⟩)
    (qc_half_still_across : PySem.W.codeIn K cdv_half_still_across "half_still_across" = true)
    (k_half_still_across : PySem.W.keepIn K (.ref f_half_still_across) = true)
    (a_once_in : PySem.W.nsIn K mainGlobals "once_in" = some (some (.ref f_once_in)))
    (l_once_in : K.lookup f_once_in = some ⟨oc_once_in, od_once_in, .func (PySem.W.fnOf "once_in" "once_in" (defArgs s_once_in) (defBody s_once_in) (defScope s_once_in) .none kV_once_in doc_once_in pm_once_in an_once_in cdv_once_in ct_once_in), osl_once_in⟩)
    (qc_once_in : PySem.W.codeIn K cdv_once_in "once_in" = true)
    (k_once_in : PySem.W.keepIn K (.ref f_once_in) = true)
    (a_nexts : PySem.W.nsIn K mainGlobals "nexts" = some (some (.ref f_nexts)))
    (l_nexts : K.lookup f_nexts = some ⟨oc_nexts, od_nexts, .func (PySem.W.fnOf "nexts" "nexts" (defArgs s_nexts) (defBody s_nexts) (defScope s_nexts) .none kV_nexts doc_nexts pm_nexts an_nexts cdv_nexts ct_nexts), osl_nexts⟩)
    (qc_nexts : PySem.W.codeIn K cdv_nexts "nexts" = true)
    (k_nexts : PySem.W.keepIn K (.ref f_nexts) = true)
    (a_five_in : PySem.W.nsIn K mainGlobals "five_in" = some (some (.ref f_five_in)))
    (l_five_in : K.lookup f_five_in = some ⟨oc_five_in, od_five_in, .func (PySem.W.fnOf "five_in" "five_in" (defArgs s_five_in) (defBody s_five_in) (defScope s_five_in) .none kV_five_in doc_five_in pm_five_in an_five_in cdv_five_in ct_five_in), osl_five_in⟩)
    (qc_five_in : PySem.W.codeIn K cdv_five_in "five_in" = true)
    (k_five_in : PySem.W.keepIn K (.ref f_five_in) = true)
    (a_most_in : PySem.W.nsIn K mainGlobals "most_in" = some (some (.ref f_most_in)))
    (l_most_in : K.lookup f_most_in = some ⟨oc_most_in, od_most_in, .func (PySem.W.fnOf "most_in" "most_in" (defArgs s_most_in) (defBody s_most_in) (defScope s_most_in) .none kV_most_in doc_most_in pm_most_in an_most_in cdv_most_in ct_most_in), osl_most_in⟩)
    (qc_most_in : PySem.W.codeIn K cdv_most_in "most_in" = true)
    (k_most_in : PySem.W.keepIn K (.ref f_most_in) = true)
    (a_most_threes : PySem.W.nsIn K mainGlobals "most_threes" = some (some (.ref f_most_threes)))
    (l_most_threes : K.lookup f_most_threes = some ⟨oc_most_threes, od_most_threes, .func (PySem.W.fnOf "most_threes" "most_threes" (defArgs s_most_threes) (defBody s_most_threes) (defScope s_most_threes) .none kV_most_threes doc_most_threes pm_most_threes an_most_threes cdv_most_threes ct_most_threes), osl_most_threes⟩)
    (qc_most_threes : PySem.W.codeIn K cdv_most_threes "most_threes" = true)
    (k_most_threes : PySem.W.keepIn K (.ref f_most_threes) = true)
    (a__law_is_thing : PySem.W.nsIn K mainGlobals "_law_is_thing" = some (some (.ref f__law_is_thing)))
    (l__law_is_thing : K.lookup f__law_is_thing = some ⟨oc__law_is_thing, od__law_is_thing, .func (PySem.W.fnOf "_law_is_thing" "_law_is_thing" (defArgs s__law_is_thing) (defBody s__law_is_thing) (defScope s__law_is_thing) .none kV__law_is_thing doc__law_is_thing pm__law_is_thing an__law_is_thing cdv__law_is_thing ct__law_is_thing), osl__law_is_thing⟩)
    (qc__law_is_thing : PySem.W.codeIn K cdv__law_is_thing "_law_is_thing" = true)
    (k__law_is_thing : PySem.W.keepIn K (.ref f__law_is_thing) = true)
    (a__law_are_threes : PySem.W.nsIn K mainGlobals "_law_are_threes" = some (some (.ref f__law_are_threes)))
    (l__law_are_threes : K.lookup f__law_are_threes = some ⟨oc__law_are_threes, od__law_are_threes, .func (PySem.W.fnOf "_law_are_threes" "_law_are_threes" (defArgs s__law_are_threes) (defBody s__law_are_threes) (defScope s__law_are_threes) .none kV__law_are_threes doc__law_are_threes pm__law_are_threes an__law_are_threes cdv__law_are_threes ct__law_are_threes), osl__law_are_threes⟩)
    (qc__law_are_threes : PySem.W.codeIn K cdv__law_are_threes "_law_are_threes" = true)
    (k__law_are_threes : PySem.W.keepIn K (.ref f__law_are_threes) = true)
    (a__law_pairs : PySem.W.nsIn K mainGlobals "_law_pairs" = some (some (.ref f__law_pairs)))
    (l__law_pairs : K.lookup f__law_pairs = some ⟨oc__law_pairs, od__law_pairs, .func (PySem.W.fnOf "_law_pairs" "_law_pairs" (defArgs s__law_pairs) (defBody s__law_pairs) (defScope s__law_pairs) .none kV__law_pairs doc__law_pairs pm__law_pairs an__law_pairs cdv__law_pairs ct__law_pairs), osl__law_pairs⟩)
    (qc__law_pairs : PySem.W.codeIn K cdv__law_pairs "_law_pairs" = true)
    (k__law_pairs : PySem.W.keepIn K (.ref f__law_pairs) = true)
    (a__law_held : PySem.W.nsIn K mainGlobals "_law_held" = some (some (.ref f__law_held)))
    (l__law_held : K.lookup f__law_held = some ⟨oc__law_held, od__law_held, .func (PySem.W.fnOf "_law_held" "_law_held" (defArgs s__law_held) (defBody s__law_held) (defScope s__law_held) .none kV__law_held doc__law_held pm__law_held an__law_held cdv__law_held ct__law_held), osl__law_held⟩)
    (qc__law_held : PySem.W.codeIn K cdv__law_held "_law_held" = true)
    (k__law_held : PySem.W.keepIn K (.ref f__law_held) = true)
    (a__law_shape : PySem.W.nsIn K mainGlobals "_law_shape" = some (some (.ref f__law_shape)))
    (l__law_shape : K.lookup f__law_shape = some ⟨oc__law_shape, od__law_shape, .func (PySem.W.fnOf "_law_shape" "_law_shape" (defArgs s__law_shape) (defBody s__law_shape) (defScope s__law_shape) .none kV__law_shape doc__law_shape pm__law_shape an__law_shape cdv__law_shape ct__law_shape), osl__law_shape⟩)
    (qc__law_shape : PySem.W.codeIn K cdv__law_shape "_law_shape" = true)
    (k__law_shape : PySem.W.keepIn K (.ref f__law_shape) = true)
    (a_left_shape : PySem.W.nsIn K mainGlobals "left_shape" = some (some (.ref f_left_shape)))
    (l_left_shape : K.lookup f_left_shape = some ⟨oc_left_shape, od_left_shape, .func (PySem.W.fnOf "left_shape" "left_shape" (defArgs s_left_shape) (defBody s_left_shape) (defScope s_left_shape) .none kV_left_shape doc_left_shape pm_left_shape an_left_shape cdv_left_shape ct_left_shape), osl_left_shape⟩)
    (qc_left_shape : PySem.W.codeIn K cdv_left_shape "left_shape" = true)
    (k_left_shape : PySem.W.keepIn K (.ref f_left_shape) = true)
    (a_is_thing : PySem.W.nsIn K mainGlobals "is_thing" = some (some (.ref f_is_thing)))
    (l_is_thing : K.lookup f_is_thing = some ⟨oc_is_thing, od_is_thing, .func (PySem.W.fnOf "is_thing" "is_thing" (defArgs s_is_thing) (defBody s_is_thing) (defScope s_is_thing) .none kV_is_thing doc_is_thing pm_is_thing an_is_thing cdv_is_thing ct_is_thing), osl_is_thing⟩)
    (qc_is_thing : PySem.W.codeIn K cdv_is_thing "is_thing" = true)
    (k_is_thing : PySem.W.keepIn K (.ref f_is_thing) = true)
    (a_need_pairs : PySem.W.nsIn K mainGlobals "need_pairs" = some (some (.ref f_need_pairs)))
    (l_need_pairs : K.lookup f_need_pairs = some ⟨oc_need_pairs, od_need_pairs, .func (PySem.W.fnOf "need_pairs" "need_pairs" (defArgs s_need_pairs) (defBody s_need_pairs) (defScope s_need_pairs) .none kV_need_pairs doc_need_pairs pm_need_pairs an_need_pairs cdv_need_pairs ct_need_pairs), osl_need_pairs⟩)
    (qc_need_pairs : PySem.W.codeIn K cdv_need_pairs "need_pairs" = true)
    (k_need_pairs : PySem.W.keepIn K (.ref f_need_pairs) = true)
    (a_shape_in : PySem.W.nsIn K mainGlobals "shape_in" = some (some (.ref f_shape_in)))
    (l_shape_in : K.lookup f_shape_in = some ⟨oc_shape_in, od_shape_in, .func (PySem.W.fnOf "shape_in" "shape_in" (defArgs s_shape_in) (defBody s_shape_in) (defScope s_shape_in) .none kV_shape_in doc_shape_in pm_shape_in an_shape_in cdv_shape_in ct_shape_in), osl_shape_in⟩)
    (qc_shape_in : PySem.W.codeIn K cdv_shape_in "shape_in" = true)
    (k_shape_in : PySem.W.keepIn K (.ref f_shape_in) = true)
    (a_shape_of : PySem.W.nsIn K mainGlobals "shape_of" = some (some (.ref f_shape_of)))
    (l_shape_of : K.lookup f_shape_of = some ⟨oc_shape_of, od_shape_of, .func (PySem.W.fnOf "shape_of" "shape_of" (defArgs s_shape_of) (defBody s_shape_of) (defScope s_shape_of) .none kV_shape_of doc_shape_of pm_shape_of an_shape_of cdv_shape_of ct_shape_of), osl_shape_of⟩)
    (qc_shape_of : PySem.W.codeIn K cdv_shape_of "shape_of" = true)
    (k_shape_of : PySem.W.keepIn K (.ref f_shape_of) = true)
    (a__law_mixed : PySem.W.nsIn K mainGlobals "_law_mixed" = some (some (.ref f__law_mixed)))
    (l__law_mixed : K.lookup f__law_mixed = some ⟨oc__law_mixed, od__law_mixed, .func (PySem.W.fnOf "_law_mixed" "_law_mixed" (defArgs s__law_mixed) (defBody s__law_mixed) (defScope s__law_mixed) .none kV__law_mixed doc__law_mixed pm__law_mixed an__law_mixed cdv__law_mixed ct__law_mixed), osl__law_mixed⟩)
    (qc__law_mixed : PySem.W.codeIn K cdv__law_mixed "_law_mixed" = true)
    (k__law_mixed : PySem.W.keepIn K (.ref f__law_mixed) = true)
    (a_law : PySem.W.nsIn K mainGlobals "law" = some (some (.ref f_law)))
    (l_law : K.lookup f_law = some ⟨oc_law, od_law, .func (PySem.W.fnOf "law" "law" (defArgs s_law) (defBody s_law) (defScope s_law) .none kV_law doc_law pm_law an_law cdv_law ct_law), osl_law⟩)
    (qc_law : PySem.W.codeIn K cdv_law "law" = true)
    (k_law : PySem.W.keepIn K (.ref f_law) = true)
    (aC_BadNumber : PySem.W.nsIn K mainGlobals "BadNumber" = some (some (.ref C_BadNumber)))
    (ga_BadNumber : PySem.W.findIn K (.ref C_BadNumber) "__getattribute__" = some (some (.builtin "BaseException.__getattribute__")))
    (gg_BadNumber : PySem.W.findIn K (.ref C_BadNumber) "__getattr__" = some none)
    (eC_BadNumber : PySem.W.subIn K (.ref C_BadNumber) (.type "BaseException") = some true)
    (hd_BadNumber : PySem.W.hasDictIn K C_BadNumber = true)
    (tC_BadNumber : PySem.W.typeIn K (.ref C_BadNumber) = some (.type "type"))
    (ic_BadNumber : PySem.W.isClsIn K C_BadNumber = true)
    (aC_NotKept : PySem.W.nsIn K mainGlobals "NotKept" = some (some (.ref C_NotKept)))
    (ga_NotKept : PySem.W.findIn K (.ref C_NotKept) "__getattribute__" = some (some (.builtin "BaseException.__getattribute__")))
    (gg_NotKept : PySem.W.findIn K (.ref C_NotKept) "__getattr__" = some none)
    (eC_NotKept : PySem.W.subIn K (.ref C_NotKept) (.type "BaseException") = some true)
    (hd_NotKept : PySem.W.hasDictIn K C_NotKept = true)
    (tC_NotKept : PySem.W.typeIn K (.ref C_NotKept) = some (.type "type"))
    (ic_NotKept : PySem.W.isClsIn K C_NotKept = true)
    (xL_BadNumber : K.lookup C_BadNumber = some (excClassObj nm_BadNumber qn_BadNumber C_BadNumber N_BadNumber bs_BadNumber bm_BadNumber true sn_BadNumber sub_BadNumber ab_BadNumber col_BadNumber dd_BadNumber m0_BadNumber m1_BadNumber m2_BadNumber m3_BadNumber m5_BadNumber "ValueError.__new__"))
    (xr_BadNumber : PySem.HandSPX.refsVE bm_BadNumber = true)
    (sa_BadNumber : PySem.W.findIn K (.ref C_BadNumber) "__setattr__" = some (some (.builtin "object.__setattr__")))
    (kC_BadNumber : PySem.W.keepIn K (.ref C_BadNumber) = true)
    (iC_BadNumber : PySem.W.findIn K (.ref C_BadNumber) "__init__" = some (some (.ref fI_BadNumber)))
    (tI_BadNumber : PySem.W.typeIn K (.ref fI_BadNumber) = some (.type "function"))
    (n0_BadNumber : PySem.W.findIn K (.ref C_BadNumber) "what" = some none)
    (n1_BadNumber : PySem.W.findIn K (.ref C_BadNumber) "number" = some none)
    (lI_BadNumber : K.lookup fI_BadNumber = some ⟨oc_BadNumber, od_BadNumber, .func (PySem.W.fnOf "__init__" "BadNumber.__init__" (defArgs si_BadNumber) (defBody si_BadNumber) (defScope si_BadNumber) .none kV_BadNumber doc_BadNumber pm_BadNumber an_BadNumber cdv_BadNumber ct_BadNumber), osl_BadNumber⟩)
    (cI_BadNumber : PySem.W.codeIn K cdv_BadNumber "BadNumber.__init__" = true)
    (kI_BadNumber : PySem.W.keepIn K (.ref fI_BadNumber) = true)
    (xL_NotKept : K.lookup C_NotKept = some (excClassObj nm_NotKept qn_NotKept C_NotKept N_NotKept bs_NotKept bm_NotKept true sn_NotKept sub_NotKept ab_NotKept col_NotKept dd_NotKept m0_NotKept m1_NotKept m2_NotKept m3_NotKept m5_NotKept "ValueError.__new__"))
    (xr_NotKept : PySem.HandSPX.refsVE bm_NotKept = true)
    (sa_NotKept : PySem.W.findIn K (.ref C_NotKept) "__setattr__" = some (some (.builtin "object.__setattr__")))
    (kC_NotKept : PySem.W.keepIn K (.ref C_NotKept) = true)
    (iC_NotKept : PySem.W.findIn K (.ref C_NotKept) "__init__" = some (some (.ref fI_NotKept)))
    (tI_NotKept : PySem.W.typeIn K (.ref fI_NotKept) = some (.type "function"))
    (n0_NotKept : PySem.W.findIn K (.ref C_NotKept) "promise" = some none)
    (n1_NotKept : PySem.W.findIn K (.ref C_NotKept) "witness" = some none)
    (lI_NotKept : K.lookup fI_NotKept = some ⟨oc_NotKept, od_NotKept, .func (PySem.W.fnOf "__init__" "NotKept.__init__" (defArgs si_NotKept) (defBody si_NotKept) (defScope si_NotKept) .none kV_NotKept doc_NotKept pm_NotKept an_NotKept cdv_NotKept ct_NotKept), osl_NotKept⟩)
    (cI_NotKept : PySem.W.codeIn K cdv_NotKept "NotKept.__init__" = true)
    (kI_NotKept : PySem.W.keepIn K (.ref fI_NotKept) = true)
    (z_bool : PySem.W.nsIn K mainGlobals "bool" = some none)
    (z_dict : PySem.W.nsIn K mainGlobals "dict" = some none)
    (z_int : PySem.W.nsIn K mainGlobals "int" = some none)
    (z_isinstance : PySem.W.nsIn K mainGlobals "isinstance" = some none)
    (z_len : PySem.W.nsIn K mainGlobals "len" = some none)
    (z_list : PySem.W.nsIn K mainGlobals "list" = some none)
    (z_max : PySem.W.nsIn K mainGlobals "max" = some none)
    (z_min : PySem.W.nsIn K mainGlobals "min" = some none)
    (z_range : PySem.W.nsIn K mainGlobals "range" = some none)
    (z_repr : PySem.W.nsIn K mainGlobals "repr" = some none)
    (z_sorted : PySem.W.nsIn K mainGlobals "sorted" = some none)
    (z_tuple : PySem.W.nsIn K mainGlobals "tuple" = some none)
    (aK_LEFT : PySem.W.nsIn K mainGlobals "LEFT" = some (some (.ref K_LEFT)))
    (lK_LEFT : K.lookup K_LEFT = some ⟨.type "tuple", oK_LEFT, .seq #[(.str "pairs" tk0_LEFT_0), (.str "none" tk1_LEFT_1), (.str "pairs" tk2_LEFT_2), (.str "none" tk3_LEFT_3), (.str "star" tk4_LEFT_4), (.str "ring" tk5_LEFT_5)] nK_LEFT, sK_LEFT⟩)
    : ∀ (base : Heap) (H : Hp) (a : Addr) (ns : List Int) (s : Shared), ns.length ≤ 63 → K.In base → SqL K H a (ns.map V.int) → Env0 P w K mg base callerA [] s H → codeAny (model P w) callerA (.call (.ref fa) ⟨[.ref a], []⟩) (LawDone P w H s) s := by
  intro base H a ns s hn _ hS e0
  have e := hfa.symm.trans (PySem.W.mg_of X G a_law)
  cases e
  have T : Top K mg := {
    n_bool := PySem.W.mg_none_of X G z_bool,
    n_dict := PySem.W.mg_none_of X G z_dict,
    n_int := PySem.W.mg_none_of X G z_int,
    n_isinstance := PySem.W.mg_none_of X G z_isinstance,
    n_len := PySem.W.mg_none_of X G z_len,
    n_list := PySem.W.mg_none_of X G z_list,
    n_max := PySem.W.mg_none_of X G z_max,
    n_min := PySem.W.mg_none_of X G z_min,
    n_range := PySem.W.mg_none_of X G z_range,
    n_repr := PySem.W.mg_none_of X G z_repr,
    n_sorted := PySem.W.mg_none_of X G z_sorted,
    n_tuple := PySem.W.mg_none_of X G z_tuple,
    e_BadNumber := e_BadNumber (errAt_of X G aC_BadNumber xL_BadNumber xr_BadNumber sa_BadNumber eC_BadNumber tC_BadNumber kC_BadNumber ⟨ga_BadNumber, gg_BadNumber, eC_BadNumber, hd_BadNumber⟩ iC_BadNumber tI_BadNumber n0_BadNumber (fun y z => by cases z; exact n1_BadNumber) lI_BadNumber cI_BadNumber kI_BadNumber),
    e_NotKept := e_NotKept (errAt_of X G aC_NotKept xL_NotKept xr_NotKept sa_NotKept eC_NotKept tC_NotKept kC_NotKept ⟨ga_NotKept, gg_NotKept, eC_NotKept, hd_NotKept⟩ iC_NotKept tI_NotKept n0_NotKept (fun y z => by cases z; exact n1_NotKept) lI_NotKept cI_NotKept kI_NotKept),
    k_LEFT := ⟨K_LEFT, PySem.W.mg_of X G aK_LEFT, fun Z => (VL.dr_tup (vs := [(.str "pairs"), (.str "none"), (.str "pairs"), (.str "none"), (.str "star"), (.str "ring")]) lK_LEFT (by show 6 ≤ 16777216; omega) (.cons ⟨_, rfl⟩ (.cons ⟨_, rfl⟩ (.cons ⟨_, rfl⟩ (.cons ⟨_, rfl⟩ (.cons ⟨_, rfl⟩ (.cons ⟨_, rfl⟩ .nil)))))) (.cons (.str _) (.cons (.str _) (.cons (.str _) (.cons (.str _) (.cons (.str _) (.cons (.str _) .nil)))))))⟩,
    cm := cm_nil }
  have g__law_draw := c__law_draw (P := P) (w := w) (base := base) (defAt_of (st := s__law_draw) X G a__law_draw l__law_draw qc__law_draw k__law_draw) T
  have g__law_bar := c__law_bar (P := P) (w := w) (base := base) (defAt_of (st := s__law_bar) X G a__law_bar l__law_bar qc__law_bar k__law_bar) T 
  have g_is_whole := c_is_whole (P := P) (w := w) (base := base) (defAt_of (st := s_is_whole) X G a_is_whole l_is_whole qc_is_whole k_is_whole) T 
  have g_is_count := c_is_count (P := P) (w := w) (base := base) (defAt_of (st := s_is_count) X G a_is_count l_is_count qc_is_count k_is_count) T g_is_whole
  have g_need_count := c_need_count (P := P) (w := w) (base := base) (defAt_of (st := s_need_count) X G a_need_count l_need_count qc_need_count k_need_count) T g_is_count
  have g_most_bar_in := c_most_bar_in (P := P) (w := w) (base := base) (defAt_of (st := s_most_bar_in) X G a_most_bar_in l_most_bar_in qc_most_bar_in k_most_bar_in) T 
  have g_most_bar := c_most_bar (P := P) (w := w) (base := base) (defAt_of (st := s_most_bar) X G a_most_bar l_most_bar qc_most_bar k_most_bar) T g_most_bar_in g_need_count
  have g_most_number := c_most_number (P := P) (w := w) (base := base) (defAt_of (st := s_most_number) X G a_most_number l_most_number qc_most_number k_most_number) T g_most_bar_in g_need_count
  have g_threes_in := c_threes_in (P := P) (w := w) (base := base) (defAt_of (st := s_threes_in) X G a_threes_in l_threes_in qc_threes_in k_threes_in) T 
  have g_thing_of := c_thing_of (P := P) (w := w) (base := base) (defAt_of (st := s_thing_of) X G a_thing_of l_thing_of qc_thing_of k_thing_of) T 
  have g_columns := c_columns (P := P) (w := w) (base := base) (defAt_of (st := s_columns) X G a_columns l_columns qc_columns k_columns) T g_thing_of
  have g_all_pairs := c_all_pairs (P := P) (w := w) (base := base) (defAt_of (st := s_all_pairs) X G a_all_pairs l_all_pairs qc_all_pairs k_all_pairs) T 
  have g_crossed := c_crossed (P := P) (w := w) (base := base) (defAt_of (st := s_crossed) X G a_crossed l_crossed qc_crossed k_crossed) T g_all_pairs g_thing_of
  have g_still_across := c_still_across (P := P) (w := w) (base := base) (defAt_of (st := s_still_across) X G a_still_across l_still_across qc_still_across k_still_across) T g_need_count
  have g_half_of := c_half_of (P := P) (w := w) (base := base) (defAt_of (st := s_half_of) X G a_half_of l_half_of qc_half_of k_half_of) T 
  have g_half_still_across := c_half_still_across (P := P) (w := w) (base := base) (defAt_of (st := s_half_still_across) X G a_half_still_across l_half_still_across qc_half_still_across k_half_still_across) T g_half_of g_need_count
  have g_once_in := c_once_in (P := P) (w := w) (base := base) (defAt_of (st := s_once_in) X G a_once_in l_once_in qc_once_in k_once_in) T g_columns g_crossed g_half_still_across g_still_across g_thing_of g_threes_in
  have g_nexts := c_nexts (P := P) (w := w) (base := base) (defAt_of (st := s_nexts) X G a_nexts l_nexts qc_nexts k_nexts) T 
  have g_five_in := c_five_in (P := P) (w := w) (base := base) (defAt_of (st := s_five_in) X G a_five_in l_five_in qc_five_in k_five_in) T g_all_pairs g_nexts g_still_across g_thing_of g_threes_in
  have g_most_in := c_most_in (P := P) (w := w) (base := base) (defAt_of (st := s_most_in) X G a_most_in l_most_in qc_most_in k_most_in) T g_five_in g_once_in g_threes_in
  have g_most_threes := c_most_threes (P := P) (w := w) (base := base) (defAt_of (st := s_most_threes) X G a_most_threes l_most_threes qc_most_threes k_most_threes) T g_most_in g_need_count
  have g__law_is_thing := c__law_is_thing (P := P) (w := w) (base := base) (defAt_of (st := s__law_is_thing) X G a__law_is_thing l__law_is_thing qc__law_is_thing k__law_is_thing) T 
  have g__law_are_threes := c__law_are_threes (P := P) (w := w) (base := base) (defAt_of (st := s__law_are_threes) X G a__law_are_threes l__law_are_threes qc__law_are_threes k__law_are_threes) T g__law_is_thing
  have g__law_pairs := c__law_pairs (P := P) (w := w) (base := base) (defAt_of (st := s__law_pairs) X G a__law_pairs l__law_pairs qc__law_pairs k__law_pairs) T 
  have g__law_held := c__law_held (P := P) (w := w) (base := base) (defAt_of (st := s__law_held) X G a__law_held l__law_held qc__law_held k__law_held) T g__law_pairs
  have g__law_shape := c__law_shape (P := P) (w := w) (base := base) (defAt_of (st := s__law_shape) X G a__law_shape l__law_shape qc__law_shape k__law_shape) T 
  have g_left_shape := c_left_shape (P := P) (w := w) (base := base) (defAt_of (st := s_left_shape) X G a_left_shape l_left_shape qc_left_shape k_left_shape) T g_need_count
  have g_is_thing := c_is_thing (P := P) (w := w) (base := base) (defAt_of (st := s_is_thing) X G a_is_thing l_is_thing qc_is_thing k_is_thing) T g_is_count
  have g_need_pairs := c_need_pairs (P := P) (w := w) (base := base) (defAt_of (st := s_need_pairs) X G a_need_pairs l_need_pairs qc_need_pairs k_need_pairs) T g_is_thing
  have g_shape_in := c_shape_in (P := P) (w := w) (base := base) (defAt_of (st := s_shape_in) X G a_shape_in l_shape_in qc_shape_in k_shape_in) T 
  have g_shape_of := c_shape_of (P := P) (w := w) (base := base) (defAt_of (st := s_shape_of) X G a_shape_of l_shape_of qc_shape_of k_shape_of) T g_need_count g_need_pairs g_shape_in
  have g__law_mixed := c__law_mixed (P := P) (w := w) (base := base) (defAt_of (st := s__law_mixed) X G a__law_mixed l__law_mixed qc__law_mixed k__law_mixed) T g__law_draw
  exact law_ok (fun_mk (st := s_law) l_law qc_law k_law) T (defAt_of (st := s__law_pen) X G a__law_pen l__law_pen qc__law_pen k__law_pen) g__law_are_threes g__law_bar g__law_draw g__law_held g__law_mixed g__law_shape g_left_shape g_most_bar g_most_number g_most_threes g_shape_of law_plain e0 hS hn
end Lk22
open PySem PySem.W PyProof.Rows
set_option maxRecDepth 100000 in
set_option maxHeartbeats 0 in
theorem PySem.Challenge.cw_pairsinthrees_k22_whole_most_holds : PySem.Challenge.rw_pairsinthrees_k22_whole_most.Holds := by
  w_on; o_law; k_head; (case hw => w_witness2)
  k_fill
  refine VL.vl_walkK (l := PySem.Challenge.rw_pairsinthrees_k22_whole_most) rfl rfl (fun w h Y => PySem.W.kIn_of Y) ?F
  case F =>
    intro w mg fa h KX G hmg
    refine' Lk22.all_of (P := (PySem.Challenge.rw_pairsinthrees_k22_whole_most).prog) (w := w) KX G hmg ?a__law_pen ?l__law_pen ?qc__law_pen ?k__law_pen ?a__law_draw ?l__law_draw ?qc__law_draw ?k__law_draw ?a__law_bar ?l__law_bar ?qc__law_bar ?k__law_bar ?a_is_whole ?l_is_whole ?qc_is_whole ?k_is_whole ?a_is_count ?l_is_count ?qc_is_count ?k_is_count ?a_need_count ?l_need_count ?qc_need_count ?k_need_count ?a_most_bar_in ?l_most_bar_in ?qc_most_bar_in ?k_most_bar_in ?a_most_bar ?l_most_bar ?qc_most_bar ?k_most_bar ?a_most_number ?l_most_number ?qc_most_number ?k_most_number ?a_threes_in ?l_threes_in ?qc_threes_in ?k_threes_in ?a_thing_of ?l_thing_of ?qc_thing_of ?k_thing_of ?a_columns ?l_columns ?qc_columns ?k_columns ?a_all_pairs ?l_all_pairs ?qc_all_pairs ?k_all_pairs ?a_crossed ?l_crossed ?qc_crossed ?k_crossed ?a_still_across ?l_still_across ?qc_still_across ?k_still_across ?a_half_of ?l_half_of ?qc_half_of ?k_half_of ?a_half_still_across ?l_half_still_across ?qc_half_still_across ?k_half_still_across ?a_once_in ?l_once_in ?qc_once_in ?k_once_in ?a_nexts ?l_nexts ?qc_nexts ?k_nexts ?a_five_in ?l_five_in ?qc_five_in ?k_five_in ?a_most_in ?l_most_in ?qc_most_in ?k_most_in ?a_most_threes ?l_most_threes ?qc_most_threes ?k_most_threes ?a__law_is_thing ?l__law_is_thing ?qc__law_is_thing ?k__law_is_thing ?a__law_are_threes ?l__law_are_threes ?qc__law_are_threes ?k__law_are_threes ?a__law_pairs ?l__law_pairs ?qc__law_pairs ?k__law_pairs ?a__law_held ?l__law_held ?qc__law_held ?k__law_held ?a__law_shape ?l__law_shape ?qc__law_shape ?k__law_shape ?a_left_shape ?l_left_shape ?qc_left_shape ?k_left_shape ?a_is_thing ?l_is_thing ?qc_is_thing ?k_is_thing ?a_need_pairs ?l_need_pairs ?qc_need_pairs ?k_need_pairs ?a_shape_in ?l_shape_in ?qc_shape_in ?k_shape_in ?a_shape_of ?l_shape_of ?qc_shape_of ?k_shape_of ?a__law_mixed ?l__law_mixed ?qc__law_mixed ?k__law_mixed ?a_law ?l_law ?qc_law ?k_law ?aC_BadNumber ?ga_BadNumber ?gg_BadNumber ?eC_BadNumber ?hd_BadNumber ?tC_BadNumber ?ic_BadNumber ?aC_NotKept ?ga_NotKept ?gg_NotKept ?eC_NotKept ?hd_NotKept ?tC_NotKept ?ic_NotKept ?xL_BadNumber ?xr_BadNumber ?sa_BadNumber ?kC_BadNumber ?iC_BadNumber ?tI_BadNumber ?n0_BadNumber ?n1_BadNumber ?lI_BadNumber ?cI_BadNumber ?kI_BadNumber ?xL_NotKept ?xr_NotKept ?sa_NotKept ?kC_NotKept ?iC_NotKept ?tI_NotKept ?n0_NotKept ?n1_NotKept ?lI_NotKept ?cI_NotKept ?kI_NotKept ?z_bool ?z_dict ?z_int ?z_isinstance ?z_len ?z_list ?z_max ?z_min ?z_range ?z_repr ?z_sorted ?z_tuple ?aK_LEFT ?lK_LEFT
    (case a__law_pen => k_is)
    (case l__law_pen => k_is)
    (case qc__law_pen => k_is)
    (case k__law_pen => k_is)
    (case a__law_draw => k_is)
    (case l__law_draw => k_is)
    (case qc__law_draw => k_is)
    (case k__law_draw => k_is)
    (case a__law_bar => k_is)
    (case l__law_bar => k_is)
    (case qc__law_bar => k_is)
    (case k__law_bar => k_is)
    (case a_is_whole => k_is)
    (case l_is_whole => k_is)
    (case qc_is_whole => k_is)
    (case k_is_whole => k_is)
    (case a_is_count => k_is)
    (case l_is_count => k_is)
    (case qc_is_count => k_is)
    (case k_is_count => k_is)
    (case a_need_count => k_is)
    (case l_need_count => k_is)
    (case qc_need_count => k_is)
    (case k_need_count => k_is)
    (case a_most_bar_in => k_is)
    (case l_most_bar_in => k_is)
    (case qc_most_bar_in => k_is)
    (case k_most_bar_in => k_is)
    (case a_most_bar => k_is)
    (case l_most_bar => k_is)
    (case qc_most_bar => k_is)
    (case k_most_bar => k_is)
    (case a_most_number => k_is)
    (case l_most_number => k_is)
    (case qc_most_number => k_is)
    (case k_most_number => k_is)
    (case a_threes_in => k_is)
    (case l_threes_in => k_is)
    (case qc_threes_in => k_is)
    (case k_threes_in => k_is)
    (case a_thing_of => k_is)
    (case l_thing_of => k_is)
    (case qc_thing_of => k_is)
    (case k_thing_of => k_is)
    (case a_columns => k_is)
    (case l_columns => k_is)
    (case qc_columns => k_is)
    (case k_columns => k_is)
    (case a_all_pairs => k_is)
    (case l_all_pairs => k_is)
    (case qc_all_pairs => k_is)
    (case k_all_pairs => k_is)
    (case a_crossed => k_is)
    (case l_crossed => k_is)
    (case qc_crossed => k_is)
    (case k_crossed => k_is)
    (case a_still_across => k_is)
    (case l_still_across => k_is)
    (case qc_still_across => k_is)
    (case k_still_across => k_is)
    (case a_half_of => k_is)
    (case l_half_of => k_is)
    (case qc_half_of => k_is)
    (case k_half_of => k_is)
    (case a_half_still_across => k_is)
    (case l_half_still_across => k_is)
    (case qc_half_still_across => k_is)
    (case k_half_still_across => k_is)
    (case a_once_in => k_is)
    (case l_once_in => k_is)
    (case qc_once_in => k_is)
    (case k_once_in => k_is)
    (case a_nexts => k_is)
    (case l_nexts => k_is)
    (case qc_nexts => k_is)
    (case k_nexts => k_is)
    (case a_five_in => k_is)
    (case l_five_in => k_is)
    (case qc_five_in => k_is)
    (case k_five_in => k_is)
    (case a_most_in => k_is)
    (case l_most_in => k_is)
    (case qc_most_in => k_is)
    (case k_most_in => k_is)
    (case a_most_threes => k_is)
    (case l_most_threes => k_is)
    (case qc_most_threes => k_is)
    (case k_most_threes => k_is)
    (case a__law_is_thing => k_is)
    (case l__law_is_thing => k_is)
    (case qc__law_is_thing => k_is)
    (case k__law_is_thing => k_is)
    (case a__law_are_threes => k_is)
    (case l__law_are_threes => k_is)
    (case qc__law_are_threes => k_is)
    (case k__law_are_threes => k_is)
    (case a__law_pairs => k_is)
    (case l__law_pairs => k_is)
    (case qc__law_pairs => k_is)
    (case k__law_pairs => k_is)
    (case a__law_held => k_is)
    (case l__law_held => k_is)
    (case qc__law_held => k_is)
    (case k__law_held => k_is)
    (case a__law_shape => k_is)
    (case l__law_shape => k_is)
    (case qc__law_shape => k_is)
    (case k__law_shape => k_is)
    (case a_left_shape => k_is)
    (case l_left_shape => k_is)
    (case qc_left_shape => k_is)
    (case k_left_shape => k_is)
    (case a_is_thing => k_is)
    (case l_is_thing => k_is)
    (case qc_is_thing => k_is)
    (case k_is_thing => k_is)
    (case a_need_pairs => k_is)
    (case l_need_pairs => k_is)
    (case qc_need_pairs => k_is)
    (case k_need_pairs => k_is)
    (case a_shape_in => k_is)
    (case l_shape_in => k_is)
    (case qc_shape_in => k_is)
    (case k_shape_in => k_is)
    (case a_shape_of => k_is)
    (case l_shape_of => k_is)
    (case qc_shape_of => k_is)
    (case k_shape_of => k_is)
    (case a__law_mixed => k_is)
    (case l__law_mixed => k_is)
    (case qc__law_mixed => k_is)
    (case k__law_mixed => k_is)
    (case a_law => k_is)
    (case l_law => k_is)
    (case qc_law => k_is)
    (case k_law => k_is)
    (case aC_BadNumber => k_is)
    (case ga_BadNumber => k_is)
    (case gg_BadNumber => k_is)
    (case eC_BadNumber => k_is)
    (case hd_BadNumber => k_is)
    (case tC_BadNumber => k_is)
    (case ic_BadNumber => k_is)
    (case aC_NotKept => k_is)
    (case ga_NotKept => k_is)
    (case gg_NotKept => k_is)
    (case eC_NotKept => k_is)
    (case hd_NotKept => k_is)
    (case tC_NotKept => k_is)
    (case ic_NotKept => k_is)
    (case xL_BadNumber => k_is)
    (case xr_BadNumber => decide +kernel)
    (case sa_BadNumber => k_is)
    (case kC_BadNumber => k_is)
    (case iC_BadNumber => k_is)
    (case tI_BadNumber => k_is)
    (case n0_BadNumber => k_is)
    (case n1_BadNumber => k_is)
    (case lI_BadNumber => k_is)
    (case cI_BadNumber => k_is)
    (case kI_BadNumber => k_is)
    (case xL_NotKept => k_is)
    (case xr_NotKept => decide +kernel)
    (case sa_NotKept => k_is)
    (case kC_NotKept => k_is)
    (case iC_NotKept => k_is)
    (case tI_NotKept => k_is)
    (case n0_NotKept => k_is)
    (case n1_NotKept => k_is)
    (case lI_NotKept => k_is)
    (case cI_NotKept => k_is)
    (case kI_NotKept => k_is)
    (case z_bool => k_is)
    (case z_dict => k_is)
    (case z_int => k_is)
    (case z_isinstance => k_is)
    (case z_len => k_is)
    (case z_list => k_is)
    (case z_max => k_is)
    (case z_min => k_is)
    (case z_range => k_is)
    (case z_repr => k_is)
    (case z_sorted => k_is)
    (case z_tuple => k_is)
    (case aK_LEFT => k_is)
    (case lK_LEFT => k_is)
#print axioms PySem.Challenge.cw_pairsinthrees_k22_whole_most_holds

