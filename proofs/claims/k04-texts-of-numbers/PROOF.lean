import PyProof.Rows.All
import Wide.All
import OpenK.AllK
import Wide.FinOn
import HandS.ForMost
import HandS.ForExc
import HandS.CallSlots
import HandS.Walk
import HandS.Gcd
import HandS.Wide
import HandS.TupAny
import HandS.Zip
import HandS.TryElse
import HandS.Dict
import HandS.TupSets
import KE.KDictCopyH
import KE.KDictSum
import KE.KDictDisplayH
import HandS.Style
import KE.KMathGC
import KE.SortData
import KE.KDictKeyed
import KE.KTupSum
import KE.GoesMore
import KE.GoesEnum
import HandS.TupMul
import HandS.SortKw
import PyProof.MinMaxWalk
import HandS.StrMore
import HandS.Text
import PyProof.StrOps2
import HandS.IsInst
import HandS.Deep
import KE.KEqDict
import PyProof.EqKinds
import KE.KDictPairs
import HandS.Rev
import HandS.TryMany
import HandS.Defaults
import HandS.Head2
import HandS.Head3
import HandS.HeadHook2
import HandS.EndBits
import KE.KStateDown
import PySem.Challenge.RW_rootfast_k04_texts_of_numbers
set_option Elab.async false
set_option linter.all false
set_option maxRecDepth 100000
set_option maxHeartbeats 0
namespace Ev
open PySem PySem.Spec
open PyProof.Rows L2
def SqD (K : PySem.W.Frag) (H : Hp) (a : Addr) (xs : List V) : Prop := (∃ o : Obj, o.dict = none ∧ H a = some (.frz o (.tup xs))) ∨
  ∃ (o : Obj) (its : Array Value) (n : Nat), K.lookup a = some o ∧ o.cls = .type "tuple" ∧ o.dict = none ∧ o.data = .seq its n ∧ its.size ≤ sizeLine ∧ Vals xs its.toList
theorem SqD.toT {K : PySem.W.Frag} {H : Hp} {a : Addr} {xs : List V} (h : SqD K H a xs) : SqT K H a xs := by
  rcases h with ⟨o, _, h⟩ | ⟨o, its, n, h1, h2, _, h3, h4, h5⟩
  · exact .inl (.inr ⟨o, h⟩)
  · exact .inr ⟨o, its, n, h1, h2, h3, h4, h5⟩
theorem SqD.of {K : PySem.W.Frag} {H : Hp} {a : Addr} {xs : List V} {o : Obj} (hd : o.dict = none) (h : H a = some (.frz o (.tup xs))) : SqD K H a xs := .inl ⟨o, hd, h⟩
def NewT (H : Hp) (xs : List V) (Q : VK) : Prop := ∀ p o, H p = none → o.dict = none → Q (.ref p) (upd H p (.frz o (.tup xs)))
def tupO (its : List Value) : Obj := { cls := .type "tuple", data := .seq its.toArray }
theorem Inv.newT {X : Cx} {pins : List (Addr × Obj)} {σ : L2.St} {H : Hp} {s : Shared} {xs : List V} {its : List Value} {Q : VK} (I : Inv X pins σ H s) (hz : xs.length ≤ sizeLine) (r : Vals xs its) (q : NewT H xs Q) :
    EP X pins σ Q (.ref s.heap.objs.size) { s with heap := s.heap.push (tupO its) } :=
  ⟨.ref s.heap.objs.size, _, I.laid (t' := s.toks) (o := .frz (tupO its) (.tup xs)) (fun b ob q => Heap.get?_push_of_some _ q) (Nat.le_refl _) ⟨Heap.get?_push_size _ rfl, hz, its, r, ⟨_, Heap.get?_push_size _ rfl, rfl, _, rfl⟩⟩, rfl, q _ _ (I.hok.fresh (Nat.le_refl _)) rfl⟩
abbrev DXs := List (List Int × Addr × V)
abbrev DYs := List (List Int × Addr × Value)
def DXr : DXs → DYs → Prop := Paired fun p q => p.1 = q.1 ∧ p.2.1 = q.2.1 ∧ RelV p.2.2 q.2.2
def DXo (a : Addr) (xs : DXs) (h : Heap) : Prop := (a == sysModules) = false ∧ xs.length ≤ sizeLine ∧ (xs.map (·.1)).Nodup ∧ ∃ ys : DYs, DXr xs ys ∧ ∃ o es ep, h.get? a = some o ∧ o.ExactDict ∧ o.data = .dict es ep ∧
  ∀ (P : Program) (w : World), es.toList = ys.map (entryOfKey (tupleKind (intKind P w)))
def DX (a : Addr) (xs : DXs) : HO := .ext (DXo a xs)
theorem dx_ok {P : Program} {w : World} {H : Hp} {h : Heap} {a : Addr} {xs : DXs} (q : DXo a xs h) : ObjOk P w H h a (DX a xs) := by
  refine ⟨q, ?_, fun h1 h2 q1 k => ?_⟩
  · obtain ⟨_, _, _, ys, _, o, _, _, e, _⟩ := q
    exact ⟨o, e⟩
  · obtain ⟨e1, e2, e3, ys, e4, o, es, ep, e5, e6⟩ := q1
    exact ⟨e1, e2, e3, ys, e4, o, es, ep, k o e5, e6⟩
theorem dxr_keys : ∀ {xs : DXs} {ys : DYs}, DXr xs ys → xs.map (·.1) = ys.map (·.1)
  | _, _, .nil => rfl
  | _, _, .cons h t => by rw [List.map_cons, List.map_cons, h.1, dxr_keys t]
section
variable {X : Cx} {pins : List (Addr × Obj)} {σ : L2.St} {H : Hp} {s : Shared} {a b : Addr} {ns : List Int} {xs : DXs} {v : V} {r : Value} {A : Around} {E : Value → Shared → Prop}
theorem ints_are {P : Program} {w : World} : ∀ {ns : List Int} {its : List Value}, Vals (ns.map V.int) its → ItemsAre (intKind P w) ns its
  | [], _, h => by rw [List.map_nil] at h; cases h; exact .nil
  | n :: ns, _, h => by
    rw [List.map_cons] at h
    cases h with
    | cons h1 h2 =>
      obtain ⟨t, rfl⟩ := h1
      exact .cons (by show Value.isInt n (.int n t) = true; simp [Value.isInt]) (ints_are h2)
theorem key_is (I : Inv X pins σ H s) (h : SqT X.K H b (ns.map V.int)) : (tupleKind (intKind X.prog X.w)).is s.heap ns b := by
  obtain ⟨its, r, ⟨o, h1, h2, n, h3⟩, _⟩ := I.tuple h
  exact ⟨o, its.toArray, n, h1, h2, h3, by simpa using ints_are r⟩
def KeysOk (K : PySem.W.Frag) (H : Hp) (xs : DXs) : Prop := ∀ x ∈ xs, SqT K H x.2.1 (x.1.map V.int)
theorem dx_at (I : Inv X pins σ H s) (h : H a = some (DX a xs)) (hk : KeysOk X.K H xs) : (a == sysModules) = false ∧ xs.length ≤ sizeLine ∧ ∃ ys : DYs, DXr xs ys ∧ s.heap.DictOfH (tupleKind (intKind X.prog X.w)) a ys := by
  obtain ⟨⟨e1, e2, e3, ys, e4, o, es, ep, e5, e6, e7, e8⟩, _, _⟩ := (show ObjOk X.prog X.w H s.heap a (DX a xs) from I.hok a _ h)
  refine ⟨e1, e2, ys, e4, o, es, ep, e5, e6, e7, e8 X.prog X.w, fun y hy => ?_, by rw [← dxr_keys e4]; exact e3⟩
  have all : ∀ {l : DXs} {m : DYs}, DXr l m → KeysOk X.K H l → ∀ y ∈ m, (tupleKind (intKind X.prog X.w)).is s.heap y.1 y.2.1 := by
    intro l m q
    induction q with
    | nil => intro _ y hy; exact nomatch hy
    | @cons p q ps qs hq t ih =>
      intro hk y hy
      rcases List.mem_cons.mp hy with e | hy
      · subst e
        rw [← hq.1, ← hq.2.1]
        exact key_is I (hk p (List.mem_cons_self ..))
      · exact ih (fun x hx => hk x (List.mem_cons_of_mem _ hx)) y hy
  exact all e4 hk y hy
def valX (xs : DXs) (ns : List Int) : Option (Addr × V) := (xs.find? fun x => decide (x.1 = ns)).map (·.2)
theorem val_rel {ns : List Int} : ∀ {xs : DXs} {ys : DYs}, DXr xs ys → match valX xs ns, atKey ys ns with | none, none => True | some p, some q => p.1 = q.1 ∧ RelV p.2 q.2 | _, _ => False
  | _, _, .nil => trivial
  | _, _, @Paired.cons _ _ _ p q ps qs h t => by
    unfold valX atKey
    rw [List.find?_cons, List.find?_cons, ← h.1]
    by_cases e : p.1 = ns
    · rw [decide_eq_true e]
      exact ⟨h.2.1, h.2.2⟩
    · rw [decide_eq_false e]
      exact val_rel t
theorem val_some (R : DXr xs ys) {p : Addr × V} (h : valX xs ns = some p) : ∃ q, atKey ys ns = some q ∧ RelV p.2 q.2 := by
  have := val_rel (ns := ns) R
  rw [h] at this
  cases e : atKey ys ns with
  | none => rw [e] at this; exact this.elim
  | some q => rw [e] at this; exact ⟨q, rfl, this.2⟩
theorem val_none (R : DXr xs ys) (h : valX xs ns = none) : atKey ys ns = none := by
  have := val_rel (ns := ns) R
  rw [h] at this
  cases e : atKey ys ns with
  | none => rfl
  | some q => rw [e] at this; exact this.elim
theorem dx_getItem {p : Addr × V} {Q : Value → Shared → Prop} (hu : A.units + 1 < cLine) (I : Inv X pins σ H s) (h : H a = some (DX a xs)) (hk : KeysOk X.K H xs) (hb : SqT X.K H b (ns.map V.int)) (hv : valX xs ns = some p) (q : ∀ w' s', Inv X pins σ H s' → RelV p.2 w' → Q w' s') :
    wpAny (model X.prog X.w) A (getItem (.ref a) (.ref b)) Q E s := by
  obtain ⟨_, _, ys, R, dd⟩ := dx_at I h hk
  obtain ⟨y, h1, h2⟩ := val_some R hv
  exact wpAny_getItem_heap (tupleKind_room_in1 hu) (key_is I hb) dd h1 (q _ _ (I.tok _) h2)
theorem dx_in {Q : Value → Shared → Prop} (hu : A.units + 1 < cLine) (I : Inv X pins σ H s) (h : H a = some (DX a xs)) (hk : KeysOk X.K H xs) (hb : SqT X.K H b (ns.map V.int)) (q : ∀ s', Inv X pins σ H s' → Q (.bool (valX xs ns).isSome) s') :
    wpAny (model X.prog X.w) A (compareOp .In (.ref b) (.ref a)) Q E s := by
  obtain ⟨hd, _, ys, R, dd⟩ := dx_at I h hk
  refine wpAny_in_heap (tupleKind_room_in1 hu) (key_is I hb) hd dd ?_
  have e : (atKey ys ns).isSome = (valX xs ns).isSome := by
    cases hv : valX xs ns with
    | none => rw [val_none R hv]; rfl
    | some p => obtain ⟨y, h1, _⟩ := val_some R hv; rw [h1]; rfl
  rw [e]
  exact q _ (I.tok _)
theorem dx_get2 {d : V} {Q : Value → Shared → Prop} (hu : A.units + 1 < cLine) (I : Inv X pins σ H s) (h : H a = some (DX a xs)) (hk : KeysOk X.K H xs) (hb : SqT X.K H b (ns.map V.int)) (rd : RelV d r) (q : ∀ w' s', Inv X pins σ H s' → RelV (((valX xs ns).map (·.2)).getD d) w' → Q w' s') :
    wpAny (model X.prog X.w) A (call (.builtin "dict.get") [.ref a, .ref b, r]) Q E s := by
  obtain ⟨hd, _, ys, R, dd⟩ := dx_at I h hk
  refine call_meetsIn PySem.F.slot_dict_get dd.typeIs PySem.F.entry_dict_get (PySem.F.args_dict_get_3 _ _ _) (meetsH_dict_get_default (tupleKind (intKind X.prog X.w)) a b hd r) ⟨tupleKind_room_in1 hu, ns, ys, key_is I hb, dd, q _ _ (I.tok _) ?_⟩
  cases hv : valX xs ns with
  | none => rw [val_none R hv]; exact rd
  | some p => obtain ⟨y, h1, h2⟩ := val_some R hv; rw [h1]; exact h2
def putX (xs : DXs) (ns : List Int) (b : Addr) (v : V) : DXs := if (valX xs ns).isSome then xs.map (fun x => if x.1 = ns then (x.1, x.2.1, v) else x) else xs ++ [(ns, b, v)]
theorem dxr_map {v : V} {r : Value} (rv : RelV v r) : ∀ {xs : DXs} {ys : DYs}, DXr xs ys → DXr (xs.map (fun x => if x.1 = ns then (x.1, x.2.1, v) else x)) (ys.map (putAt ns r))
  | _, _, .nil => .nil
  | _, _, @Paired.cons _ _ _ p q ps qs h t => by
    refine .cons ?_ (dxr_map rv t)
    unfold putAt
    rw [← h.1]
    by_cases e : p.1 = ns
    · dsimp only
      rw [if_pos e, if_pos e]
      exact ⟨rfl, h.2.1, rv⟩
    · dsimp only
      rw [if_neg e, if_neg e]
      exact h
theorem dxr_snoc {v : V} {r : Value} (rv : RelV v r) : ∀ {xs : DXs} {ys : DYs}, DXr xs ys → DXr (xs ++ [(ns, b, v)]) (ys ++ [(ns, b, r)])
  | _, _, .nil => .cons ⟨rfl, rfl, rv⟩ .nil
  | _, _, .cons h t => .cons h (dxr_snoc rv t)
theorem dxr_put {v : V} {r : Value} (rv : RelV v r) {xs : DXs} {ys : DYs} (R : DXr xs ys) : DXr (putX xs ns b v) (storedH ys ns b r) := by
  unfold putX
  cases hv : valX xs ns with
  | none => rw [storedH_new (val_none R hv)]; exact dxr_snoc rv R
  | some p => obtain ⟨y, h1, _⟩ := val_some R hv; rw [storedH_old h1]; exact dxr_map rv R
theorem putX_len (xs : DXs) (ns : List Int) (b : Addr) (v : V) : (putX xs ns b v).length ≤ xs.length + 1 := by
  unfold putX
  split
  · rw [List.length_map]; omega
  · rw [List.length_append]; exact Nat.le_refl _
theorem entry_any {P P' : Program} {w w' : World} {ys : DYs} : ys.map (entryOfKey (tupleKind (intKind P w))) = ys.map (entryOfKey (tupleKind (intKind P' w'))) := rfl
theorem dx_setItem {Q : Unit → Shared → Prop} (hu : A.units + 1 < cLine) (I : Inv X pins σ H s) (h : H a = some (DX a xs)) (hk : KeysOk X.K H xs) (hb : SqT X.K H b (ns.map V.int)) (rv : RelV v r) (hl : xs.length < sizeLine) (q : ∀ s', Inv X pins σ (upd H a (DX a (putX xs ns b v))) s' → Q () s') :
    wpAny (model X.prog X.w) A (setItem (.ref a) (.ref b) r) Q E s := by
  obtain ⟨hd, hz, ys, R, dd⟩ := dx_at I h hk
  have hlen : ys.length = xs.length := (Paired.length R).symm
  refine wpAny_setItem_heap (hsz := by omega) (tupleKind_room_in1 hu) (key_is I hb) dd fun h' dd' hs => q _ ?_
  obtain ⟨o, es, ep, hq, h2, h3, h4, _, h5⟩ := dd'
  have R' : DXr (putX xs ns b v) (storedH ys ns b r) := dxr_put rv R
  refine d_write I (by rw [h]; exact True.intro) hs ⟨o, hq⟩ (dx_ok ⟨hd, ?_, ?_, _, R', o, es, ep, hq, h2, h3, fun P w => h4⟩)
  · have := putX_len xs ns b v; omega
  · rw [dxr_keys R']; exact h5
theorem pe_dnewX {pos : Pos} : PE X (.Dict [] [] pos) (fun _ H Q => ∀ p, H p = none → Q (.ref p) (upd H p (DX p []))) := ⟨fun pins s σ H Q I h =>
  wpAny_Dict_empty ⟨.ref s.heap.objs.size, _, I.laid (a := s.heap.objs.size) (o := DX s.heap.objs.size []) (t' := s.toks) (fun _ _ q => Heap.get?_push_of_some _ q) (Nat.le_refl _)
    (dx_ok ⟨beq_eq_false_iff_ne.mpr (Ne.symm (Nat.ne_of_lt I.big)), Nat.zero_le _, List.nodup_nil, [], .nil, _, #[], 0, Heap.get?_push_size _ rfl, ⟨rfl, rfl, rfl⟩, rfl, fun _ _ => rfl⟩), rfl, h _ (I.hok.fresh (Nat.le_refl _))⟩⟩
theorem DX_get : ∀ {xs : DXs} {ys : DYs} {j : Nat} {y : List Int × Addr × Value}, DXr xs ys → ys[j]? = some y → ∃ x, xs[j]? = some x ∧ x.1 = y.1 ∧ x.2.1 = y.2.1 ∧ RelV x.2.2 y.2.2
  | _, _, _, _, .nil, e => by simp at e
  | _, _, 0, _, .cons h _, e => by simp at e; subst e; exact ⟨_, rfl, h⟩
  | _, _, j + 1, y, .cons _ t, e => by
    obtain ⟨x, h1, h2⟩ := DX_get (j := j) t (by simpa using e)
    exact ⟨x, by simpa using h1, h2⟩
theorem key_ints (I : Inv X pins σ H s) (h : SqT X.K H b (ns.map V.int)) : TS.TupInts s.heap (.ref b) ns := by
  obtain ⟨its, r, t, _⟩ := I.tuple h
  exact ⟨b, its.toArray, rfl, t, by simpa using r.ints⟩
theorem reads_all_ints {h : Heap} : ∀ {vs : List Value} {ns : List Int}, IntsAre vs ns → PySem.ReadsAll h vs (ns.map .int) []
  | _, _, .nil => .nil
  | _, _, .cons n u t => .cons (as := []) (bs := []) (.int n u) (reads_all_ints t)
theorem reads_ints {h : Heap} {v : Value} {ns : List Int} (t : TS.TupInts h v ns) : PySem.Reads h v (.tuple (ns.map .int)) [] := by
  obtain ⟨a, vs, rfl, ⟨o, ho, hcl, n, hdt⟩, i⟩ := t
  exact .tuple ho hcl hdt (reads_all_ints i)
theorem each_maps {α : Type} {R : Value → α → Prop} (f : α → Value) : ∀ (l : List α), (∀ x ∈ l, R (f x) x) → PySem.W.EachIs R (l.map f) l
  | [], _ => .nil
  | x :: r, h => .cons (h x (List.mem_cons_self ..)) (each_maps f r fun y hy => h y (List.mem_cons_of_mem _ hy))
theorem each_eq {α : Type} (f : α → Value) : ∀ {vs : List Value} {l : List α}, PySem.W.EachIs (fun v x => v = f x) vs l → vs = l.map f
  | _, _, .nil => rfl
  | _, _, .cons h t => by rw [h, each_eq f t]; rfl
theorem code_le {B : Int} : ∀ {ns ms : List Int}, ns.length = ms.length → TS.Bd B ns → TS.Bd B ms → ¬ ms < ns → TS.code B ns ≤ TS.code B ms
  | [], [], _, _, _, _ => Int.le_refl _
  | [], _ :: _, h, _, _, _ => by simp at h
  | _ :: _, [], h, _, _, _ => by simp at h
  | n :: ns, m :: ms, h, h1, h2, e => by
    have hl : ns.length = ms.length := by simpa using h
    rcases Int.lt_trichotomy n m with c | c | c
    · exact Int.le_of_lt (TS.code_lt hl h1.tail h2.tail c)
    · subst c
      have ih := code_le hl h1.tail h2.tail fun z => e (List.cons_lt_cons_iff.mpr (.inr ⟨rfl, z⟩))
      by_cases q : TS.code B ms < TS.code B ns
      · omega
      · exact Int.not_lt.mp fun z => q ((TS.code_same (B := B) (d := n) hl.symm).mp z)
    · exact absurd (List.cons_lt_cons_iff.mpr (.inl c)) e
theorem dx_sorted {d : Nat} {B : Int} {Q : VK} (hc : X.calm = true) (hu : X.A.units + 65 < cLine) (hd : 1 ≤ d) (I : Inv X pins σ H s) (h : H a = some (DX a xs)) (hk : KeysOk X.K H xs) (h64 : xs.length ≤ 1000000) (hB : ∀ x ∈ xs, x.1.length = d ∧ TS.Bd B x.1)
    (q : ∀ (zs : List (List Int × Addr)) (p : Addr), zs.Perm (xs.map fun x => (x.1, x.2.1)) → zs.Pairwise (fun y z => TS.code B y.1 ≤ TS.code B z.1) → H p = none → Q (.ref p) (upd H p (.lst (zs.map fun z => V.ref z.2)))) :
    wpAny (model X.prog X.w) X.A (call (.builtin "sorted") [.ref a]) (EP X pins σ Q) X.xe s := by
  obtain ⟨lo, _, ys, R, dd⟩ := dx_at I h hk
  obtain ⟨o, es, ep, ho, hex, hdat, hes, his, hnd⟩ := id dd
  have hlen : ys.length = xs.length := (Paired.length R).symm
  have hsz : es.size = ys.length := size_of_entries hes
  have h16 : es.size ≤ sizeLine := by rw [hsz, hlen, sizeLine_eq]; omega
  refine Calls.call_function_entry PyProof.Rows.kind_sorted PyProof.Rows.plain_sorted PyProof.Rows.entry_sorted (PyProof.Rows.args_sorted1 _) ?_
  unfold Builtin.«sorted»
  refine wpAny_bind (m := checkCount "sorted" 1 1 _) (wpAny_pure ?_)
  refine wpAny_bind (PySem.W.kdu_collect (A := X.A.in1) (PySem.KdlSrc.rawDict (es := es) (ep := ep) lo) (I.ok.hd hc) ⟨o, ho, hex, hdat⟩ h16 fun h' tk acc hkp hacc => ?_)
  have hval : acc.toList = (xs.map fun x => (x.1, x.2.1)).map fun z : List Int × Addr => Value.ref z.2 := by
    refine List.ext_getElem (by rw [List.length_map, List.length_map, Array.length_toList, hacc.1, hsz, hlen]) fun j h1 h2 => ?_
    have hj : j < xs.length := by rw [List.length_map, List.length_map] at h2; exact h2
    have e0 : acc[j]? = some acc.toList[j] := by rw [← Array.getElem?_toList]; exact List.getElem?_eq_getElem h1
    obtain ⟨hi, e1⟩ := hacc.2 j _ e0
    have e2 : es[j]? = (ys[j]?).map (entryOfKey (tupleKind (intKind X.prog X.w))) := entry_at hes j
    rw [Array.getElem?_eq_getElem hi, List.getElem?_eq_getElem (show j < ys.length by omega)] at e2
    have e3 := congrArg DictEntry.key (Option.some.inj e2)
    obtain ⟨x, hx, _, r2, _⟩ := DX_get R (List.getElem?_eq_getElem (show j < ys.length by omega))
    rw [e1, e3, List.getElem_map, List.getElem_map]
    show Value.ref ys[j].2.1 = Value.ref xs[j].2.1
    rw [← r2, (List.getElem?_eq_some_iff.mp hx).2]
  have I1 : Inv X pins σ H { s with heap := h', toks := tk } := I.kept hkp
  have hal : acc.toList.length = xs.length := by rw [hval, List.length_map, List.length_map]
  refine wpAny_bind (wpAny_newList ?_ (by rw [hal, sizeLine_eq]; omega))
  have hoL : (h'.push (seqObj "list" acc.toList.toArray 0)).get? h'.objs.size = some (seqObj "list" acc.toList.toArray 0) := Heap.get?_push_size _ rfl
  show wpAny _ _ _ _ _ { s with heap := h'.push (seqObj "list" acc.toList.toArray 0), toks := tk }
  have I2 : Inv X pins σ H { s with heap := h'.push (seqObj "list" acc.toList.toArray 0), toks := tk } := I1.kept fun b o e => Heap.get?_push_of_some _ e
  have tki : ∀ x ∈ xs, TS.TupInts (h'.push (seqObj "list" acc.toList.toArray 0)) (.ref x.2.1) x.1 := fun x hx => key_ints (s := { s with heap := h'.push (seqObj "list" acc.toList.toArray 0), toks := tk }) I2 (hk x hx)
  have tok : TS.TupsOk (h'.push (seqObj "list" acc.toList.toArray 0)) d B acc.toList := fun v hv => by
    rw [hval, List.map_map] at hv
    obtain ⟨x, hx, rfl⟩ := List.mem_map.mp hv
    exact ⟨x.1, tki x hx, (hB x hx).1, (hB x hx).2⟩
  have hbs : (xs.map fun x => (x.1, x.2.1)).length = acc.toList.length := by rw [List.length_map, hal]
  have e1 : PySem.W.EachIs (fun v (z : List Int × Addr) => v = Value.ref z.2) acc.toList (xs.map fun x => (x.1, x.2.1)) := by
    rw [hval]; exact each_maps (fun z : List Int × Addr => Value.ref z.2) _ fun _ _ => rfl
  have e2 : PySem.W.EachIs (fun v (z : List Int × Addr) => ∃ as, PySem.Reads (h'.push (seqObj "list" acc.toList.toArray 0)) v (.tuple (z.1.map .int)) as ∧ h'.objs.size ∉ as) acc.toList (xs.map fun x => (x.1, x.2.1)) := by
    have q := each_maps (R := fun v (z : List Int × Addr) => ∃ as, PySem.Reads (h'.push (seqObj "list" acc.toList.toArray 0)) v (.tuple (z.1.map .int)) as ∧ h'.objs.size ∉ as) (fun z : List Int × Addr => Value.ref z.2) (xs.map fun x => (x.1, x.2.1)) ?_
    · rw [← hval] at q; exact q
    intro z hz
    obtain ⟨x, hx, rfl⟩ := List.mem_map.mp hz
    exact ⟨[], reads_ints (tki x hx), fun q => nomatch q⟩
  have ne : ∀ z ∈ xs.map fun x => (x.1, x.2.1), ∃ m r, z.1 = m :: r := fun z hz => by
    obtain ⟨x, hx, rfl⟩ := List.mem_map.mp hz
    have := (hB x hx).1
    cases q : x.1 with
    | nil => rw [q] at this; simp at this; omega
    | cons m r => exact ⟨m, r, rfl⟩
  refine wpAny_bind (wpAny_holding (PySem.W.list_sort_data (s := { s with heap := h'.push (seqObj "list" acc.toList.toArray 0), toks := tk }) (enc := fun z : List Int × Addr => .tuple (z.1.map .int)) hoL e1 e2 (PySem.W.AllAlike.of fun b b' => by rw [PySem.W.alike]; exact PySem.W.alike_ints _ _)
    (.inl fun d hd => by
      obtain ⟨z, hz, rfl⟩ := List.mem_map.mp hd
      obtain ⟨m, r, e⟩ := ne z hz
      exact ⟨.int m, r.map .int, by rw [e]; rfl⟩) (by rw [hbs, hal, sizeLine_eq]; omega) (fun z _ => ?_) fun out g0 g1 => ?_))
  · show _ + (PyData.depthAll (z.1.map .int) + 1) < cLine
    rw [PySem.W.depth_ints]
    show X.A.units + 1 + 1 + (0 + 1) < cLine
    omega
  obtain ⟨zs, hzs⟩ : ∃ zs, zs = (xs.map fun x => (x.1, x.2.1)).mergeSort (PySem.W.dataLe false (fun z : List Int × Addr => .tuple (z.1.map .int))) := ⟨_, rfl⟩
  rw [← hzs] at g1
  have pz : zs.Perm (xs.map fun x => (x.1, x.2.1)) := by rw [hzs]; exact List.mergeSort_perm _ _
  have ez : zs.map (fun z : List Int × Addr => Value.ref z.2) = out := (each_eq (fun z : List Int × Addr => Value.ref z.2) g1).symm
  have hB' : ∀ z ∈ zs, z.1.length = d ∧ TS.Bd B z.1 := fun z hz => by
    obtain ⟨x, hx, rfl⟩ := List.mem_map.mp (pz.mem_iff.mp hz)
    exact hB x hx
  have hpw : zs.Pairwise (fun y z => TS.code B y.1 ≤ TS.code B z.1) := by
    have pw : zs.Pairwise (fun y z => PySem.W.dataLe false (fun z : List Int × Addr => .tuple (z.1.map .int)) y z = true) := by
      rw [hzs]; exact PySem.W.sort_pairwise (PySem.W.sortLe_total _ _ _) _
    refine List.Pairwise.imp_of_mem (fun {y z} hy hz hyz => ?_) pw
    have hyz : (!PySem.W.dataLt (.tuple (z.1.map .int)) (.tuple (y.1.map .int))) = true := hyz
    have q : PySem.W.dataLt (.tuple (z.1.map .int)) (.tuple (y.1.map .int)) = decide (z.1 < y.1) := by
      rw [PySem.W.dataLt_tuple]; exact PySem.W.dataLt_ints _ _
    rw [q] at hyz
    exact code_le (by rw [(hB' y hy).1, (hB' z hz).1]) (hB' y hy).2 (hB' z hz).2 (by simpa using hyz)
  obtain ⟨e', he'⟩ := PyProof.Rows.sortedHeap_at (vs := acc.toList) (out := out.toArray) hoL
  have hlz : (zs.map fun z => V.ref z.2).length ≤ sizeLine := by
    rw [List.length_map, pz.length_eq, List.length_map, sizeLine_eq]
    omega
  have hv : Vals (zs.map fun z => V.ref z.2) out := by
    rw [← ez]
    exact vals_maps (fun z : List Int × Addr => V.ref z.2) (fun z => Value.ref z.2) zs fun _ _ => rfl
  refine wpAny_pure ⟨_, rfl, .ref h'.objs.size, upd H h'.objs.size (.lst (zs.map fun z => V.ref z.2)), I1.laid (t' := tk) (fun b u e => ?_) (Nat.le_refl _)
    (show ObjOk X.prog X.w _ _ _ (.lst (zs.map fun z => V.ref z.2)) from ⟨hlz, out, e', hv, he'⟩), rfl, q zs _ pz hpw (I1.hok.fresh (Nat.le_refl _))⟩
  have hb : b < h'.objs.size := Heap.lt_size e
  rw [PyProof.Rows.sortedHeap_old (Nat.ne_of_lt hb) (by rw [size_push']; exact Nat.lt_succ_of_lt hb)]
  exact Heap.get?_push_of_some _ e
theorem isDX_at (I : Inv X pins σ H s) (h : H a = some (DX a xs)) : s.TypeIs (.ref a) "dict" ∧ ∀ b, Value.ref a = .ref b → ∃ ob, s.heap.get? b = some ob ∧ ob.dict = none := by
  obtain ⟨⟨e1, e2, e3, ys, e4, o, es, ep, e5, e6, e7, e8⟩, _, _⟩ := (show ObjOk X.prog X.w H s.heap a (DX a xs) from I.hok a _ h)
  exact ⟨⟨o, e5, e6.1⟩, fun b q => by cases q; exact ⟨o, e5, e6.2.1⟩⟩
theorem dx_ix {value slice : Expr} {p : Addr × V} {Q : VK} (hu : X.A.units + 1 < cLine) (I : Inv X pins σ H s) (h : H a = some (DX a xs)) (hk : KeysOk X.K H xs) (hb : SqT X.K H b (ns.map V.int)) (hv : valX xs ns = some p)
    (hs : subscripted slice false (.ref a) (.ref b) = operate [.ref a, .ref b] (getItem (.ref a) (.ref b))) (q : Q p.2 H) : wpAny (model X.prog X.w) X.A (subscriptTail value slice (.ref a) (.ref b)) (EP X pins σ Q) X.xe s :=
  tail_any (isDX_at I h).1 PySem.F.slot_dict_getitem.lookup (dx_getItem hu I h hk hb hv fun w' s' I' r => ⟨p.2, H, I', r, q⟩) hs
end
section
variable {X : Cx} {o e f i value : Expr} {apos cpos pos pos' : Pos} {td ty tx tv : TE}
def tGet2X (K : PySem.W.Frag) (td ty tx : TE) : TE := fun σ H Q => td σ H fun x H1 => ∃ a xs, x = .ref a ∧ H1 a = some (DX a xs) ∧ ty σ H1 fun y H2 => tx σ H2 fun z H3 => ∃ ns b xs', y = .ref b ∧ H3 a = some (DX a xs') ∧ KeysOk K H3 xs' ∧ SqT K H3 b (ns.map V.int) ∧ Q (((valX xs' ns).map (·.2)).getD z) H3
theorem pe_get2X (hu : X.A.units + 1 < cLine) (ho : PE X o td) (he : PE X e ty) (hf : PE X f tx) (m : M2 X o "get" apos e f cpos) : PE X (.Call (.Attribute o "get" apos) [e, f] [] cpos) (tGet2X X.K td ty tx) := by
  refine ⟨fun pins s σ H Q I h => ?_⟩
  refine wpAny_Call_method m.base m.few m.line PySem.F.plainAttrs_dict PySem.F.slot_dict_get PySem.F.type_dict_get (thn (ho.run pins s σ H _ I h) fun u s1 ⟨x, H1, I1, rx, a, xs, ex, d, q1⟩ => ?_)
  subst ex
  obtain rfl : u = Value.ref a := rx
  obtain ⟨t1, t2⟩ := isDX_at I1 d
  refine ⟨t1, t2, ?_⟩
  rw [m.trees]
  refine Calls.callWith_builtin rfl (Calls.evalArgs_plain (Calls.spliced_cons (thn (he.run pins s1 σ H1 _ I1 q1) fun iv s2 ⟨y, H2, I2, ry, q2⟩ =>
    Calls.spliced_cons (thn (hf.run pins s2 σ H2 _ I2 q2) fun fv s3 ⟨z, H3, I3, rz, ns, b, xs', ey, d3, hk, hb, q3⟩ => Calls.spliced_nil ?_))))
  subst ey
  obtain rfl : iv = Value.ref b := ry
  exact dx_get2 hu I3 d3 hk hb rz fun w' s4 I4 rw' => ⟨_, H3, I4, rw', q3⟩
def sPutX (K : PySem.W.Frag) (td ty tv : TE) : TS := fun D σ H => tv σ H fun v H1 => td σ H1 fun x H2 => ty σ H2 fun y H3 => ∃ a b ns xs, x = .ref a ∧ y = .ref b ∧ H3 a = some (DX a xs) ∧ KeysOk K H3 xs ∧ SqT K H3 b (ns.map V.int) ∧ xs.length < sizeLine ∧ D.nx σ (upd H3 a (DX a (putX xs ns b v)))
theorem ps_putX (hu : X.A.units + 1 < cLine) (ho : PE X o td) (hi : PE X i ty) (hv : PE X value tv) (hs : swapsWith value (some (.Subscript o i pos')) pos.line X.env = pure false) :
    PS X (.Assign [.Subscript o i pos'] value pos) (sPutX X.K td ty tv) := by
  refine ⟨fun pins s σ H D I h => ?_⟩
  refine wpAny_Assign_Subscript (thn (hv.run pins s σ H _ I h) fun r s1 ⟨v, H1, I1, rv, q1⟩ => thn (ho.run pins s1 σ H1 _ I1 q1) fun u s2 ⟨x, H2, I2, rx, q2⟩ => thn (hi.run pins s2 σ H2 _ I2 q2) fun iv s3 ⟨y, H3, I3, ry, a, b, ns, xs, ex, ey, d3, hk, hb, hl, q3⟩ => ?_) hs
  subst ex ey
  obtain rfl : u = Value.ref a := rx
  obtain rfl : iv = Value.ref b := ry
  exact dx_setItem hu I3 d3 hk hb rv hl fun s4 I4 => ⟨σ, _, I4, q3⟩
end
section
variable {X : Cx} {ke ve : Expr} {pos : Pos} {tk tv : TE}
def tDD (K : PySem.W.Frag) (tk tv : TE) : TE := fun σ H Q => ∀ p, H p = none → tk σ (upd H p (DX p [])) fun y H2 => tv σ H2 fun v H3 => ∃ b ns, y = .ref b ∧ H3 p = some (DX p []) ∧ SqT K H3 b (ns.map V.int) ∧ Q (.ref p) (upd H3 p (DX p [(ns, b, v)]))
theorem pe_ddX (hu : X.A.units + 1 < cLine) (hk : PE X ke tk) (hv : PE X ve tv) : PE X (.Dict [some ke] [ve] pos) (tDD X.K tk tv) := by
  refine ⟨fun pins s σ H Q I h => ?_⟩
  have fr : H s.heap.objs.size = none := I.hok.fresh (Nat.le_refl _)
  have I1 : Inv X pins σ (upd H s.heap.objs.size (DX s.heap.objs.size [])) { s with heap := s.heap.push { cls := .type "dict", data := .dict #[] } } := I.laid (a := s.heap.objs.size) (o := DX s.heap.objs.size []) (t' := s.toks) (fun _ _ q => Heap.get?_push_of_some _ q) (Nat.le_refl _)
    (dx_ok ⟨beq_eq_false_iff_ne.mpr (Ne.symm (Nat.ne_of_lt I.big)), Nat.zero_le _, List.nodup_nil, [], .nil, _, #[], 0, Heap.get?_push_size _ rfl, ⟨rfl, rfl, rfl⟩, rfl, fun _ _ => rfl⟩)
  have q0 := h _ fr
  generalize hD : s.heap.objs.size = D at *
  have hsh : (evalEachOpt [some ke] X.env).zip ((evalEach [ve] X.env).map fun v => do let x ← v; standAt pos; pure x) = [(eval ke X.env, do let x ← eval ve X.env; standAt pos; pure x)].map fun p => (some p.1, p.2) := by
    with_unfolding_all rfl
  rw [arm_eval_Dict, hsh, dictDisplay_pairs _ (by simp) (by simp)]
  refine wpAny_bind (wpAny_standAt (wpAny_bind (wpAny_subDictH (knd := tupleKind (intKind X.prog X.w)) (Q := fun d s' => wpAny (model X.prog X.w) X.A (pure (Value.ref d)) (EP X pins σ Q) X.xe s') (show X.A.units < cLine from Nat.lt_of_succ_lt hu) (by simp) ?_)))
  show wpAny (model X.prog X.w) X.A (eval ke X.env >>= fun kv => holding [kv] (eval ve X.env >>= fun x => standAt pos >>= fun _ => pure x) >>= fun vv => holding [kv, vv] (pure []) >>= fun r => pure ((kv, vv) :: r)) _ _ _
  refine wpAny_bind (thn (hk.run pins _ σ _ _ I1 q0) fun kv s1 ⟨y, H2, I2, ry, q2⟩ => ?_)
  refine wpAny_bind (wpAny_holding (wpAny_bind (thn (hv.run pins s1 σ H2 _ I2 q2) fun vv s2 ⟨v, H3, I3, rv, b, ns, ey, hp, hb, q⟩ => wpAny_bind (wpAny_standAt (wpAny_pure ?_)))))
  refine wpAny_bind (wpAny_holding (wpAny_pure (wpAny_pure ?_)))
  subst ey
  obtain rfl : kv = Value.ref b := ry
  obtain ⟨hd, hz, ys, R, dd⟩ := dx_at I3 hp (fun x hx => nomatch hx)
  obtain rfl : ys = [] := by cases R; rfl
  refine ⟨[(ns, b, vv)], ⟨rfl, rfl, key_is I3 hb, trivial⟩, by rw [hD]; exact dd, fun h' tk dd' hs => wpAny_pure ?_⟩
  rw [hD] at dd' hs ⊢
  obtain ⟨o, es, ep, hq, h2, h3, h4, _, h5⟩ := dd'
  refine ⟨.ref D, _, ?_, rfl, q⟩
  exact d_write I3 (by rw [hp]; exact True.intro) hs ⟨o, hq⟩ (dx_ok ⟨hd, by show 1 ≤ sizeLine; rw [sizeLine_eq]; decide, by simp, [(ns, b, vv)], .cons ⟨rfl, rfl, rv⟩ .nil, o, es, ep, hq, h2, h3, fun P w => h4⟩)
end
section
open HT
section
variable {prog : Program} {w : World} {A : Around} {E : Value → Shared → Prop} {s : Shared}
theorem sliceApplied_rev {sl : Addr} {u : Tok} {n : Nat} {Q : Int × Int × Nat → Shared → Prop} (hs : s.heap.IsSliceOf sl .none .none (.int (-1) u))
    (h : Q ((n : Int) - 1, -1, n) s) : wpAny (model prog w) A (Builtin.Slice.sliceApplied (.ref sl) (pure (n : Int))) Q E s := by
  obtain ⟨os, hos, hcs, hds⟩ := id hs
  unfold Builtin.Slice.sliceApplied Builtin.Slice.sliceFields
  refine wpAny_bind (wpAny_bind (wpAny_field hos hds (x := .none) rfl (wpAny_bind (wpAny_field hos hds (x := .none) rfl (wpAny_bind (wpAny_field hos hds (x := .int (-1) u) rfl (wpAny_pure ?_)))))))
  refine wpAny_bind (slicePart_int ?_)
  show wpAny _ _ (if ((-1 : Int) == 0) = true then _ else _) _ _ s
  rw [if_neg (by decide)]
  refine wpAny_bind (slicePart_none (wpAny_bind (slicePart_none (wpAny_bind (wpAny_pure ?_)))))
  show wpAny _ _ (pure ((n : Int) - 1, (-1 : Int), Builtin.Slice.slicePlaces ((n : Int) - 1) (-1) (-1))) _ _ s
  have e : Builtin.Slice.slicePlaces ((n : Int) - 1) (-1) (-1) = n := by
    unfold Builtin.Slice.slicePlaces
    rw [if_neg (by decide)]
    by_cases h0 : n = 0
    · subst h0; rfl
    · rw [if_pos (by omega), show -(-1 : Int) = 1 from rfl, Int.ediv_one]
      omega
  rw [e]
  exact wpAny_pure h
theorem pick_rev (xs : Array Value) : ((List.range xs.size).filterMap fun (m : Nat) => xs[((xs.size : Int) - 1 + (m : Int) * (-1)).toNat]?).toArray = xs.toList.reverse.toArray := by
  have e : (List.range xs.size).filterMap (fun (m : Nat) => xs[((xs.size : Int) - 1 + (m : Int) * (-1)).toNat]?) = ((List.range xs.size).map fun k => xs.size - 1 - k).filterMap (xs[·]?) := by
    rw [List.filterMap_map]
    refine congrArg (fun f => (List.range xs.size).filterMap f) (funext fun m => ?_)
    show _ = xs[xs.size - 1 - m]?
    rw [show ((xs.size : Int) - 1 + (m : Int) * (-1)).toNat = xs.size - 1 - m by omega]
  rw [e, PySem.W.krv_range, List.filterMap_reverse, PySem.W.krv_all]
theorem getItem_tuple_rev {t sl : Addr} {items : Array Value} {u : Tok} {Q : Value → Shared → Prop} (ht : IsTup s.heap t items) (hs : s.heap.IsSliceOf sl .none .none (.int (-1) u))
    (h : Q (.ref s.heap.objs.size) { s with heap := s.heap.push { cls := .type "tuple", data := .seq items.toList.reverse.toArray } })
    (hsz : items.size ≤ sizeLine) : wpAny (model prog w) A (getItem (.ref t) (.ref sl)) Q E s := by
  have htake : sizeOk (.seq items.toList.reverse.toArray) := by
    show items.toList.reverse.toArray.size ≤ sizeLine
    rw [List.size_toArray, List.length_reverse, Array.length_toList]
    exact hsz
  obtain ⟨os, hos, hcs, hds⟩ := id hs
  have hTs : s.TypeIs (.ref sl) "slice" := ⟨os, hos, hcs⟩
  unfold getItem
  try with_reducible refine wpAny_holding ?_
  first | refine wpAny_bind (wpAny_pure ?_) | skip
  refine wpAny_bind (wpAny_sequenceKey ht.typeIs (by decide) ?_)
  refine wpAny_bind (wpAny_callSpecial?_slot (name := Str.ofString "__getitem__") ht.typeIs PyProof.Rows.slot_tuple_getitem
    (wpAny_call_entry PyProof.Rows.slot_tuple_getitem ht.typeIs entry_tuple_getitem ?_ (args_tuple_getitem _ _)))
  show wpAny _ _ (Builtin.Tuple.tupleItemsOf (.ref t) >>= _) _ _ s
  refine wpAny_bind (tupleItemsOf_ ht ?_)
  refine wpAny_bind (wpAny_typeOf hTs ?_)
  rw [if_pos (by decide)]
  refine wpAny_bind (sliceApplied_rev hs ?_)
  have hno : ¬ ((((items.size : Int) - 1) == 0 && (-1 : Int) == 1 && items.size == items.size) = true) := by
    intro q
    rw [Bool.and_eq_true, Bool.and_eq_true] at q
    exact absurd q.1.2 (by decide)
  show wpAny _ _ (if (((items.size : Int) - 1) == 0 && (-1 : Int) == 1 && items.size == items.size) = true then _ else _) _ _ s
  rw [if_neg hno, pick_rev]
  first
    | exact wpAny_bind (m := Builtin.Tuple.tupleExact _) (wpAny_newObj_type (wpAny_pure ⟨_, rfl, wpAny_pure h⟩) htake)
    | exact wpAny_bind (m := Builtin.Tuple.tupleExact _) (wpAny_newObj_type (wpAny_bind (wpAny_pure (wpAny_pure ⟨_, rfl, wpAny_pure h⟩))) htake)
    | exact wpAny_bind (wpAny_bind (m := Builtin.Tuple.tupleExact _) (wpAny_newObj_type (wpAny_pure (wpAny_pure ⟨_, rfl, wpAny_pure h⟩)) htake))
    | exact wpAny_bind (wpAny_bind (m := Builtin.Tuple.tupleExact _) (wpAny_newObj_type (wpAny_pure ⟨_, rfl, wpAny_pure h⟩) htake))
end
section
variable {X : Cx}
def tRevA (K : PySem.W.Frag) (te : TE) : TE := fun σ H Q => te σ H fun x H1 => ∃ a xs, x = .ref a ∧ ((SqL K H1 a xs ∧ ∀ p, H1 p = none → Q (.ref p) (upd H1 p (.lst xs.reverse))) ∨ (SqT K H1 a xs ∧ NewT H1 xs.reverse Q))
theorem pe_revA {e : Expr} {te : TE} {k : Nat} {p1 p2 p3 pos : Pos} (he : PE X e te) : PE X (.Subscript e (.Slice none none (some (.UnaryOp .USub (.Constant (.int 1) k p1) p2)) p3) pos) (tRevA X.K te) := by
  refine ⟨fun pins s σ H Q I h => ?_⟩
  refine Subscript_ (thn (he.run pins s σ H _ I h) fun v s1 ⟨x, H1, I1, r1, q1⟩ => ?_)
  obtain ⟨a, xs, ex, q⟩ := q1
  subst ex
  cases r1
  have hst : PO X (some (.UnaryOp .USub (.Constant (.int 1) k p1) p2)) (tPart (tUn (rU fun i => .int (-i)) (tC (.int 1)))) := po_some (pe_un un_neg pe_int)
  refine wpAny_Slice (thn (po_none.run pins s1 σ H1 (fun o H2 => o = none ∧ H2 = H1) I1 ⟨rfl, rfl⟩) fun vl s2 ⟨l, H2, I2, pl, el, e2⟩ => ?_)
  subst el e2
  refine thn (po_none.run pins s2 σ H2 (fun o H3 => o = none ∧ H3 = H2) I2 ⟨rfl, rfl⟩) fun vu s3 ⟨u, H3, I3, pu, eu, e3⟩ => ?_
  subst eu e3
  refine thn (hst.run pins s3 σ H3 (fun o H4 => o = some (-1) ∧ H4 = H3) I3 ⟨1, rfl, -1, rfl, rfl, rfl⟩) fun vs s4 ⟨o, H4, I4, ps, eo, e4⟩ => ?_
  subst eo e4
  have I5 : Inv X pins σ H4 { s4 with heap := s4.heap.push { cls := .type "slice", data := .fields #[vl, vu, vs] } } := I4.kept (t' := s4.toks) fun b ob q => Heap.get?_push_of_some _ q
  rcases q with ⟨hx, q⟩ | ⟨hx, q⟩
  · obtain ⟨its, r, ht, hz⟩ := I5.list hx
    have hlen := r.length
    show wpAny (model X.prog X.w) X.A (subscriptTail e (.Slice none none (some (.UnaryOp .USub (.Constant (.int 1) k p1) p2)) p3) (.ref a) (.ref s4.heap.objs.size)) (EP X pins σ Q) X.xe { s4 with heap := s4.heap.push { cls := .type "slice", data := .fields #[vl, vu, vs] } }
    refine tail_any (ops := [.ref a, .ref s4.heap.objs.size]) ht.isList.typeIs (PySem.slot_list_getitem.lookup) ?_ (by with_unfolding_all rfl)
    refine wpAny_getItem_list_slice ht.isList (Heap.IsSliceOf.new _ vl vu vs) pl pu ps (by decide) ?_ (by rw [List.size_toArray]; omega)
    rw [PySem.W.krv_pick]
    refine ⟨.ref _, _, I5.laid (t' := s4.toks) (o := .lst xs.reverse) (fun b ob q => Heap.get?_push_of_some _ q) (Nat.le_refl _) ?_, rfl, q _ (I5.hok.fresh (Nat.le_refl _))⟩
    exact ⟨by rw [List.length_reverse]; exact hz, _, 0, r.reverse, Heap.get?_push_size _ rfl⟩
  · obtain ⟨its, r, ht, hz⟩ := I5.tuple hx
    have hlen := r.length
    cases pl
    cases pu
    cases ps
    show wpAny (model X.prog X.w) X.A (subscriptTail e (.Slice none none (some (.UnaryOp .USub (.Constant (.int 1) k p1) p2)) p3) (.ref a) (.ref s4.heap.objs.size)) (EP X pins σ Q) X.xe { s4 with heap := s4.heap.push { cls := .type "slice", data := .fields #[.none, .none, _] } }
    refine tail_any (ops := [.ref a, .ref s4.heap.objs.size]) ht.typeIs PyProof.Rows.slot_tuple_getitem.lookup ?_ (by with_unfolding_all rfl)
    refine getItem_tuple_rev ht (Heap.IsSliceOf.new _ _ _ _) ?_ (by rw [List.size_toArray]; omega)
    exact Inv.newT I5 (by rw [List.length_reverse]; exact hz) r.reverse q
end
end
end Ev
namespace Ev
open PySem PySem.Spec
open PyProof.Rows L2
def SqK (K : PySem.W.Frag) (H : Hp) (a : Addr) (xs : List V) (k : Bool) : Prop := if k = true then SqT K H a xs else SqL K H a xs
def IsK (h : Heap) (a : Addr) (its : Array Value) (k : Bool) : Prop := if k = true then h.IsTuple a its else h.IsList a its
def ItK (h : Heap) (it a : Addr) (i : Nat) (k : Bool) : Prop := if k = true then h.IsTupleIter it a i else h.IsListIter it a i
section
variable {X : Cx} {pins : List (Addr × Obj)} {σ : L2.St} {H : Hp} {s : Shared} {a it : Addr} {xs : List V} {k : Bool}
theorem SqK.openK (I : Inv X pins σ H s) (h : SqK X.K H a xs k) : ∃ its : List Value, Vals xs its ∧ IsK s.heap a its.toArray k ∧ xs.length ≤ sizeLine ∧ ∃ o, s.heap.get? a = some o := by
  cases k with
  | true =>
    obtain ⟨its, r, p, z⟩ := I.tuple (show SqT X.K H a xs from h)
    obtain ⟨o, ho, _⟩ := id p
    exact ⟨its, r, (show s.heap.IsTuple a its.toArray from p), z, o, ho⟩
  | false =>
    obtain ⟨its, r, p, z⟩ := I.list (show SqL X.K H a xs from h)
    obtain ⟨o, ho, _⟩ := id p.isList
    exact ⟨its, r, (show s.heap.IsList a its.toArray from p.isList), z, o, ho⟩
theorem SqK.inj {ys : List V} (I : Inv X pins σ H s) (h : SqK X.K H a xs k) (h2 : SqK X.K H a ys k) : xs = ys := by
  cases k with
  | true => exact I.tuple_inj h h2
  | false => exact I.list_inj h h2
theorem ItK.obj {h : Heap} {i : Nat} (q : ItK h it a i k) : ∃ o, h.get? it = some o ∧ ∀ v, o.data ≠ .cell v := by
  cases k with
  | true => obtain ⟨o, e, _, d⟩ := (show h.IsTupleIter it a i from q); exact ⟨o, e, fun v q => by rw [d] at q; cases q⟩
  | false => obtain ⟨o, e, _, d⟩ := (show h.IsListIter it a i from q); exact ⟨o, e, fun v q => by rw [d] at q; cases q⟩
theorem ItK.at {h h' : Heap} {i : Nat} (q : ItK h it a i k) (e : ∀ o, h.get? it = some o → h'.get? it = some o) : ItK h' it a i k := by
  cases k with
  | true => exact Heap.IsTupleIter.at (show h.IsTupleIter it a i from q) e
  | false => exact Heap.IsListIter.at (show h.IsListIter it a i from q) e
theorem drawsK {prog : Program} {w : World} {A : Around} (hh : A.handled = none) (hne : a ≠ it) (its : Array Value) :
    Draws prog w A it [it, a] its.size (fun i v => its[i]? = some v) (fun i h => ItK h it a i k ∧ IsK h a its k) := by
  cases k with
  | true => exact Draws.tuple hh it a hne its
  | false => exact Draws.list hh it a hne its
end
def ItzM (K : PySem.W.Frag) (a b : Addr) (k l : Bool) : It :=
  ⟨fun i H => ∃ (xs ys : List V) (x y : V), SqK K H a xs k ∧ SqK K H b ys l ∧ xs[i]? = some x ∧ ys[i]? = some y,
    fun i H v H' => ∃ T x y ob, ob.dict = none ∧ v = .ref T ∧ H T = none ∧ H' = upd H T (.frz ob (.tup [x, y])) ∧ (∀ xs, SqK K H a xs k → xs[i]? = some x) ∧ ∀ ys, SqK K H b ys l → ys[i]? = some y,
    fun i H => ∃ xs ys : List V, SqK K H a xs k ∧ SqK K H b ys l ∧ (xs.length = i ∨ ys.length = i) ∧ i ≤ xs.length ∧ i ≤ ys.length⟩
theorem turn_zipM {P : Program} {w : World} {K : PySem.W.Frag} {elts : List Expr} {kk : Nat} {tpos : Pos} {a b z TI TO i1 i2 : Addr} {k l : Bool} (D : ZipSep2 z TI TO i1 i2 [i1, a] [i2, b]) (na : a ≠ i1) (nb : b ≠ i2) :
    Turn P w K (.Tuple elts kk tpos) (ItzM K a b k l) [z, TI, TO, i1, i2] z (fun i h => IsZip h z TI TO .none ∧ IsTupOf2 h TI (.ref i1) (.ref i2) ∧ (∃ x y, IsTupOf2 h TO x y) ∧ ItK h i1 a i k ∧ ItK h i2 b i l) where
  mem := by simp
  obj := fun i h st c hc => by
    obtain ⟨hz, hTI, ⟨x, y, hTO⟩, h1, h2⟩ := st
    have e' : c = z ∨ c = TI ∨ c = TO ∨ c = i1 ∨ c = i2 := by simpa using hc
    rcases e' with q | q | q | q | q
    · rw [q]; exact ⟨_, hz, fun v q => nomatch q⟩
    · rw [q]; exact ⟨_, hTI, fun v q => nomatch q⟩
    · rw [q]; exact ⟨_, hTO, fun v q => nomatch q⟩
    · rw [q]; exact h1.obj
    · rw [q]; exact h2.obj
  keep := fun i h h' st q => by
    obtain ⟨hz, hTI, ⟨x, y, hTO⟩, h1, h2⟩ := st
    exact ⟨q z (by simp) _ hz, q TI (by simp) _ hTI, ⟨x, y, q TO (by simp) _ hTO⟩, h1.at fun o e => q i1 (by simp) o e, h2.at fun o e => q i2 (by simp) o e⟩
  item := by
    intro X hP hw hK hc i pins s σ H E I hf st hg
    subst hP hw hK
    obtain ⟨hz, hTI, ⟨x0, y0, hTO⟩, h1, h2⟩ := st
    obtain ⟨xs, ys, x, y, hqx, hqy, hx, hy⟩ := hg
    obtain ⟨its, rv, p, _⟩ := hqx.openK I
    obtain ⟨its2, rv2, p2, _⟩ := hqy.openK I
    obtain ⟨u, hu, ru⟩ := rv.get hx
    obtain ⟨u2, hu2, ru2⟩ := rv2.get hy
    have hzl : z < s.heap.objs.size := Heap.lt_size hz
    have D1 := drawsK (prog := X.prog) (w := X.w) (A := X.A.in1) (k := k) (I.ok.hd hc) na its.toArray
    have D2 := drawsK (prog := X.prog) (w := X.w) (A := X.A.in1) (k := l) (I.ok.hd hc) nb its2.toArray
    refine wpAny_pyNext_zipD2_item D D1 D2 hz hTI hTO ⟨h1, p⟩ ⟨h2, p2⟩ (by have := (List.getElem?_eq_some_iff.mp hu).1; simpa using this) (by have := (List.getElem?_eq_some_iff.mp hu2).1; simpa using this) fun x1 x2 h' tk g1 g2 z' TO' d1 d2 hT hsz hk => ?_
    obtain rfl : u = x1 := by have e : its[i]? = some x1 := by simpa using g1
                              rw [hu] at e; exact Option.some.inj e
    obtain rfl : u2 = x2 := by have e : its2[i]? = some x2 := by simpa using g2
                               rw [hu2] at e; exact Option.some.inj e
    refine ⟨_, rfl, wpAny_letOwnedTupleGo_zip (s := { s with heap := h', toks := tk }) z' fun h'' z'' sb => ?_⟩
    have hT2 : h''.get? s.heap.objs.size = some { cls := .type "tuple", data := .seq #[u, u2] } := (sb.2 _ (Nat.ne_of_gt hzl)).trans hT
    have new : ObjOk X.prog X.w (upd H s.heap.objs.size (.frz (tupO [u, u2]) (.tup [x, y]))) h'' s.heap.objs.size (.frz (tupO [u, u2]) (.tup [x, y])) :=
      ⟨hT2, by show 2 ≤ sizeLine; decide, [u, u2], .cons ru (.cons ru2 .nil), ⟨_, hT2, rfl, _, rfl⟩⟩
    have I1 : Inv X pins σ (upd H s.heap.objs.size (.frz (tupO [u, u2]) (.tup [x, y]))) { s with heap := h'', toks := tk } :=
      I.turnedNew (t' := tk) (ch := [z, TI, TO, i1, i2]) (fun c o hb q => (sb.2 c (fun q' => hb (by simp [q']))).trans (hk c o (fun q' => hb (by simp [q'])) (fun q' => hb (by simp [q'])) (fun q' => hb (by simp [q'])) (fun q' => hb (by simp [q'])) q)) hf (Nat.le_refl _) new
    refine ⟨.ref s.heap.objs.size, _, I1, rfl, ⟨_, x, y, _, rfl, rfl, I.hok.fresh (Nat.le_refl _), rfl, fun l hl => by rw [hl.inj I hqx]; exact hx, fun l hl => by rw [hl.inj I hqy]; exact hy⟩, ⟨z'', ?_, ⟨u, u2, ?_⟩, ?_, ?_⟩, fun c hcm => ?_⟩
    · exact (sb.2 _ D.TIz).trans (hk _ _ D.TIz D.TITO D.TIi1 D.TIi2 hTI)
    · exact (sb.2 _ D.TOz).trans TO'
    · exact d1.1.at fun o q => (sb.2 _ (Ne.symm D.zi1)).trans q
    · exact d2.1.at fun o q => (sb.2 _ (Ne.symm D.zi2)).trans q
    · have hlt : c < s.heap.objs.size := by
        have e' : c = z ∨ c = TI ∨ c = TO ∨ c = i1 ∨ c = i2 := by simpa using hcm
        rcases e' with q | q | q | q | q
        · rw [q]; exact hzl
        · rw [q]; exact Heap.lt_size hTI
        · rw [q]; exact Heap.lt_size hTO
        · rw [q]; obtain ⟨_, e1, _⟩ := h1.obj; exact Heap.lt_size e1
        · rw [q]; obtain ⟨_, e2, _⟩ := h2.obj; exact Heap.lt_size e2
      rw [upd_ne (Nat.ne_of_lt hlt)]
      exact (hf c hcm).1
  done := by
    intro X hP hw hK hc i pins s σ H E I hf st hg
    subst hP hw hK
    obtain ⟨hz, hTI, ⟨x0, y0, hTO⟩, h1, h2⟩ := st
    obtain ⟨xs, ys, hqx, hqy, hend, hle1, hle2⟩ := hg
    obtain ⟨its, rv, p, _⟩ := hqx.openK I
    obtain ⟨its2, rv2, p2, _⟩ := hqy.openK I
    have l1 := rv.length
    have l2 := rv2.length
    have D1 := drawsK (prog := X.prog) (w := X.w) (A := X.A.in1) (k := k) (I.ok.hd hc) na its.toArray
    have D2 := drawsK (prog := X.prog) (w := X.w) (A := X.A.in1) (k := l) (I.ok.hd hc) nb its2.toArray
    refine wpAny_pyNext_zipD2_end D D1 D2 hz hTI hTO ⟨h1, p⟩ ⟨h2, p2⟩ (by simp; omega) (by simp; omega) (by simp; omega) fun h' tk hk => ⟨rfl, ?_⟩
    exact I.turnedL (t' := tk) (ch := [z, TI, TO, i1, i2]) (fun c o hb q =>
      hk c o (fun q' => hb (by simp [q'])) (fun q' => hb (by simp [q'])) (fun q' => hb (by simp [q'])) (fun q' => hb (by simp [q'])) q) hf
  self := fun A i s Q E st h => wpAny_pyIter_zip st.1 h
theorem beginsK (a : Addr) (its : Array Value) (k : Bool) : ∃ o, Begins (.ref a) o (fun h => IsK h a its k) ∧ ∀ h it, h.get? it = some o → ItK h it a 0 k := by
  cases k with
  | true => exact ⟨_, begins_tuple a its, fun h it e => (show h.IsTupleIter it a 0 from ⟨_, e, rfl, rfl⟩)⟩
  | false => exact ⟨_, begins_list a its, fun h it e => (show h.IsListIter it a 0 from ⟨_, e, rfl, rfl⟩)⟩
def iZipM (K : PySem.W.Frag) (ta : TA) : TI := fun σ H R => ta σ H fun vs H1 => ∃ a b xs ys k l, vs = [.ref a, .ref b] ∧ SqK K H1 a xs k ∧ SqK K H1 b ys l ∧ R (ItzM K a b k l) H1
theorem pi_zipM {X : Cx} {e e2 : Expr} {ta : TA} {p pos tpos : Pos} {elts : List Expr} {kk : Nat} (hg : Gl X "zip") (hm : X.mg "zip" = none) (ha : PA X [e, e2] ta)
    (hs : starEach [e, e2] X.env = (false, eval e X.env) :: starEach [e2] X.env := by rfl) (hpl : (backTo pos (starEach [e2] X.env)).any (·.1) = false := by rfl) :
    PI X (.Tuple elts kk tpos) (.Call (.Name "zip" p) [e, e2] [] pos) (iZipM X.K ta) := by
  refine ⟨fun pins s σ H R I h => ?_⟩
  refine Call_ (ld_blt I hg hm PyProof.Rows.boot_zip (PyProof.Rows.callWith_type1 (thn (ha.run pos pins s σ H _ I h) fun us s1 ⟨vs, H1, I1, r1, q1⟩ => ?_) hs hpl))
  obtain ⟨a, b, xs, ys, k, l, ex, hqx, hqy, q⟩ := q1
  subst ex
  cases r1 with
  | cons r rr =>
    cases rr with
    | cons r' rr =>
      cases rr
      cases r
      cases r'
      have fresh5 : ∀ c, c ∈ [s1.heap.objs.size + 4, s1.heap.objs.size + 2, s1.heap.objs.size + 3, s1.heap.objs.size, s1.heap.objs.size + 1] → FpOk X pins H1 c := fun c hcm => by
        have e' : c = s1.heap.objs.size + 4 ∨ c = s1.heap.objs.size + 2 ∨ c = s1.heap.objs.size + 3 ∨ c = s1.heap.objs.size ∨ c = s1.heap.objs.size + 1 := by simpa using hcm
        have hle : s1.heap.objs.size ≤ c := by
          rcases e' with z | z | z | z | z
          · rw [z]; exact Nat.le_add_right _ _
          · rw [z]; exact Nat.le_add_right _ _
          · rw [z]; exact Nat.le_add_right _ _
          · rw [z]; exact Nat.le_refl _
          · rw [z]; exact Nat.le_add_right _ _
        exact I1.fpOk hle (I1.hok.fresh hle)
      obtain ⟨its, rv, p1, _, oa, ha⟩ := hqx.openK I1
      obtain ⟨its2, rv2, p2, _, ob, hb⟩ := hqy.openK I1
      have la := Heap.lt_size ha
      have lb := Heap.lt_size hb
      obtain ⟨o1, B1, g1⟩ := beginsK a its.toArray k
      obtain ⟨o2, B2, g2⟩ := beginsK b its2.toArray l
      refine zip_begins2 B1 B2 p1 p2 fun h' hz hTI hTO e1 e2 hsz hk => wpAny_pyIter_zip hz ?_
      have I2 : Inv X pins σ H1 { s1 with heap := h' } := I1.kept (t' := s1.toks) hk
      have S : ZipSep2 (s1.heap.objs.size + 4) (s1.heap.objs.size + 2) (s1.heap.objs.size + 3) s1.heap.objs.size (s1.heap.objs.size + 1) [s1.heap.objs.size, a] [s1.heap.objs.size + 1, b] :=
        zip_sep2 (fun c hc => by rw [List.mem_singleton.mp hc]; exact la) (fun c hc => by rw [List.mem_singleton.mp hc]; exact lb)
      exact ⟨s1.heap.objs.size + 4, [s1.heap.objs.size + 4, s1.heap.objs.size + 2, s1.heap.objs.size + 3, s1.heap.objs.size, s1.heap.objs.size + 1], _, _, H1, rfl, I2, turn_zipM S (Nat.ne_of_lt la) (Nat.ne_of_lt (Nat.lt_succ_of_lt lb)), ⟨hz, hTI, ⟨_, _, hTO⟩, g1 _ _ e1, g2 _ _ e2⟩, fresh5, q⟩
def ItzM3 (K : PySem.W.Frag) (a b d : Addr) (k l m : Bool) : It :=
  ⟨fun i H => ∃ (xs ys zs : List V) (x y z : V), SqK K H a xs k ∧ SqK K H b ys l ∧ SqK K H d zs m ∧ xs[i]? = some x ∧ ys[i]? = some y ∧ zs[i]? = some z,
    fun i H v H' => ∃ T x y z ob, ob.dict = none ∧ v = .ref T ∧ H T = none ∧ H' = upd H T (.frz ob (.tup [x, y, z])) ∧ (∀ xs, SqK K H a xs k → xs[i]? = some x) ∧ (∀ ys, SqK K H b ys l → ys[i]? = some y) ∧ ∀ zs, SqK K H d zs m → zs[i]? = some z,
    fun i H => ∃ xs ys zs : List V, SqK K H a xs k ∧ SqK K H b ys l ∧ SqK K H d zs m ∧ (xs.length = i ∨ ys.length = i ∨ zs.length = i) ∧ i ≤ xs.length ∧ i ≤ ys.length ∧ i ≤ zs.length⟩
theorem turn_zipM3 {P : Program} {w : World} {K : PySem.W.Frag} {elts : List Expr} {kk : Nat} {tpos : Pos} {a b d z TI TO i1 i2 i3 : Addr} {k l m : Bool} (D : ZipSep3 z TI TO i1 i2 i3 [i1, a] [i2, b] [i3, d]) (na : a ≠ i1) (nb : b ≠ i2) (nd : d ≠ i3) :
    Turn P w K (.Tuple elts kk tpos) (ItzM3 K a b d k l m) [z, TI, TO, i1, i2, i3] z (fun i h => IsZip h z TI TO .none ∧ IsTupOf3 h TI (.ref i1) (.ref i2) (.ref i3) ∧ (∃ x y v, IsTupOf3 h TO x y v) ∧ ItK h i1 a i k ∧ ItK h i2 b i l ∧ ItK h i3 d i m) where
  mem := by simp
  obj := fun i h st c hc => by
    obtain ⟨hz, hTI, ⟨x, y, v, hTO⟩, h1, h2, h3⟩ := st
    have e' : c = z ∨ c = TI ∨ c = TO ∨ c = i1 ∨ c = i2 ∨ c = i3 := by simpa using hc
    rcases e' with q | q | q | q | q | q
    · rw [q]; exact ⟨_, hz, fun v q => nomatch q⟩
    · rw [q]; exact ⟨_, hTI, fun v q => nomatch q⟩
    · rw [q]; exact ⟨_, hTO, fun v q => nomatch q⟩
    · rw [q]; exact h1.obj
    · rw [q]; exact h2.obj
    · rw [q]; exact h3.obj
  keep := fun i h h' st q => by
    obtain ⟨hz, hTI, ⟨x, y, v, hTO⟩, h1, h2, h3⟩ := st
    exact ⟨q z (by simp) _ hz, q TI (by simp) _ hTI, ⟨x, y, v, q TO (by simp) _ hTO⟩, h1.at fun o e => q i1 (by simp) o e, h2.at fun o e => q i2 (by simp) o e, h3.at fun o e => q i3 (by simp) o e⟩
  item := by
    intro X hP hw hK hc i pins s σ H E I hf st hg
    subst hP hw hK
    obtain ⟨hz, hTI, ⟨x0, y0, v0, hTO⟩, h1, h2, h3⟩ := st
    obtain ⟨xs, ys, zs, x, y, w, hqx, hqy, hqz, hx, hy, hw⟩ := hg
    obtain ⟨its, rv, p, _⟩ := hqx.openK I
    obtain ⟨its2, rv2, p2, _⟩ := hqy.openK I
    obtain ⟨its3, rv3, p3, _⟩ := hqz.openK I
    obtain ⟨u, hu, ru⟩ := rv.get hx
    obtain ⟨u2, hu2, ru2⟩ := rv2.get hy
    obtain ⟨u3, hu3, ru3⟩ := rv3.get hw
    have hzl : z < s.heap.objs.size := Heap.lt_size hz
    have D1 := drawsK (prog := X.prog) (w := X.w) (A := X.A.in1) (k := k) (I.ok.hd hc) na its.toArray
    have D2 := drawsK (prog := X.prog) (w := X.w) (A := X.A.in1) (k := l) (I.ok.hd hc) nb its2.toArray
    have D3 := drawsK (prog := X.prog) (w := X.w) (A := X.A.in1) (k := m) (I.ok.hd hc) nd its3.toArray
    refine wpAny_pyNext_zipD3_item D D1 D2 D3 hz hTI hTO ⟨h1, p⟩ ⟨h2, p2⟩ ⟨h3, p3⟩ (by have := (List.getElem?_eq_some_iff.mp hu).1; simpa using this) (by have := (List.getElem?_eq_some_iff.mp hu2).1; simpa using this) (by have := (List.getElem?_eq_some_iff.mp hu3).1; simpa using this) fun x1 x2 x3 h' tk g1 g2 g3 z' TO' d1 d2 d3 hT hsz hk => ?_
    obtain rfl : u = x1 := by have e : its[i]? = some x1 := by simpa using g1
                              rw [hu] at e; exact Option.some.inj e
    obtain rfl : u2 = x2 := by have e : its2[i]? = some x2 := by simpa using g2
                               rw [hu2] at e; exact Option.some.inj e
    obtain rfl : u3 = x3 := by have e : its3[i]? = some x3 := by simpa using g3
                               rw [hu3] at e; exact Option.some.inj e
    refine ⟨_, rfl, wpAny_letOwnedTupleGo_zip (s := { s with heap := h', toks := tk }) z' fun h'' z'' sb => ?_⟩
    have hT2 : h''.get? s.heap.objs.size = some { cls := .type "tuple", data := .seq #[u, u2, u3] } := (sb.2 _ (Nat.ne_of_gt hzl)).trans hT
    have new : ObjOk X.prog X.w (upd H s.heap.objs.size (.frz (tupO [u, u2, u3]) (.tup [x, y, w]))) h'' s.heap.objs.size (.frz (tupO [u, u2, u3]) (.tup [x, y, w])) :=
      ⟨hT2, by show 3 ≤ sizeLine; decide, [u, u2, u3], .cons ru (.cons ru2 (.cons ru3 .nil)), ⟨_, hT2, rfl, _, rfl⟩⟩
    have I1 : Inv X pins σ (upd H s.heap.objs.size (.frz (tupO [u, u2, u3]) (.tup [x, y, w]))) { s with heap := h'', toks := tk } :=
      I.turnedNew (t' := tk) (ch := [z, TI, TO, i1, i2, i3]) (fun c o hb q => (sb.2 c (fun q' => hb (by simp [q']))).trans (hk c o (fun q' => hb (by simp [q'])) (fun q' => hb (by simp [q'])) (fun q' => hb (by simp [q'])) (fun q' => hb (by simp [q'])) (fun q' => hb (by simp [q'])) q)) hf (Nat.le_refl _) new
    refine ⟨.ref s.heap.objs.size, _, I1, rfl, ⟨_, x, y, w, _, rfl, rfl, I.hok.fresh (Nat.le_refl _), rfl, fun l hl => by rw [hl.inj I hqx]; exact hx, fun l hl => by rw [hl.inj I hqy]; exact hy, fun l hl => by rw [hl.inj I hqz]; exact hw⟩, ⟨z'', ?_, ⟨u, u2, u3, ?_⟩, ?_, ?_, ?_⟩, fun c hcm => ?_⟩
    · exact (sb.2 _ D.TIz).trans (hk _ _ D.TIz D.TITO D.TIi1 D.TIi2 D.TIi3 hTI)
    · exact (sb.2 _ D.TOz).trans TO'
    · exact d1.1.at fun o q => (sb.2 _ (Ne.symm D.zi1)).trans q
    · exact d2.1.at fun o q => (sb.2 _ (Ne.symm D.zi2)).trans q
    · exact d3.1.at fun o q => (sb.2 _ (Ne.symm D.zi3)).trans q
    · have hlt : c < s.heap.objs.size := by
        have e' : c = z ∨ c = TI ∨ c = TO ∨ c = i1 ∨ c = i2 ∨ c = i3 := by simpa using hcm
        rcases e' with q | q | q | q | q | q
        · rw [q]; exact hzl
        · rw [q]; exact Heap.lt_size hTI
        · rw [q]; exact Heap.lt_size hTO
        · rw [q]; obtain ⟨_, e1, _⟩ := h1.obj; exact Heap.lt_size e1
        · rw [q]; obtain ⟨_, e2, _⟩ := h2.obj; exact Heap.lt_size e2
        · rw [q]; obtain ⟨_, e3, _⟩ := h3.obj; exact Heap.lt_size e3
      rw [upd_ne (Nat.ne_of_lt hlt)]
      exact (hf c hcm).1
  done := by
    intro X hP hw hK hc i pins s σ H E I hf st hg
    subst hP hw hK
    obtain ⟨hz, hTI, ⟨x0, y0, v0, hTO⟩, h1, h2, h3⟩ := st
    obtain ⟨xs, ys, zs, hqx, hqy, hqz, hend, hle1, hle2, hle3⟩ := hg
    obtain ⟨its, rv, p, _⟩ := hqx.openK I
    obtain ⟨its2, rv2, p2, _⟩ := hqy.openK I
    obtain ⟨its3, rv3, p3, _⟩ := hqz.openK I
    have l1 := rv.length
    have l2 := rv2.length
    have l3 := rv3.length
    have D1 := drawsK (prog := X.prog) (w := X.w) (A := X.A.in1) (k := k) (I.ok.hd hc) na its.toArray
    have D2 := drawsK (prog := X.prog) (w := X.w) (A := X.A.in1) (k := l) (I.ok.hd hc) nb its2.toArray
    have D3 := drawsK (prog := X.prog) (w := X.w) (A := X.A.in1) (k := m) (I.ok.hd hc) nd its3.toArray
    refine wpAny_pyNext_zipD3_end D D1 D2 D3 hz hTI hTO ⟨h1, p⟩ ⟨h2, p2⟩ ⟨h3, p3⟩ (by simp; omega) (by simp; omega) (by simp; omega) (by simp; omega) fun h' tk hk => ⟨rfl, ?_⟩
    exact I.turnedL (t' := tk) (ch := [z, TI, TO, i1, i2, i3]) (fun c o hb q =>
      hk c o (fun q' => hb (by simp [q'])) (fun q' => hb (by simp [q'])) (fun q' => hb (by simp [q'])) (fun q' => hb (by simp [q'])) (fun q' => hb (by simp [q'])) q) hf
  self := fun A i s Q E st h => wpAny_pyIter_zip st.1 h
def iZipM3 (K : PySem.W.Frag) (ta : TA) : TI := fun σ H R => ta σ H fun vs H1 => ∃ a b d xs ys zs k l m, vs = [.ref a, .ref b, .ref d] ∧ SqK K H1 a xs k ∧ SqK K H1 b ys l ∧ SqK K H1 d zs m ∧ R (ItzM3 K a b d k l m) H1
theorem pi_zipM3 {X : Cx} {e e2 e3 : Expr} {ta : TA} {p pos tpos : Pos} {elts : List Expr} {kk : Nat} (hg : Gl X "zip") (hm : X.mg "zip" = none) (ha : PA X [e, e2, e3] ta)
    (hs : starEach [e, e2, e3] X.env = (false, eval e X.env) :: starEach [e2, e3] X.env := by rfl) (hpl : (backTo pos (starEach [e2, e3] X.env)).any (·.1) = false := by rfl) :
    PI X (.Tuple elts kk tpos) (.Call (.Name "zip" p) [e, e2, e3] [] pos) (iZipM3 X.K ta) := by
  refine ⟨fun pins s σ H R I h => ?_⟩
  refine Call_ (ld_blt I hg hm PyProof.Rows.boot_zip (PyProof.Rows.callWith_type1 (thn (ha.run pos pins s σ H _ I h) fun us s1 ⟨vs, H1, I1, r1, q1⟩ => ?_) hs hpl))
  obtain ⟨a, b, d, xs, ys, zs, k, l, m, ex, hqx, hqy, hqz, q⟩ := q1
  subst ex
  obtain ⟨_, _, _, rfl, r, r', r''⟩ : ∃ u1 u2 u3, us = [u1, u2, u3] ∧ RelV (.ref a) u1 ∧ RelV (.ref b) u2 ∧ RelV (.ref d) u3 := by
    cases r1 with
    | cons r rr =>
      cases rr with
      | cons r' rr =>
        cases rr with
        | cons r'' rr => cases rr; exact ⟨_, _, _, rfl, r, r', r''⟩
  cases r
  cases r'
  cases r''
  have fresh6 : ∀ c, c ∈ [s1.heap.objs.size + 5, s1.heap.objs.size + 3, s1.heap.objs.size + 4, s1.heap.objs.size, s1.heap.objs.size + 1, s1.heap.objs.size + 2] → FpOk X pins H1 c := fun c hcm => by
    have e' : c = s1.heap.objs.size + 5 ∨ c = s1.heap.objs.size + 3 ∨ c = s1.heap.objs.size + 4 ∨ c = s1.heap.objs.size ∨ c = s1.heap.objs.size + 1 ∨ c = s1.heap.objs.size + 2 := by simpa using hcm
    have hle : s1.heap.objs.size ≤ c := by
      rcases e' with z | z | z | z | z | z
      · rw [z]; exact Nat.le_add_right _ _
      · rw [z]; exact Nat.le_add_right _ _
      · rw [z]; exact Nat.le_add_right _ _
      · rw [z]; exact Nat.le_refl _
      · rw [z]; exact Nat.le_add_right _ _
      · rw [z]; exact Nat.le_add_right _ _
    exact I1.fpOk hle (I1.hok.fresh hle)
  obtain ⟨its, rv, p1, _, oa, ha⟩ := hqx.openK I1
  obtain ⟨its2, rv2, p2, _, ob, hb⟩ := hqy.openK I1
  obtain ⟨its3, rv3, p3, _, od, hd⟩ := hqz.openK I1
  have la := Heap.lt_size ha
  have lb := Heap.lt_size hb
  have ld := Heap.lt_size hd
  obtain ⟨o1, B1, g1⟩ := beginsK a its.toArray k
  obtain ⟨o2, B2, g2⟩ := beginsK b its2.toArray l
  obtain ⟨o3, B3, g3⟩ := beginsK d its3.toArray m
  refine zip_begins3 B1 B2 B3 p1 p2 p3 fun h' hz hTI hTO e1 e2 e3 hsz hk => wpAny_pyIter_zip hz ?_
  have I2 : Inv X pins σ H1 { s1 with heap := h' } := I1.kept (t' := s1.toks) hk
  have S : ZipSep3 (s1.heap.objs.size + 5) (s1.heap.objs.size + 3) (s1.heap.objs.size + 4) s1.heap.objs.size (s1.heap.objs.size + 1) (s1.heap.objs.size + 2) [s1.heap.objs.size, a] [s1.heap.objs.size + 1, b] [s1.heap.objs.size + 2, d] :=
    zip_sep3 (fun c hc => by rw [List.mem_singleton.mp hc]; exact la) (fun c hc => by rw [List.mem_singleton.mp hc]; exact lb) (fun c hc => by rw [List.mem_singleton.mp hc]; exact ld)
  exact ⟨s1.heap.objs.size + 5, [s1.heap.objs.size + 5, s1.heap.objs.size + 3, s1.heap.objs.size + 4, s1.heap.objs.size, s1.heap.objs.size + 1, s1.heap.objs.size + 2], _, _, H1, rfl, I2, turn_zipM3 S (Nat.ne_of_lt la) (Nat.ne_of_lt (Nat.lt_succ_of_lt lb)) (Nat.ne_of_lt (Nat.lt_of_lt_of_le ld (Nat.le_add_right _ _))), ⟨hz, hTI, ⟨_, _, _, hTO⟩, g1 _ _ e1, g2 _ _ e2, g3 _ _ e3⟩, fresh6, q⟩
set_option maxHeartbeats 4000000 in
theorem meets_enum1 {v : Value} {o : Obj} {C : Heap → Prop} (B : Begins v o C) : Meets (Builtin.«enumerate.__new__» ⟨[.type "enumerate", v], []⟩) (fun _ R s => C s.heap ∧
      R (.ok (.ret (.ref (s.heap.push o).objs.size))) { s with heap := (s.heap.push o).push { cls := .type "enumerate", data := .fields #[.none, .bool false, .ref s.heap.objs.size, rawInt 0, .none, .none] } }) :=
  .of_wp fun prog w A R s h => by
    obtain ⟨hp, g, d, tk, os⟩ := s; obtain ⟨h1, h⟩ := h
    have hsub := sub_enumerate
    have q1 : ∀ {A' : Around} {E : Value → Shared → Prop} {Q : Value → Shared → Prop}, Q (.ref hp.objs.size) ⟨hp.push o, g, d, tk, os⟩ → wpAny (model prog w) A' (pyIter v) Q E ⟨hp, g, d, tk, os⟩ :=
      fun q => B.iter prog w _ _ ⟨hp, g, d, tk, os⟩ _ h1 q
    wp_walk using q1
    refine wpAny_stack_any fun st => wpAny_pure ?_
    split
    · rename_i c _ _ _ _ _
      cases (c == Value.type "enumerate")
      · wp_walk using q1
        exact ⟨_, rfl, h⟩
      · wp_walk using q1
        exact ⟨_, rfl, h⟩
    · wp_walk using q1
      exact ⟨_, rfl, h⟩
theorem enum_begins1 {prog : Program} {w : World} {A : Around} {E : Value → Shared → Prop} {s : Shared} {v : Value} {o : Obj} {C : Heap → Prop} {Q : Value → Shared → Prop} (B : Begins v o C) (h1 : C s.heap)
    (h : ∀ h', IsEnum h' (s.heap.objs.size + 1) s.heap.objs.size 0 .none → h'.get? s.heap.objs.size = some o →
      (∀ b o, s.heap.get? b = some o → h'.get? b = some o) → Q (.ref (s.heap.objs.size + 1)) { s with heap := h' }) :
    wpAny (model prog w) A (call (.type "enumerate") [v]) Q E s := by
  refine callType_new F.called_enumerate (by decide) (F.typeCall_enumerate_1 _) (F.newCall_enumerate_1 _) (fun obj => F.args_object_init_2 obj _) F.entry_enumerate_new
    (meets_enum1 B) ⟨h1, ?_⟩
  have hz : (s.heap.push o).objs.size = s.heap.objs.size + 1 := Heap.size_push ..
  show _ ∧ _
  rw [hz]
  have he : IsEnum ((s.heap.push o).push { cls := .type "enumerate", data := .fields #[.none, .bool false, .ref s.heap.objs.size, rawInt 0, .none, .none] }) (s.heap.objs.size + 1) s.heap.objs.size 0 .none := by
    have := Heap.get?_push_size (s.heap.push o) (o := { cls := .type "enumerate", data := .fields #[.none, .bool false, .ref s.heap.objs.size, rawInt 0, .none, .none] }) rfl
    rw [hz] at this; exact this
  exact ⟨⟨_, he, rfl⟩, h _ he (Heap.get?_push_of_some _ (Heap.get?_push_size _ B.free)) fun b o x => Heap.get?_push_of_some _ (Heap.get?_push_of_some _ x)⟩
def IteM (K : PySem.W.Frag) (a : Addr) (k : Bool) : It :=
  ⟨fun i H => ∃ (xs : List V) (x : V), SqK K H a xs k ∧ xs[i]? = some x,
    fun i H v H' => ∃ T x ob, ob.dict = none ∧ v = .ref T ∧ H T = none ∧ H' = upd H T (.frz ob (.tup [.int (i : Nat), x])) ∧ ∀ xs, SqK K H a xs k → xs[i]? = some x,
    fun i H => ∃ xs : List V, SqK K H a xs k ∧ xs.length = i⟩
theorem turn_enumM {P : Program} {w : World} {K : PySem.W.Frag} {elts : List Expr} {kk : Nat} {tpos : Pos} {a e it : Addr} {k : Bool} (hne : e ≠ it) (na : a ≠ it) (ne : e ≠ a) :
    Turn P w K (.Tuple elts kk tpos) (IteM K a k) [e, it] e (fun i h => (∃ old, IsEnum h e it ((i : Nat) : Int) old) ∧ ItK h it a i k) where
  mem := by simp
  obj := fun i h st b hb => by
    obtain ⟨⟨old, he⟩, hit⟩ := st
    have e' : b = e ∨ b = it := by simpa using hb
    rcases e' with z | z
    · rw [z]; exact ⟨_, he, fun v q => nomatch q⟩
    · rw [z]; exact hit.obj
  keep := fun i h h' st q => by
    obtain ⟨⟨old, he⟩, hit⟩ := st
    exact ⟨⟨old, q e (by simp) _ he⟩, hit.at fun o z => q it (by simp) o z⟩
  item := by
    intro X hP hw hK hc i pins s σ H E I hf st hg
    subst hP hw hK
    obtain ⟨⟨old, he⟩, hit⟩ := st
    obtain ⟨xs, x, hq, hx⟩ := hg
    obtain ⟨its, rv, p, _⟩ := hq.openK I
    obtain ⟨u, hu, ru⟩ := rv.get hx
    have hel : e < s.heap.objs.size := Heap.lt_size he
    have hil : it < s.heap.objs.size := by obtain ⟨_, q, _⟩ := hit.obj; exact Heap.lt_size q
    have D := drawsK (prog := X.prog) (w := X.w) (A := X.A.in1) (k := k) (I.ok.hd hc) na its.toArray
    refine wpAny_pyNext_enum_itemD D he ⟨hit, p⟩ (by have := (List.getElem?_eq_some_iff.mp hu).1; simpa using this) hne (by simp [hne, ne]) fun x1 h' tk g1 ho d1 hT hsz hk => ?_
    obtain rfl : u = x1 := by have q : its[i]? = some x1 := by simpa using g1
                              rw [hu] at q; exact Option.some.inj q
    refine ⟨_, rfl, wpAny_letOwnedTupleGo_enum (s := { s with heap := h', toks := tk + 1 }) ho fun h'' he' sb => ?_⟩
    have hT2 : h''.get? s.heap.objs.size = some { cls := .type "tuple", data := .seq #[.int i tk, u] } := (sb.2 _ (Nat.ne_of_gt hel)).trans hT
    have new : ObjOk X.prog X.w (upd H s.heap.objs.size (.frz (tupO [.int i tk, u]) (.tup [.int (i : Nat), x]))) h'' s.heap.objs.size (.frz (tupO [.int i tk, u]) (.tup [.int (i : Nat), x])) :=
      ⟨hT2, by show 2 ≤ sizeLine; decide, [.int i tk, u], .cons ⟨_, rfl⟩ (.cons ru .nil), ⟨_, hT2, rfl, _, rfl⟩⟩
    have I1 : Inv X pins σ (upd H s.heap.objs.size (.frz (tupO [.int i tk, u]) (.tup [.int (i : Nat), x]))) { s with heap := h'', toks := tk + 1 } :=
      I.turnedNew (t' := tk + 1) (ch := [e, it]) (fun b ob hb q => (sb.2 b (fun z => hb (by simp [z]))).trans (hk b ob (fun z => hb (by simp [z])) (fun z => hb (by simp [z])) q)) hf (Nat.le_refl _) new
    refine ⟨.ref s.heap.objs.size, _, I1, rfl, ⟨_, x, _, rfl, rfl, I.hok.fresh (Nat.le_refl _), rfl, fun l hl => by rw [hl.inj I hq]; exact hx⟩, ⟨⟨u, ?_⟩, d1.1.at fun o q => (sb.2 it (Ne.symm hne)).trans q⟩, fun b hb => ?_⟩
    · have e1 : ((i + 1 : Nat) : Int) = (i : Int) + 1 := by omega
      rw [e1]; exact he'
    · have hb' : b < s.heap.objs.size := by
        have e' : b = e ∨ b = it := by simpa using hb
        rcases e' with z | z
        · rw [z]; exact hel
        · rw [z]; exact hil
      rw [upd_ne (Nat.ne_of_lt hb')]
      exact (hf b hb).1
  done := by
    intro X hP hw hK hc i pins s σ H E I hf st hg
    subst hP hw hK
    obtain ⟨⟨old, he⟩, hit⟩ := st
    obtain ⟨xs, hq, hx⟩ := hg
    obtain ⟨its, rv, p, _⟩ := hq.openK I
    obtain ⟨f0, f1, f2, f3, f4, f5⟩ := hf it (by simp)
    have hl := rv.length
    have D := drawsK (prog := X.prog) (w := X.w) (A := X.A.in1) (k := k) (I.ok.hd hc) na its.toArray
    have ei : its.toArray.size = i := by simp; omega
    subst ei
    exact wpAny_pyNext_enum_endD D he ⟨hit, p⟩ fun h' eb => ⟨rfl, I.turned (t' := s.toks) (fun b o hb q => eb b o hb q) f0 f1 f3 f4 f5⟩
  self := fun A i s Q E st h => let ⟨⟨_, he⟩, _⟩ := st; wpAny_pyIter_enum he h
def iEnumM (K : PySem.W.Frag) (ta : TA) : TI := fun σ H R => ta σ H fun vs H1 => ∃ a xs k, vs = [.ref a] ∧ SqK K H1 a xs k ∧ R (IteM K a k) H1
theorem pi_enumM {X : Cx} {e : Expr} {ta : TA} {p pos tpos : Pos} {elts : List Expr} {kk : Nat} (hg : Gl X "enumerate") (hm : X.mg "enumerate" = none) (ha : PA X [e] ta) (hs : starEach [e] X.env = [(false, eval e X.env)] := by rfl) :
    PI X (.Tuple elts kk tpos) (.Call (.Name "enumerate" p) [e] [] pos) (iEnumM X.K ta) := by
  refine ⟨fun pins s σ H R I h => ?_⟩
  refine Call_ (ld_blt I hg hm boot_enumerate (PyProof.Rows.callWith_type1 (thn (ha.run pos pins s σ H _ I h) fun us s1 ⟨vs, H1, I1, r1, q1⟩ => ?_) hs rfl))
  obtain ⟨a, xs, k, ex, hq, q⟩ := q1
  subst ex
  cases r1 with
  | cons r rr =>
    cases rr
    cases r
    obtain ⟨its, rv, p', _, oa, hoa⟩ := hq.openK I1
    have la := Heap.lt_size hoa
    obtain ⟨o1, B1, g1⟩ := beginsK a its.toArray k
    refine enum_begins1 B1 p' fun h' he hit hk => wpAny_pyIter_enum he ?_
    have I2 : Inv X pins σ H1 { s1 with heap := h' } := I1.kept (t' := s1.toks) hk
    refine ⟨s1.heap.objs.size + 1, [s1.heap.objs.size + 1, s1.heap.objs.size], _, _, H1, rfl, I2, turn_enumM (a := a) (e := s1.heap.objs.size + 1) (it := s1.heap.objs.size) (Nat.succ_ne_self _) (Nat.ne_of_lt la) (Nat.ne_of_gt (Nat.lt_succ_of_lt la)), ⟨⟨.none, he⟩, g1 _ _ hit⟩, fun b hb => ?_, q⟩
    have e' : b = s1.heap.objs.size + 1 ∨ b = s1.heap.objs.size := by simpa using hb
    have hle : s1.heap.objs.size ≤ b := by
      rcases e' with z | z
      · rw [z]; exact Nat.le_add_right _ _
      · rw [z]; exact Nat.le_refl _
    exact I1.fpOk hle (I1.hok.fresh hle)
section
variable {X : Cx}
theorem pe_tupF {es : List Expr} {t : TA} {x1 : Nat} {pos : Pos} (h : PA X es t) : PE X (.Tuple es x1 pos) (fun σ H Q => t σ H fun xs H1 => xs.length ≤ sizeLine ∧ NewT H1 xs Q) := by
  refine ⟨fun pins s σ H Q I hq => ?_⟩
  refine wpAny_Tuple_spliced (thn (h.run pos pins s σ H _ I hq) fun us s1 ⟨xs, H1, I1, r, z, q⟩ => ⟨by rw [← r.length]; exact z, ?_⟩)
  exact Inv.newT I1 z r q
theorem op_catF : OpR X (binaryOp .Add) (fun x y H Q => ∃ a b xs ys, x = .ref a ∧ y = .ref b ∧ SqT X.K H a xs ∧ SqT X.K H b ys ∧ xs.length + ys.length ≤ sizeLine ∧
    (xs = [] → Q (.ref b) H) ∧ (xs ≠ [] → ys = [] → Q (.ref a) H) ∧ (xs ≠ [] → ys ≠ [] → NewT H (xs ++ ys) Q)) := by
  intro pins s σ H x y v u Q I rx ry h
  obtain ⟨a, b, xs, ys, rfl, rfl, ha, hb, hz, q0, q1, q2⟩ := h
  cases rx
  cases ry
  obtain ⟨its, r1, p1, _⟩ := I.tuple ha
  obtain ⟨its2, r2, p2, _⟩ := I.tuple hb
  by_cases hx : xs = []
  · subst hx
    cases r1
    exact cat_tup0 p1 p2 ⟨.ref b, H, I, rfl, q0 rfl⟩
  · refine HT.cat_tup p1 p2 (fun z => hx (r1.nil_iff.mp z)) (fun z => ⟨.ref a, H, I, rfl, q1 hx (r2.nil_iff.mp z)⟩) (fun z => ?_) (by rw [← r1.length, ← r2.length]; exact hz)
    exact Inv.newT I (by rw [List.length_append]; exact hz) (r1.append r2) (q2 hx fun w => z (r2.nil_iff.mpr w))
theorem sl_tupF : SlR X (fun x lo hi H Q => ∃ a xs, x = .ref a ∧ SqT X.K H a xs ∧
    (HT.sIx xs.length 0 lo = 0 ∧ HT.sIx xs.length xs.length hi = xs.length → Q (.ref a) H) ∧ (¬ (HT.sIx xs.length 0 lo = 0 ∧ HT.sIx xs.length xs.length hi = xs.length) → NewT H (cutV xs lo hi) Q)) := by
  intro pins s σ H x v vl vu lo hi sl Q I rx hs pl pu h
  obtain ⟨a, xs, rfl, hx, q1, q2⟩ := h
  cases rx
  obtain ⟨its, r, ht, hz⟩ := I.tuple hx
  have hlen : its.toArray.size = xs.length := by rw [List.size_toArray]; exact r.length.symm
  refine ⟨"tuple", _, PyProof.Rows.slot_tuple_getitem.lookup, ht.typeIs, ?_⟩
  by_cases hw : HT.sIx xs.length 0 lo = 0 ∧ HT.sIx xs.length xs.length hi = xs.length
  · exact getItem_tuple_whole ht hs pl pu (by rw [hlen]; exact hw) ⟨.ref a, H, I, rfl, q1 hw⟩
  · refine HT.getItem_tuple_cut ht hs pl pu (by rw [hlen]; exact hw) ?_ (by rw [hlen]; exact hz)
    rw [hlen]
    exact Inv.newT I (Nat.le_trans (cutV_length xs lo hi) hz) ((r.drop (HT.sIx xs.length 0 lo)).take (HT.sIx xs.length xs.length hi - HT.sIx xs.length 0 lo)) (q2 hw)
theorem call_tupleF : CallR X (.type "tuple") (fun xs H Q => ∃ p ys, xs = [.ref p] ∧ ((SqL X.K H p ys ∧ NewT H ys Q) ∨ (SqT X.K H p ys ∧ Q (.ref p) H))) := by
  intro pins s σ H xs us Q I r h
  obtain ⟨p, ys, rfl, h⟩ := h
  obtain ⟨u, rfl, rx⟩ := vals1 r
  cases rx
  rcases h with ⟨hq, q⟩ | ⟨hq, q⟩
  · obtain ⟨its, r', pl, hz⟩ := I.list hq
    have hlen := r'.length
    refine call_tuple_list pl.isList (fun h' kp => ?_) (by simp only [List.size_toArray] <;> omega)
    have I1 : Inv X pins σ H { s with heap := h' } := I.kept (t' := s.toks) kp
    exact Inv.newT I1 hz r' q
  · obtain ⟨its, r', pl, hz⟩ := I.tuple hq
    exact call_tuple_same pl ⟨.ref p, H, I, rfl, q⟩
theorem op_repF : OpR X (binaryOp .Mult) (fun x y H Q => ∃ l k xs, x = .ref l ∧ y = .int k ∧ SqT X.K H l xs ∧ xs ≠ [] ∧ 2 ≤ k ∧ k ≤ 1000 ∧ xs.length ≤ 1000 ∧ NewT H (List.replicate k.toNat xs).flatten Q) := by
  intro pins s σ H x y v u Q I rx ry h
  obtain ⟨l, k, xs, rfl, rfl, hT, hne, h1, h2, hz, q⟩ := h
  cases rx
  obtain ⟨t, rfl⟩ := ry
  obtain ⟨its, r, ⟨⟨cls, dd, data, sl⟩, ho, hc, n, hd⟩, hs⟩ := I.tuple hT
  simp only at hc hd
  subst hc hd
  have hle : its.length = xs.length := r.length.symm
  have hi : its.toArray.isEmpty = false := by
    cases its with
    | nil => exact absurd (List.eq_nil_of_length_eq_zero hle.symm) hne
    | cons a b => rfl
  have hsz0 : its.toArray.size = xs.length := by rw [List.size_toArray, hle]
  have hm : ((its.toArray.size : Nat) : Int) * k ≤ 1000000 := by
    rw [hsz0]
    have a1 : ((xs.length : Nat) : Int) * k ≤ 1000 * k := Int.mul_le_mul_of_nonneg_right (by omega) (by omega)
    omega
  have fl : (List.replicate k.toNat its).flatten.length ≤ sizeLine := by
    rw [PyProof.Rows.lm_len_rep_flat, hle, sizeLine_eq]
    have a1 : k.toNat * xs.length ≤ 1000 * 1000 := Nat.mul_le_mul (by omega) hz
    omega
  have c0 : (decide (k < -(2 ^ 63)) || decide (k ≥ 2 ^ 63)) = false := by
    rw [decide_eq_false (by omega), decide_eq_false (by omega)] <;> rfl
  have c1 : (its.toArray.isEmpty || k == 1) = false := by
    rw [hi, Bool.false_or]
    exact beq_eq_false_iff_ne.mpr (by omega)
  have c2 : (decide (k ≤ 0) || its.toArray.isEmpty) = false := by
    rw [hi, Bool.or_false]
    exact decide_eq_false (by omega)
  have c4 : Builtin.Tuple.tupleTooMany (((its.toArray.size : Nat) : Int) * k) = false := by
    unfold Builtin.Tuple.tupleTooMany
    rw [sizeLine_eq]
    exact decide_eq_false (by omega)
  refine wpAny_binaryOp_repeat_ref (T := "tuple") (U := "int") (by decide) ⟨_, ho, rfl⟩ (fun s' => typeIs_int s' k t) noFill_tuple_mul F.fills_int_mul F.slot_int_rmul repeat_tuple F.slot_int_index.lookup
    (call_meets F.slot_int_rmul (typeIs_int s k t) F.entry_int_rmul (F.args_int_rmul_2 _ _) (int_rmul_tuple k t l its.toArray n dd sl)
      ⟨ho, rfl, ⟨_, ho, rfl⟩, call_meets F.slot_tuple_mul ⟨_, ho, rfl⟩ F.entry_tuple_mul (F.args_tuple_mul_2 _ _) (tuple_mulW l its.toArray n dd sl k t c0 c1 c2 (by omega) c4 (by rw [size_rep, List.size_toArray]; exact fl)) ⟨ho, ?_⟩⟩)
  rw [size_rep]
  exact Inv.newT I (by rw [PyProof.Rows.lm_len_rep_flat, sizeLine_eq]; have a1 : k.toNat * xs.length ≤ 1000 * 1000 := Nat.mul_le_mul (by omega) hz; omega) (r.rep k.toNat) q
end
end Ev
namespace Ev
open PySem PySem.Spec
open PyProof.Rows L2
def evr {α : Type} : List α → List α
  | [] => []
  | [x] => [x]
  | x :: _ :: r => x :: evr r
theorem evr_pick {α : Type} : ∀ l : List α, ((List.range ((l.length + 1) / 2)).map (fun k => 2 * k)).filterMap (fun k => l[k]?) = evr l
  | [] => by simp [evr]
  | [x] => by simp [evr, List.range_succ]
  | x :: y :: r => by
    have e : ((x :: y :: r).length + 1) / 2 = (r.length + 1) / 2 + 1 := by simp only [List.length_cons]; omega
    rw [e, List.range_succ_eq_map, List.map_cons, List.filterMap_cons, List.map_map]
    simp only [Nat.mul_zero, List.getElem?_cons_zero]
    have := evr_pick r
    unfold evr
    rw [← this, List.filterMap_map, List.filterMap_map]
    refine congrArg (fun q => x :: q) (congrArg (fun f => (List.range ((r.length + 1) / 2)).filterMap f) (funext fun k => ?_))
    show (x :: y :: r)[2 * (k + 1)]? = r[2 * k]?
    rw [show 2 * (k + 1) = 2 * k + 1 + 1 by omega, List.getElem?_cons_succ, List.getElem?_cons_succ]
theorem evr_len {α : Type} : ∀ l : List α, (evr l).length ≤ l.length
  | [] => Nat.le_refl _
  | [x] => Nat.le_refl _
  | x :: y :: r => by have := evr_len r; simp only [evr, List.length_cons]; omega
theorem evr_map {α β : Type} (f : α → β) : ∀ l : List α, evr (l.map f) = (evr l).map f
  | [] => rfl
  | [x] => rfl
  | x :: y :: r => by simp only [List.map_cons, evr, evr_map f r]
theorem pick_two (xs : Array Value) (i : Nat) : slicePick xs (some (i : Int)) none (some 2) = (evr (xs.toList.drop i)).toArray := by
  have e : sliceBounds (some (i : Int)) none (some 2) xs.size = ((((min i xs.size : Nat) : Int)), (xs.size : Int), (2 : Int)) := by
    simp only [sliceBounds, Option.getD_some]
    have h1 : ¬ ((i : Int) < 0) := by omega
    simp only [h1, if_false, show (2 : Int) > 0 by decide, if_true]
    congr 1
    omega
  unfold slicePick
  rw [e]
  dsimp only
  congr 1
  unfold sliceRange
  rw [← evr_pick, if_pos (show (2 : Int) > 0 by decide)]
  have hc : (if ((min i xs.size : Nat) : Int) < (xs.size : Int) then ((xs.size : Int) - ((min i xs.size : Nat) : Int) + 2 - 1) / 2 else 0).toNat = ((xs.toList.drop i).length + 1) / 2 := by
    rw [List.length_drop, Array.length_toList]
    by_cases h : i < xs.size
    · rw [if_pos (by omega)]; omega
    · rw [if_neg (by omega)]; omega
  dsimp only
  rw [hc, List.filterMap_map, List.filterMap_map]
  refine congrArg (fun f => (List.range (((xs.toList.drop i).length + 1) / 2)).filterMap f) (funext fun k => ?_)
  show xs[(((min i xs.size : Nat) : Int) + 2 * (k : Int)).toNat]? = (xs.toList.drop i)[2 * k]?
  rw [List.getElem?_drop, Array.getElem?_toList]
  by_cases h : i < xs.size
  · rw [show (((min i xs.size : Nat) : Int) + 2 * (k : Int)).toNat = i + 2 * k by omega]
  · rw [Array.getElem?_eq_none (by omega), Array.getElem?_eq_none (by omega)]
theorem vals_evr : ∀ {xs : List V} {us : List Value}, Vals xs us → Vals (evr xs) (Ev.evr us)
  | _, _, .nil => .nil
  | _, _, .cons h .nil => .cons h .nil
  | _, _, .cons h (.cons _ t) => .cons h (vals_evr t)
section
variable {X : Cx}
def tStp (K : PySem.W.Frag) (i : Nat) (te : TE) : TE := fun σ H Q => te σ H fun x H1 => ∃ a xs, x = .ref a ∧ SqL K H1 a xs ∧ ∀ p, H1 p = none → Q (.ref p) (upd H1 p (.lst (evr (xs.drop i))))
theorem pe_stp {e : Expr} {te : TE} {i k k2 : Nat} {p1 p2 p3 pos : Pos} (he : PE X e te) : PE X (.Subscript e (.Slice (some (.Constant (.int (i : Int)) k p1)) none (some (.Constant (.int 2) k2 p2)) p3) pos) (tStp X.K i te) := by
  refine ⟨fun pins s σ H Q I h => ?_⟩
  refine Subscript_ (thn (he.run pins s σ H _ I h) fun v s1 ⟨x, H1, I1, r1, q1⟩ => ?_)
  obtain ⟨a, xs, ex, hx, q⟩ := q1
  subst ex
  cases r1
  have hlo : PO X (some (.Constant (.int (i : Int)) k p1)) (tPart (tC (.int i))) := po_some pe_int
  have hst : PO X (some (.Constant (.int 2) k2 p2)) (tPart (tC (.int 2))) := po_some pe_int
  refine wpAny_Slice (thn (hlo.run pins s1 σ H1 (fun o H2 => o = some (i : Int) ∧ H2 = H1) I1 ⟨(i : Int), rfl, rfl, rfl⟩) fun vl s2 ⟨l, H2, I2, pl, el, e2⟩ => ?_)
  subst el e2
  refine thn (po_none.run pins s2 σ H2 (fun o H3 => o = none ∧ H3 = H2) I2 ⟨rfl, rfl⟩) fun vu s3 ⟨u, H3, I3, pu, eu, e3⟩ => ?_
  subst eu e3
  refine thn (hst.run pins s3 σ H3 (fun o H4 => o = some 2 ∧ H4 = H3) I3 ⟨(2 : Int), rfl, rfl, rfl⟩) fun vs s4 ⟨o, H4, I4, ps, eo, e4⟩ => ?_
  subst eo e4
  have I5 : Inv X pins σ H4 { s4 with heap := s4.heap.push { cls := .type "slice", data := .fields #[vl, vu, vs] } } := I4.kept (t' := s4.toks) fun b ob q => Heap.get?_push_of_some _ q
  obtain ⟨its, r, ht, hz⟩ := I5.list hx
  have hlen := r.length
  show wpAny (model X.prog X.w) X.A (subscriptTail e (.Slice (some (.Constant (.int (i : Int)) k p1)) none (some (.Constant (.int 2) k2 p2)) p3) (.ref a) (.ref s4.heap.objs.size)) (EP X pins σ Q) X.xe { s4 with heap := s4.heap.push { cls := .type "slice", data := .fields #[vl, vu, vs] } }
  refine tail_any (ops := [.ref a, .ref s4.heap.objs.size]) ht.isList.typeIs (PySem.slot_list_getitem.lookup) ?_ (by with_unfolding_all rfl)
  refine wpAny_getItem_list_slice ht.isList (Heap.IsSliceOf.new _ vl vu vs) pl pu ps (by decide) ?_ (by rw [List.size_toArray]; omega)
  rw [pick_two]
  have hr : Vals (evr (xs.drop i)) (evr (its.drop i)) := vals_evr (r.drop i)
  refine ⟨.ref _, _, I5.laid (t' := s4.toks) (o := .lst (evr (xs.drop i))) (fun b ob q => Heap.get?_push_of_some _ q) (Nat.le_refl _) ?_, rfl, q _ (I5.hok.fresh (Nat.le_refl _))⟩
  refine ⟨?_, _, 0, hr, Heap.get?_push_size _ rfl⟩
  have h1 := evr_len (xs.drop i)
  rw [List.length_drop] at h1
  omega
end
def maxL : List Int → Int
  | [] => 0
  | [x] => x
  | x :: y :: r => max x (maxL (y :: r))
def minL : List Int → Int
  | [] => 0
  | [x] => x
  | x :: y :: r => min x (minL (y :: r))
theorem maxL_ok : ∀ l : List Int, 0 < l.length → maxL l ∈ l ∧ ∀ y ∈ l, y ≤ maxL l
  | [], h => by simp at h
  | [x], _ => ⟨by simp [maxL], fun y hy => by simp at hy; subst hy; exact Int.le_refl _⟩
  | x :: y :: r, _ => by
    obtain ⟨h1, h2⟩ := maxL_ok (y :: r) (by simp)
    have e : maxL (x :: y :: r) = max x (maxL (y :: r)) := rfl
    rw [e]
    refine ⟨?_, fun z hz => ?_⟩
    · rcases Int.le_total x (maxL (y :: r)) with h | h
      · rw [Int.max_eq_right h]; exact List.mem_cons_of_mem _ h1
      · rw [Int.max_eq_left h]; exact List.mem_cons_self
    · rcases List.mem_cons.mp hz with hz | hz
      · rw [hz]; exact Int.le_max_left _ _
      · exact Int.le_trans (h2 z hz) (Int.le_max_right _ _)
theorem minL_ok : ∀ l : List Int, 0 < l.length → minL l ∈ l ∧ ∀ y ∈ l, minL l ≤ y
  | [], h => by simp at h
  | [x], _ => ⟨by simp [minL], fun y hy => by simp at hy; subst hy; exact Int.le_refl _⟩
  | x :: y :: r, _ => by
    obtain ⟨h1, h2⟩ := minL_ok (y :: r) (by simp)
    have e : minL (x :: y :: r) = min x (minL (y :: r)) := rfl
    rw [e]
    refine ⟨?_, fun z hz => ?_⟩
    · rcases Int.le_total x (minL (y :: r)) with h | h
      · rw [Int.min_eq_left h]; exact List.mem_cons_self
      · rw [Int.min_eq_right h]; exact List.mem_cons_of_mem _ h1
    · rcases List.mem_cons.mp hz with hz | hz
      · rw [hz]; exact Int.min_le_left _ _
      · exact Int.le_trans (Int.min_le_right _ _) (h2 z hz)
theorem maxL_uniq {l : List Int} {m : Int} (h1 : m ∈ l) (h2 : ∀ y ∈ l, y ≤ m) : m = maxL l := by
  obtain ⟨h3, h4⟩ := maxL_ok l (List.length_pos_of_mem h1)
  have := h2 _ h3
  have := h4 _ h1
  omega
theorem minL_uniq {l : List Int} {m : Int} (h1 : m ∈ l) (h2 : ∀ y ∈ l, m ≤ y) : m = minL l := by
  obtain ⟨h3, h4⟩ := minL_ok l (List.length_pos_of_mem h1)
  have := h2 _ h3
  have := h4 _ h1
  omega
section
variable {prog : Program} {w : World} {A : Around} {R : Result → Shared → Prop} {I : Addr} {fp wr : List Addr} {n : Nat} {P : Nat → Value → Prop} {St : Nat → Heap → Prop} {kws : List (Str × Value)}
theorem mxK_loop (Wk : Walks prog w A.in1 I fp wr n P St) (bt : Nat → Nat → Bool) (cmp : CmpOf prog w A.in1 .Gt P bt) (L : Addr) (nL : L ∉ fp) :
    ∀ (k j : Nat) (s : Shared) (vb : Value) (c : Nat), n - (j + 1) = k → j + 1 ≤ n → St (j + 1) s.heap → P (argBest bt j) vb → s.heap.get? L = some { cls := .type "list", dict := none, data := .seq #[vb, vb] c, slots := #[] } →
    (∀ v h' tk, P (argBest bt (n - 1)) v → (∀ b o, b ∉ wr → b ≠ L → s.heap.get? b = some o → h'.get? b = some o) → R (.ok (.ret v)) { s with heap := h', toks := tk }) → codeAny (model prog w) A (.builtin "max.loop" ⟨[.ref I, .none, .ref L], kws⟩) R s := by
  have nw : L ∉ wr := fun h => nL (Wk.sub _ h)
  have nm : (toString "max" ++ toString ".loop" : String) = "max.loop" := by decide
  intro k
  induction k with
  | zero =>
    intro j s vb c hk hj st pb hL rr
    have en : j + 1 = n := by omega
    refine codeAny_builtin F.entry_max_loop ?_
    rw [Around.under_plainId F.plain_max_loop _]
    show wpAny _ A.in1 (seqItems? (.ref L) >>= _) _ _ s
    refine wpAny_bind (wpAny_seqItems hL rfl ?_)
    show wpAny _ A.in1 (tryCatch (pyNext (.ref I)) _ >>= _) _ _ s
    refine wpAny_bind (wpAny_tryCatch (Wk.done s _ _ (en ▸ st) fun h' tk kp => ?_))
    have hL' := kp L _ nw hL
    show wpAny _ A.in1 (updateSeq L (fun _ => #[]) >>= _) _ _ _
    refine wpAny_bind ?_
    refine wpAny_updateSeq hL' rfl (wpAny_bind (wpAny_letGo (wpAny_pure ?_)))
    exact rr vb _ tk (by rw [← en]; exact pb) fun b o b1 b2 e => (Heap.get?_update_other _ _ (Ne.symm b2)).trans (kp b o b1 e)
  | succ k ih =>
    intro j s vb c hk hj st pb hL rr
    have lt : j + 1 < n := by omega
    refine codeAny_builtin F.entry_max_loop ?_
    rw [Around.under_plainId F.plain_max_loop _]
    show wpAny _ A.in1 (seqItems? (.ref L) >>= _) _ _ s
    refine wpAny_bind (wpAny_seqItems hL rfl ?_)
    show wpAny _ A.in1 (tryCatch (pyNext (.ref I)) _ >>= _) _ _ s
    refine wpAny_bind (wpAny_tryCatch (Wk.item (j + 1) s _ _ lt st fun v h' tk pv st' kp => ?_))
    have hL' := kp L _ nw hL
    show wpAny _ A.in1 (tryCatch (holding [v, v] (richCompare .Gt v vb >>= _)) _ >>= _) _ _ _
    refine wpAny_bind (wpAny_tryCatch (wpAny_holding (wpAny_bind (cmp (j + 1) (argBest bt j) v vb _ _ _ pv pb ?_))))
    refine wpAny_bind (wpAny_holding (wpAny_truthy_bool ?_))
    refine wpAny_bind (wpAny_letGo (wpAny_pure ?_))
    cases hb : bt (j + 1) (argBest bt j) with
    | true =>
      simp only [if_true]
      refine wpAny_bind ?_
      refine wpAny_updateSeq hL' rfl (wpAny_bind (wpAny_letGo ?_))
      rw [nm]
      refine wpAny_pure ⟨plainId_quiet F.plain_max_loop _, ih (j + 1) _ v _ (by omega) lt (Wk.frame _ _ _ st' fun b hbf o e => ?_) (by simp only [argBest, hb, if_true]; exact pv) (Heap.get?_update_self _ hL' rfl) fun v' h2 tk2 pv' kp2 => ?_⟩
      · exact (Heap.get?_update_other _ _ (fun h : L = b => nL (by rw [h]; exact hbf))).trans e
      · exact rr v' h2 tk2 pv' fun b o b1 b2 e => kp2 b o b1 b2 ((Heap.get?_update_other _ _ (Ne.symm b2)).trans (kp b o b1 e))
    | false =>
      simp only [Bool.false_eq_true, if_false]
      refine wpAny_bind (wpAny_letGo ?_)
      rw [nm]
      refine wpAny_pure ⟨plainId_quiet F.plain_max_loop _, ih (j + 1) _ vb c (by omega) lt st' (by simp only [argBest, hb, Bool.false_eq_true, if_false]; exact pb) hL' fun v' h2 tk2 pv' kp2 => ?_⟩
      exact rr v' h2 tk2 pv' fun b o b1 b2 e => kp2 b o b1 b2 (kp b o b1 e)
theorem mxK_first (Wk : Walks prog w A.in1 I fp wr n P St) (bt : Nat → Nat → Bool) (cmp : CmpOf prog w A.in1 .Gt P bt) (L : Addr) (nL : L ∉ fp) (hn : 0 < n) {s : Shared} {c : Nat} (st : St 0 s.heap) (hL : s.heap.get? L = some { cls := .type "list", dict := none, data := .seq #[] c, slots := #[] })
    (rr : ∀ v h' tk, P (argBest bt (n - 1)) v → (∀ b o, b ∉ wr → b ≠ L → s.heap.get? b = some o → h'.get? b = some o) → R (.ok (.ret v)) { s with heap := h', toks := tk }) : codeAny (model prog w) A (.builtin "max.loop" ⟨[.ref I, .none, .ref L], kws⟩) R s := by
  have nw : L ∉ wr := fun h => nL (Wk.sub _ h)
  have nm : (toString "max" ++ toString ".loop" : String) = "max.loop" := by decide
  refine codeAny_builtin F.entry_max_loop ?_
  rw [Around.under_plainId F.plain_max_loop _]
  show wpAny _ A.in1 (seqItems? (.ref L) >>= _) _ _ s
  refine wpAny_bind (wpAny_seqItems hL rfl ?_)
  show wpAny _ A.in1 (tryCatch (pyNext (.ref I)) _ >>= _) _ _ s
  refine wpAny_bind (wpAny_tryCatch (Wk.item 0 s _ _ hn st fun v h' tk pv st' kp => ?_))
  have hL' := kp L _ nw hL
  show wpAny _ A.in1 (updateSeq L (fun _ => #[v, v]) >>= _) _ _ _
  refine wpAny_bind ?_
  refine wpAny_updateSeq hL' rfl ?_
  rw [nm]
  refine wpAny_pure ⟨plainId_quiet F.plain_max_loop _, mxK_loop Wk bt cmp L nL _ 0 _ v _ rfl hn (Wk.frame _ _ _ st' fun b hbf o e => ?_) pv (Heap.get?_update_self _ hL' rfl) fun v' h2 tk2 pv' kp2 => ?_⟩
  · exact (Heap.get?_update_other _ _ (fun h : L = b => nL (by rw [h]; exact hbf))).trans e
  · exact rr v' h2 tk2 pv' fun b o b1 b2 e => kp2 b o b1 b2 ((Heap.get?_update_other _ _ (Ne.symm b2)).trans (kp b o b1 e))
theorem mxK_none {d : Value} (Wk : Walks prog w A.in1 I fp wr 0 P St) (L : Addr) (nL : L ∉ fp) {s : Shared} {c : Nat} (st : St 0 s.heap) (hL : s.heap.get? L = some { cls := .type "list", dict := none, data := .seq #[] c, slots := #[] })
    (rr : ∀ h' tk, (∀ b o, b ∉ wr → b ≠ L → s.heap.get? b = some o → h'.get? b = some o) → R (.ok (.ret d)) { s with heap := h', toks := tk }) : codeAny (model prog w) A (.builtin "max.loop" ⟨[.ref I, .none, .ref L], [(Str.ofString "default", d)]⟩) R s := by
  have nw : L ∉ wr := fun h => nL (Wk.sub _ h)
  refine codeAny_builtin F.entry_max_loop ?_
  rw [Around.under_plainId F.plain_max_loop _]
  show wpAny _ A.in1 (seqItems? (.ref L) >>= _) _ _ s
  refine wpAny_bind (wpAny_seqItems hL rfl ?_)
  show wpAny _ A.in1 (tryCatch (pyNext (.ref I)) _ >>= _) _ _ s
  refine wpAny_bind (wpAny_tryCatch (Wk.done s _ _ st fun h' tk kp => ?_))
  refine wpAny_bind (wpAny_rule (wpAny_pure ?_))
  exact rr _ _ fun b o b1 b2 e => kp b o b1 e
end
theorem args_mx1 (a d : Value) : argsOk "max" ⟨[a], [(Str.ofString "default", d)]⟩ := by unfold argsOk; kernel_rfl
theorem tree_kw {prog : Program} {w : World} {A : Around} {E : Value → Shared → Prop} {s : Shared} {id : String} {b : Builtin} {args : List Value} {kws : List (Str × Value)} {Q : Value → Shared → Prop} (hk : builtinKind id = none) (hp : plainId id = true) (hb : entryFor table id = some b) (ha : argsOk id ⟨args, kws⟩)
    (hc : wpAny (model prog w) A.in1 (b ⟨args, kws⟩) (fun fin s' => match fin with
      | .done f => (match (Except.ok f : Result) with | .ok (.ret v) => Q v s' | .ok _ => False | .error e => E e s')
      | .again c' => c'.quiet = true ∧ codeAny (model prog w) A c' (fun r s' => match r with | .ok (.ret v) => Q v s' | .ok _ => False | .error e => E e s') s') E s) : wpAny (model prog w) A (call (.builtin id) args kws) Q E s := by
  refine wpAny_call (codeAny_call_builtin hp hb ?_)
  simp only [checkBuiltinCall, hk]
  cases hsig : Manifest.signature? id with
  | none => exact wpAny_pure hc
  | some sig =>
    simp only [argsOk, hsig] at ha
    have h2 : Bind.checkArgs id sig ⟨args, kws⟩ = pure () := ha
    show wpAny _ A.in1 (Bind.checkArgs id sig ⟨args, kws⟩) _ _ s
    rw [h2]; exact wpAny_pure hc
theorem mx_call {prog : Program} {w : World} {A : Around} {E : Value → Shared → Prop} {s : Shared} {l : Addr} {its : List Value} {ns : List Int} {d : Value} {Q : Value → Shared → Prop} (hh : A.handled = none) (hl : s.heap.IsList l its.toArray) (hi : IntsAre its ns)
    (h0 : ns = [] → ∀ h' tk, (∀ b o, s.heap.get? b = some o → h'.get? b = some o) → Q d { s with heap := h', toks := tk })
    (h : 0 < ns.length → ∀ h' tk t', (∀ b o, s.heap.get? b = some o → h'.get? b = some o) → Q (.int (maxL ns) t') { s with heap := h', toks := tk }) : wpAny (model prog w) A (call (.builtin "max") [.ref l] [(Str.ofString "default", d)]) Q E s := by
  have nm : (toString "max" ++ toString ".loop" : String) = "max.loop" := by decide
  obtain ⟨xs, e⟩ := hi.allInts.items
  have hn : numsOf (intItems xs).toList = ns := by rw [← e]; exact hi.numsOf
  rw [nums_intItems] at hn
  rw [e] at hl
  refine tree_kw F.kind_max F.plain_max F.entry_max (args_mx1 _ _) ?_
  show wpAny _ A.in1 (Builtin.Builtins.bindParams "max" ["key", "default"] 0 ⟨[], [(Str.ofString "default", d)]⟩ >>= _) _ _ s
  refine wpAny_bind (wpAny_of_eq (show Builtin.Builtins.bindParams "max" ["key", "default"] 0 ⟨[], [(Str.ofString "default", d)]⟩ = pure [none, some d] from by kernel_rfl) ?_)
  refine wpAny_bind (wpAny_pure ?_)
  refine wpAny_bind (iter_intList hl fun s₂ e2 st hfp hlI => ?_)
  refine wpAny_bind (wpAny_newObj_type ?_)
  subst e2
  rw [nm]
  generalize hs2 : ({ s with heap := s.heap.push { cls := .type "list_iterator", data := .fields #[.ref l, .int 0 0] } } : Shared) = s2 at st hfp
  have nf : s2.heap.objs.size ∉ [s.heap.objs.size, l] := fun hm => Nat.lt_irrefl _ (hfp _ hm)
  have Wk := Walks.list (prog := prog) (w := w) (A := A.in1) hh s.heap.objs.size l hlI (intItems xs)
  have k2 : ∀ b o, s.heap.get? b = some o → (s2.heap.push { cls := .type "list", data := .seq ([] : List Value).toArray }).get? b = some o := fun b o q => by
    refine Heap.get?_push_of_some _ ?_
    rw [← hs2]; exact Heap.get?_push_of_some _ q
  have old : ∀ {h' : Heap}, (∀ b o, b ∉ [s.heap.objs.size] → b ≠ s2.heap.objs.size → (s2.heap.push { cls := .type "list", data := .seq ([] : List Value).toArray }).get? b = some o → h'.get? b = some o) → ∀ b o, s.heap.get? b = some o → h'.get? b = some o := fun kp b o q => by
    have lt := Heap.lt_size q
    refine kp b o (fun z => ?_) (fun z => ?_) (k2 b o q)
    · rw [List.mem_singleton] at z; rw [z] at lt; exact Nat.lt_irrefl _ lt
    · have l2 : s2.heap.objs.size = s.heap.objs.size + 1 := by rw [← hs2]; exact Heap.size_push ..
      rw [z, l2] at lt
      exact Nat.not_succ_le_self _ (Nat.le_of_succ_le lt)
  have st2 := Wk.frame 0 _ (s2.heap.push { cls := .type "list", data := .seq ([] : List Value).toArray }) st fun b _ o q => Heap.get?_push_of_some _ q
  have es : (intItems xs).size = xs.size := by simp [intItems]
  have eq : ∀ (h' : Heap) (tk : Nat), ({ s2 with heap := h', toks := tk } : Shared) = { s with heap := h', toks := tk } := fun h' tk => by rw [← hs2]
  by_cases hz : xs.size = 0
  · have n0 : ns = [] := by
      rw [← hn]
      have : xs = #[] := Array.eq_empty_of_size_eq_zero hz
      rw [this]; rfl
    rw [es, hz] at Wk
    refine wpAny_pure ⟨plainId_quiet F.plain_max_loop _, mxK_none Wk _ nf st2 (Heap.get?_push_size _ rfl) fun h' tk kp => ?_⟩
    show Q d { s2 with heap := h', toks := tk }
    rw [eq]
    exact h0 n0 h' tk (old kp)
  · have np : 0 < ns.length := by rw [← hn, List.length_map, Array.length_toList]; omega
    refine wpAny_pure ⟨plainId_quiet F.plain_max_loop _, mxK_first Wk _ (CmpOf.ints_gt (numAt xs) (fun _ _ => intItems_at)) _ nf (by omega) st2 (Heap.get?_push_size _ rfl) fun v h' tk pv kp => ?_⟩
    rw [es] at pv
    obtain ⟨t, rfl⟩ := intItems_at pv
    obtain ⟨h1, h2⟩ := argBest_gt (numAt xs) (xs.size - 1)
    show Q _ { s2 with heap := h', toks := tk }
    rw [eq]
    have em : numAt xs (argBest (fun i j => decide (numAt xs i > numAt xs j)) (xs.size - 1)) = maxL ns := by
      subst hn
      refine maxL_uniq ?_ fun a ha => ?_
      · rw [numAt_eq]; exact PySem.getD_mem (by rw [List.length_map, Array.length_toList]; omega)
      · obtain ⟨j, hj, rfl⟩ := mem_getD ha
        rw [List.length_map, Array.length_toList] at hj
        rw [← numAt_eq]; exact h2 j (by omega)
    rw [em]
    exact h np h' tk t (old kp)
section
variable {X : Cx}
theorem cr_maxK (hc : X.calm = true) : CallRK X (.builtin "max") [Str.ofString "default"] (fun vs zs H Q => ∃ (a : Addr) (ns : List Int) (z : V), vs = [V.ref a] ∧ zs = [z] ∧ SqL X.K H a (ns.map V.int) ∧ (ns = [] → Q z H) ∧ (0 < ns.length → Q (.int (maxL ns)) H)) := by
  intro pins s σ H vs zs us ws Q I r rz h
  obtain ⟨a, ns, z, rfl, rfl, hs, q0, q1⟩ := h
  obtain rfl := Vals.ref1 r
  obtain ⟨w1, rfl, e1⟩ := vals1 rz
  obtain ⟨its, rv, hl, hz⟩ := I.list hs
  exact mx_call (I.ok.hd hc) hl.isList rv.ints (fun e h' tk kp => ⟨z, H, I.kept kp, e1, q0 e⟩) fun e h' tk t kp => ⟨.int _, H, I.kept kp, ⟨_, rfl⟩, q1 e⟩
end
theorem max_tup {prog : Program} {w : World} {A : Around} {E : Value → Shared → Prop} {s : Shared} {l : Addr} {its : List Value} {ns : List Int} {Q : Value → Shared → Prop} (hh : A.handled = none) (hl : s.heap.IsTuple l its.toArray) (hi : IntsAre its ns) (hne : 0 < ns.length)
    (h : ∀ h' tk t', (∀ b o, s.heap.get? b = some o → h'.get? b = some o) → Q (.int (maxL ns) t') { s with heap := h', toks := tk }) : wpAny (model prog w) A (call (.builtin "max") [.ref l]) Q E s := by
  obtain ⟨xs, e⟩ := hi.allInts.items
  have hn : numsOf (intItems xs).toList = ns := by rw [← e]; exact hi.numsOf
  rw [nums_intItems] at hn
  rw [e] at hl
  have es : (intItems xs).size = xs.size := by simp [intItems]
  have hz : 0 < xs.size := by rw [← hn, List.length_map, Array.length_toList] at hne; exact hne
  have hlt : l < s.heap.objs.size := by obtain ⟨_, q, _⟩ := id hl; exact Heap.lt_size q
  refine call_max_walk (wpAny_pyIter_tuple hl ?_)
  refine ⟨_, [_, l], [_], _, _, _, _, rfl, Walks.tuple (A := A.in1) hh _ l (Nat.ne_of_lt hlt) (intItems xs), ⟨⟨_, Heap.get?_push_size _ rfl, rfl, rfl⟩, hl.push _⟩, fun c hc => ?_, by rw [es]; exact hz, CmpOf.ints_gt (numAt xs) (fun _ _ => intItems_at), fun v h' tk pv kp => ?_⟩
  · show c < (s.heap.push _).objs.size
    rw [Heap.size_push]
    rcases List.mem_cons.mp hc with q | hc
    · rw [q]; exact Nat.lt_succ_self _
    · rw [List.mem_singleton.mp hc]; exact Nat.lt_succ_of_lt hlt
  · rw [es] at pv
    obtain ⟨t, rfl⟩ := intItems_at pv
    obtain ⟨h1, h2⟩ := argBest_gt (numAt xs) (xs.size - 1)
    have em : numAt xs (argBest (fun i j => decide (numAt xs i > numAt xs j)) (xs.size - 1)) = maxL ns := by
      subst hn
      refine maxL_uniq ?_ fun a ha => ?_
      · rw [numAt_eq]; exact PySem.getD_mem (by rw [List.length_map, Array.length_toList]; omega)
      · obtain ⟨j, hj, rfl⟩ := mem_getD ha
        rw [List.length_map, Array.length_toList] at hj
        rw [← numAt_eq]; exact h2 j (by omega)
    rw [em]
    refine h h' tk t fun b o q => kp b o (fun z => ?_) (Heap.get?_push_of_some _ q)
    rw [List.mem_singleton] at z
    have lt := Heap.lt_size q
    rw [z] at lt
    exact Nat.lt_irrefl _ lt
end Ev
namespace Ev
open PySem PySem.Spec
open PyProof.Rows L2
theorem op_catL {X : Cx} : OpR X (binaryOp .Add) (fun x y H Q => ∃ a b xs ys, x = .ref a ∧ y = .ref b ∧ SqL X.K H a xs ∧ SqL X.K H b ys ∧ xs.length + ys.length ≤ sizeLine ∧ ∀ p, H p = none → Q (.ref p) (upd H p (.lst (xs ++ ys)))) := by
  intro pins s σ H x y v u Q I rx ry h
  obtain ⟨a, b, xs, ys, rfl, rfl, ha, hb, hz, q⟩ := h
  cases rx
  cases ry
  obtain ⟨its, r1, ⟨⟨cls, dd, data, sl⟩, n, ho, hc, _, hd⟩, _⟩ := I.list ha
  obtain ⟨its2, r2, ⟨⟨cls2, dd2, data2, sl2⟩, n2, ho2, hc2, _, hd2⟩, _⟩ := I.list hb
  simp only at hc hd hc2 hd2
  subst hc hd hc2 hd2
  have e : its.toArray ++ its2.toArray = (its ++ its2).toArray := by simp
  refine concat_meets ⟨_, ho, rfl⟩ ⟨_, ho2, rfl⟩ noFill_list_add seq_list_add PySem.F.slot_list_add PySem.F.entry_list_add (PySem.F.args_list_add_2 _ _) (list_addW a b its.toArray its2.toArray n n2 dd dd2 sl sl2 (by rw [List.size_toArray, List.size_toArray, ← r1.length, ← r2.length]; exact hz)) ⟨ho, ho2, ?_⟩
  rw [e]
  exact ⟨.ref _, _, I.lnew (t' := s.toks) (r1.append r2) (by rw [List.length_append]; omega), rfl, q _ I.fresh⟩
def ItzT (K : PySem.W.Frag) (t : Str) (b : Addr) (l : Bool) : It :=
  ⟨fun i H => ∃ (c : Nat) (ys : List V) (y : V), SqK K H b ys l ∧ t.cps[i]? = some c ∧ ys[i]? = some y,
    fun i H v H' => ∃ T x y ob, ob.dict = none ∧ v = .ref T ∧ H T = none ∧ H' = upd H T (.frz ob (.tup [x, y])) ∧ (t.cps.toList.map fun c => V.str ⟨#[c]⟩)[i]? = some x ∧ ∀ ys, SqK K H b ys l → ys[i]? = some y,
    fun i H => ∃ ys : List V, SqK K H b ys l ∧ (t.cps.size = i ∨ ys.length = i) ∧ i ≤ t.cps.size ∧ i ≤ ys.length⟩
theorem turn_zipT {P : Program} {w : World} {K : PySem.W.Frag} {elts : List Expr} {kk : Nat} {tpos : Pos} {t : Str} {tk0 : Tok} {b z TI TO i1 i2 : Addr} {l : Bool} (D : ZipSep2 z TI TO i1 i2 [i1] [i2, b]) (nb : b ≠ i2) :
    Turn P w K (.Tuple elts kk tpos) (ItzT K t b l) [z, TI, TO, i1, i2] z (fun i h => IsZip h z TI TO .none ∧ IsTupOf2 h TI (.ref i1) (.ref i2) ∧ (∃ x y, IsTupOf2 h TO x y) ∧ h.IsStrIter i1 (strIterType t) t tk0 i ∧ ItK h i2 b i l) where
  mem := by simp
  obj := fun i h st c hc => by
    obtain ⟨hz, hTI, ⟨x, y, hTO⟩, h1, h2⟩ := st
    have mm : c = z ∨ c = TI ∨ c = TO ∨ c = i1 ∨ c = i2 := by simpa using hc
    rcases mm with rfl | rfl | rfl | rfl | rfl
    · exact ⟨_, hz, fun v q => nomatch q⟩
    · exact ⟨_, hTI, fun v q => nomatch q⟩
    · exact ⟨_, hTO, fun v q => nomatch q⟩
    · obtain ⟨o, e, _, d⟩ := h1
      exact ⟨o, e, fun v q => by rw [d] at q; cases q⟩
    · exact h2.obj
  keep := fun i h h' st q => by
    obtain ⟨hz, hTI, ⟨x, y, hTO⟩, h1, h2⟩ := st
    obtain ⟨o, e, d⟩ := h1
    exact ⟨q z (by simp) _ hz, q TI (by simp) _ hTI, ⟨x, y, q TO (by simp) _ hTO⟩, ⟨o, q i1 (by simp) o e, d⟩, h2.at fun o e => q i2 (by simp) o e⟩
  item := by
    intro X hP hw hK hc i pins s σ H E I hf st hg
    subst hP hw hK
    obtain ⟨hz, hTI, ⟨x0, y0, hTO⟩, h1, h2⟩ := st
    obtain ⟨c, ys, y, hqy, hx, hy⟩ := hg
    obtain ⟨its2, rv2, p2, _⟩ := hqy.openK I
    obtain ⟨u2, hu2, ru2⟩ := rv2.get hy
    have hzl : z < s.heap.objs.size := Heap.lt_size hz
    have D1 := Draws.text (prog := X.prog) (w := X.w) (A := X.A.in1) (I.ok.hd hc) i1 t tk0
    have D2 := drawsK (prog := X.prog) (w := X.w) (A := X.A.in1) (k := l) (I.ok.hd hc) nb its2.toArray
    refine wpAny_pyNext_zipD2_item D D1 D2 hz hTI hTO h1 ⟨h2, p2⟩ (Array.getElem?_eq_some_iff.mp hx).1 (by have := (List.getElem?_eq_some_iff.mp hu2).1; simpa using this) fun v1 v2 h' tk g1 g2 zo' TO' d1 d2 hT hsz hk => ?_
    obtain ⟨c', u, e1, rfl⟩ := g1
    obtain rfl : c = c' := by rw [hx] at e1; exact Option.some.inj e1
    obtain rfl : u2 = v2 := by have e : its2[i]? = some v2 := by simpa using g2
                               rw [hu2] at e; exact Option.some.inj e
    refine ⟨_, rfl, wpAny_letOwnedTupleGo_zip (s := { s with heap := h', toks := tk }) zo' fun h'' zo'' sb => ?_⟩
    have hT2 : h''.get? s.heap.objs.size = some { cls := .type "tuple", data := .seq #[.str ⟨#[c]⟩ u, u2] } := (sb.2 _ (Nat.ne_of_gt hzl)).trans hT
    have new : ObjOk X.prog X.w (upd H s.heap.objs.size (.frz (tupO [.str ⟨#[c]⟩ u, u2]) (.tup [.str ⟨#[c]⟩, y]))) h'' s.heap.objs.size (.frz (tupO [.str ⟨#[c]⟩ u, u2]) (.tup [.str ⟨#[c]⟩, y])) :=
      ⟨hT2, by show 2 ≤ sizeLine; decide, [.str ⟨#[c]⟩ u, u2], .cons ⟨_, rfl⟩ (.cons ru2 .nil), ⟨_, hT2, rfl, _, rfl⟩⟩
    have I1 : Inv X pins σ (upd H s.heap.objs.size (.frz (tupO [.str ⟨#[c]⟩ u, u2]) (.tup [.str ⟨#[c]⟩, y]))) { s with heap := h'', toks := tk } :=
      I.turnedNew (t' := tk) (ch := [z, TI, TO, i1, i2]) (fun m o hb q => by
        have m1 : m ≠ z := fun q' => hb (by simp [q'])
        have m2 : m ≠ TO := fun q' => hb (by simp [q'])
        have m3 : m ≠ i1 := fun q' => hb (by simp [q'])
        have m4 : m ≠ i2 := fun q' => hb (by simp [q'])
        rw [sb.2 m m1]
        exact hk m o m1 m2 m3 m4 q) hf (Nat.le_refl _) new
    refine ⟨.ref s.heap.objs.size, _, I1, rfl, ⟨_, .str ⟨#[c]⟩, y, _, rfl, rfl, I.hok.fresh (Nat.le_refl _), rfl, ?_, fun l hl => by rw [hl.inj I hqy]; exact hy⟩, ⟨zo'', ?_, ⟨.str ⟨#[c]⟩ u, u2, ?_⟩, ?_, ?_⟩, fun m hm => ?_⟩
    · rw [List.getElem?_map, Array.getElem?_toList, hx]; rfl
    · exact (sb.2 _ D.TIz).trans (hk _ _ D.TIz D.TITO D.TIi1 D.TIi2 hTI)
    · exact (sb.2 _ D.TOz).trans TO'
    · obtain ⟨o, e, dd⟩ := d1
      exact ⟨o, (sb.2 _ (Ne.symm D.zi1)).trans e, dd⟩
    · exact d2.1.at fun o q => (sb.2 _ (Ne.symm D.zi2)).trans q
    · have old : m < s.heap.objs.size := by
        have mm : m = z ∨ m = TI ∨ m = TO ∨ m = i1 ∨ m = i2 := by simpa using hm
        rcases mm with rfl | rfl | rfl | rfl | rfl
        · exact hzl
        · exact Heap.lt_size hTI
        · exact Heap.lt_size hTO
        · obtain ⟨_, e, _⟩ := h1; exact Heap.lt_size e
        · obtain ⟨_, e2, _⟩ := h2.obj; exact Heap.lt_size e2
      rw [upd_ne (Nat.ne_of_lt old)]
      exact (hf m hm).1
  done := by
    intro X hP hw hK hc i pins s σ H E I hf st hg
    subst hP hw hK
    obtain ⟨hz, hTI, ⟨x0, y0, hTO⟩, h1, h2⟩ := st
    obtain ⟨ys, hqy, hend, hle1, hle2⟩ := hg
    obtain ⟨its2, rv2, p2, _⟩ := hqy.openK I
    have l2 := rv2.length
    have D1 := Draws.text (prog := X.prog) (w := X.w) (A := X.A.in1) (I.ok.hd hc) i1 t tk0
    have D2 := drawsK (prog := X.prog) (w := X.w) (A := X.A.in1) (k := l) (I.ok.hd hc) nb its2.toArray
    refine wpAny_pyNext_zipD2_end D D1 D2 hz hTI hTO h1 ⟨h2, p2⟩ hle1 (by simp; omega) (by simp; omega) fun h' tk hk => ⟨rfl, ?_⟩
    refine I.turnedL (t' := tk) (ch := [z, TI, TO, i1, i2]) (fun m o hb q => ?_) hf
    have m1 : m ≠ z := fun q' => hb (by simp [q'])
    have m2 : m ≠ TO := fun q' => hb (by simp [q'])
    have m3 : m ≠ i1 := fun q' => hb (by simp [q'])
    have m4 : m ≠ i2 := fun q' => hb (by simp [q'])
    exact hk m o m1 m2 m3 m4 q
  self := fun A i s Q E st h => wpAny_pyIter_zip st.1 h
def iZipT (K : PySem.W.Frag) (ta : TA) : TI := fun σ H R => ta σ H fun vs H1 => ∃ t b ys l, vs = [.str t, .ref b] ∧ SqK K H1 b ys l ∧ R (ItzT K t b l) H1
theorem pi_zipT {X : Cx} {e e2 : Expr} {ta : TA} {p pos tpos : Pos} {elts : List Expr} {kk : Nat} (hg : Gl X "zip") (hm : X.mg "zip" = none) (ha : PA X [e, e2] ta)
    (hs : starEach [e, e2] X.env = (false, eval e X.env) :: starEach [e2] X.env := by rfl) (hpl : (backTo pos (starEach [e2] X.env)).any (·.1) = false := by rfl) :
    PI X (.Tuple elts kk tpos) (.Call (.Name "zip" p) [e, e2] [] pos) (iZipT X.K ta) := by
  refine ⟨fun pins s σ H R I h => ?_⟩
  refine Call_ (ld_blt I hg hm PyProof.Rows.boot_zip (PyProof.Rows.callWith_type1 (thn (ha.run pos pins s σ H _ I h) fun us s1 ⟨vs, H1, I1, r1, q1⟩ => ?_) hs hpl))
  obtain ⟨t, b, ys, l, ex, hqy, q⟩ := q1
  subst ex
  obtain ⟨w1, w2, rfl, r, r'⟩ : ∃ w1 w2, us = [w1, w2] ∧ RelV (.str t) w1 ∧ RelV (.ref b) w2 := by
    cases r1 with
    | cons r rr =>
      cases rr with
      | cons r' rr => cases rr; exact ⟨_, _, rfl, r, r'⟩
  obtain ⟨tk0, rfl⟩ := r
  cases r'
  have fresh5 : ∀ c, c ∈ [s1.heap.objs.size + 4, s1.heap.objs.size + 2, s1.heap.objs.size + 3, s1.heap.objs.size, s1.heap.objs.size + 1] → FpOk X pins H1 c := fun c hcm => by
    have hle : s1.heap.objs.size ≤ c := by
      simp only [List.mem_cons, List.not_mem_nil, or_false] at hcm
      rcases hcm with rfl | rfl | rfl | rfl | rfl
      · exact Nat.le_add_right _ _
      · exact Nat.le_add_right _ _
      · exact Nat.le_add_right _ _
      · exact Nat.le_refl _
      · exact Nat.le_add_right _ _
    exact I1.fpOk hle (I1.hok.fresh hle)
  obtain ⟨its2, rv2, p2, _, ob, hb⟩ := hqy.openK I1
  have lb := Heap.lt_size hb
  have B1 := begins_text t tk0
  obtain ⟨o2, B2, g2⟩ := beginsK b its2.toArray l
  refine zip_begins2 B1 B2 trivial p2 fun h' hz hTI hTO e1 e2 hsz hk => wpAny_pyIter_zip hz ?_
  have I2 : Inv X pins σ H1 { s1 with heap := h' } := I1.kept (t' := s1.toks) hk
  have S : ZipSep2 (s1.heap.objs.size + 4) (s1.heap.objs.size + 2) (s1.heap.objs.size + 3) s1.heap.objs.size (s1.heap.objs.size + 1) [s1.heap.objs.size] [s1.heap.objs.size + 1, b] :=
    zip_sep2 (fun c hc => by cases hc) (fun c hc => by rw [List.mem_singleton.mp hc]; exact lb)
  exact ⟨s1.heap.objs.size + 4, [s1.heap.objs.size + 4, s1.heap.objs.size + 2, s1.heap.objs.size + 3, s1.heap.objs.size, s1.heap.objs.size + 1], _, _, H1, rfl, I2, turn_zipT (tk0 := tk0) S (Nat.ne_of_lt (Nat.lt_succ_of_lt lb)), ⟨hz, hTI, ⟨_, _, hTO⟩, ⟨_, e1, rfl, rfl⟩, g2 _ _ e2⟩, fresh5, q⟩
end Ev
namespace Ev
open PySem PySem.Spec
open PyProof.Rows L2
abbrev Msk := Addr → Prop
open Classical in
noncomputable def msk (M : Msk) (H : Hp) : Hp := fun a => if M a then none else H a
theorem msk_some {M : Msk} {H : Hp} {a : Addr} {o : HO} : msk M H a = some o ↔ ¬ M a ∧ H a = some o := by
  unfold msk
  by_cases h : M a
  · rw [if_pos h]; exact ⟨fun z => (nomatch z), fun z => absurd h z.1⟩
  · rw [if_neg h]; exact ⟨fun z => ⟨h, z⟩, fun z => z.2⟩
theorem msk_same {M : Msk} {H : Hp} : Same (msk M H) H := fun _ _ h => (msk_some.mp h).2
theorem msk_mono {M M' : Msk} {H H' : Hp} (h : ∀ a o, ¬ M a → H a = some o → ¬ M' a ∧ H' a = some o) : Same (msk M H) (msk M' H') := fun a o e =>
  msk_some.mpr (h a o (msk_some.mp e).1 (msk_some.mp e).2)
theorem msk_ext {M : Msk} {H H' : Hp} (h : Same H H') : Same (msk M H) (msk M H') := msk_mono fun a o n e => ⟨n, h a o e⟩
theorem msk_less {M M' : Msk} {H : Hp} (h : ∀ a, M' a → M a) : Same (msk M H) (msk M' H) := msk_mono fun a _ n e => ⟨fun z => n (h a z), e⟩
def addM (M : Msk) (a : Addr) : Msk := fun b => M b ∨ b = a
theorem sq_same {K : PySem.W.Frag} {H H' : Hp} {a : Addr} {xs : List V} (e : Same H H') (h : SqL K H a xs) : SqL K H' a xs := e.seq h
theorem st_same {K : PySem.W.Frag} {H H' : Hp} {a : Addr} {xs : List V} (e : Same H H') (h : SqT K H a xs) : SqT K H' a xs := by
  rcases h with (h | ⟨o, h⟩) | h
  · exact .inl (.inl (e _ _ h))
  · exact .inl (.inr ⟨o, e _ _ h⟩)
  · exact .inr h
theorem sd_same {K : PySem.W.Frag} {H H' : Hp} {a : Addr} {xs : List V} (e : Same H H') (h : SqD K H a xs) : SqD K H' a xs := by
  rcases h with ⟨o, hd, h⟩ | h
  · exact .inl ⟨o, hd, e _ _ h⟩
  · exact .inr h
theorem rd_same {H H' : Hp} {a : Addr} {u : HO} (e : Same H H') (h : Rd H a u) : Rd H' a u := by
  rcases h with h | ⟨o, h⟩
  · exact .inl (e _ _ h)
  · exact .inr ⟨o, e _ _ h⟩
mutual
inductive De (K : PySem.W.Frag) (H : Hp) : V → PyData → Prop
  | non : De K H .non .none
  | bl (b : Bool) : De K H (.bl b) (.bool b)
  | int (i : Int) : De K H (.int i) (.int i)
  | str (x : Str) : De K H (.str x) (.str x)
  | lst {a : Addr} {xs : List V} {ds : List PyData} : SqL K H a xs → DeAll K H xs ds → De K H (.ref a) (.list ds)
  | tup {a : Addr} {xs : List V} {ds : List PyData} : SqD K H a xs → DeAll K H xs ds → De K H (.ref a) (.tuple ds)
  | dct {a : Addr} {xs : DXs} {kvs : List (PyData × PyData)} : H a = some (DX a xs) → DeKv K H xs kvs → De K H (.ref a) (.dict kvs)
inductive DeAll (K : PySem.W.Frag) (H : Hp) : List V → List PyData → Prop
  | nil : DeAll K H [] []
  | cons {v : V} {vs : List V} {d : PyData} {ds : List PyData} : De K H v d → DeAll K H vs ds → DeAll K H (v :: vs) (d :: ds)
inductive DeKv (K : PySem.W.Frag) (H : Hp) : DXs → List (PyData × PyData) → Prop
  | nil : DeKv K H [] []
  | cons {ns : List Int} {b : Addr} {v : V} {xs : DXs} {d : PyData} {kvs : List (PyData × PyData)} : SqD K H b (ns.map V.int) → De K H v d → DeKv K H xs kvs → DeKv K H ((ns, b, v) :: xs) ((.tuple (ns.map .int), d) :: kvs)
end
mutual
def noD : PyData → Bool
  | .dict _ => false
  | .list l => noDs l
  | .tuple l => noDs l
  | _ => true
def noDs : List PyData → Bool
  | [] => true
  | d :: ds => noD d && noDs ds
end
mutual
theorem De.dp {K : PySem.W.Frag} {H : Hp} : ∀ (d : PyData) (v : V), noD d = true → De K H v d → Dp K H v d
  | .none, _, _, h => by cases h; exact .non
  | .bool b, _, _, h => by cases h; exact .bl b
  | .int i, _, _, h => by cases h; exact .int i
  | .str x, _, _, h => by cases h; exact .str x
  | .list ds, _, n, h => by
    cases h with
    | lst hs ha => exact .lst hs (DeAll.dp ds _ n ha)
  | .tuple ds, _, n, h => by
    cases h with
    | tup hs ha => exact .tup hs.toT (DeAll.dp ds _ n ha)
  | .dict _, _, n, h => by cases n
theorem DeAll.dp {K : PySem.W.Frag} {H : Hp} : ∀ (ds : List PyData) (vs : List V), noDs ds = true → DeAll K H vs ds → DpAll K H vs ds
  | [], _, _, h => by cases h; exact .nil
  | d :: ds, _, n, h => by
    have n : (noD d && noDs ds) = true := n
    rw [Bool.and_eq_true] at n
    cases h with
    | cons h1 h2 => exact .cons (De.dp d _ n.1 h1) (DeAll.dp ds _ n.2 h2)
end
mutual
theorem De.same' {K : PySem.W.Frag} {H H' : Hp} (e : Same H H') : ∀ {v : V} {d : PyData}, De K H v d → De K H' v d
  | _, _, .non => .non
  | _, _, .bl b => .bl b
  | _, _, .int i => .int i
  | _, _, .str x => .str x
  | _, _, .lst hs ha => .lst (sq_same e hs) (DeAll.same' e ha)
  | _, _, .tup hs ha => .tup (sd_same e hs) (DeAll.same' e ha)
  | _, _, .dct h hk => .dct (e _ _ h) (DeKv.same e hk)
theorem DeAll.same' {K : PySem.W.Frag} {H H' : Hp} (e : Same H H') : ∀ {vs : List V} {ds : List PyData}, DeAll K H vs ds → DeAll K H' vs ds
  | _, _, .nil => .nil
  | _, _, .cons h1 h2 => .cons (De.same' e h1) (DeAll.same' e h2)
theorem DeKv.same {K : PySem.W.Frag} {H H' : Hp} (e : Same H H') : ∀ {xs : DXs} {kvs : List (PyData × PyData)}, DeKv K H xs kvs → DeKv K H' xs kvs
  | _, _, .nil => .nil
  | _, _, .cons h1 h2 h3 => .cons (sd_same e h1) (De.same' e h2) (DeKv.same e h3)
end
theorem De.same {K : PySem.W.Frag} {H H' : Hp} (e : Same H H') (d : PyData) (v : V) (h : De K H v d) : De K H' v d := De.same' e h
theorem DeAll.same {K : PySem.W.Frag} {H H' : Hp} (e : Same H H') (ds : List PyData) (vs : List V) (h : DeAll K H vs ds) : DeAll K H' vs ds := DeAll.same' e h
theorem DeKv.keys {K : PySem.W.Frag} {H : Hp} : ∀ {xs : DXs} {kvs : List (PyData × PyData)}, DeKv K H xs kvs → KeysOk K H xs
  | _, _, .nil => fun x hx => nomatch hx
  | _, _, .cons h1 h2 h3 => fun x hx => by
    rcases List.mem_cons.mp hx with e | hx
    · rw [e]; exact h1.toT
    · exact DeKv.keys h3 x hx
theorem deall_len {K : PySem.W.Frag} {H : Hp} : ∀ {vs : List V} {ds : List PyData}, DeAll K H vs ds → vs.length = ds.length
  | _, _, .nil => rfl
  | _, _, .cons _ h => by rw [List.length_cons, List.length_cons, deall_len h]
theorem deall_get {K : PySem.W.Frag} {H : Hp} : ∀ {vs : List V} {ds : List PyData} {i : Nat} {d : PyData}, DeAll K H vs ds → ds[i]? = some d → ∃ v, vs[i]? = some v ∧ De K H v d
  | _, _, _, _, .nil, e => by simp at e
  | _, _, 0, _, .cons h _, e => by simp at e; subst e; exact ⟨_, rfl, h⟩
  | _, _, i + 1, d, .cons _ t, e => by
    obtain ⟨v, h1, h2⟩ := deall_get (i := i) t (by simpa using e)
    exact ⟨v, by simpa using h1, h2⟩
theorem deall_app {K : PySem.W.Frag} {H : Hp} : ∀ {vs : List V} {ds : List PyData} {ws : List V} {es : List PyData}, DeAll K H vs ds → DeAll K H ws es → DeAll K H (vs ++ ws) (ds ++ es)
  | _, _, _, _, .nil, s => s
  | _, _, _, _, .cons r t, s => .cons r (deall_app t s)
theorem deall_one {K : PySem.W.Frag} {H : Hp} {v : V} {d : PyData} (h : De K H v d) : DeAll K H [v] [d] := .cons h .nil
theorem deall_take {K : PySem.W.Frag} {H : Hp} : ∀ {vs : List V} {ds : List PyData} (n : Nat), DeAll K H vs ds → DeAll K H (vs.take n) (ds.take n)
  | _, _, 0, _ => .nil
  | _, _, _ + 1, .nil => .nil
  | _, _, n + 1, .cons r t => .cons r (deall_take n t)
theorem deall_drop {K : PySem.W.Frag} {H : Hp} : ∀ {vs : List V} {ds : List PyData} (n : Nat), DeAll K H vs ds → DeAll K H (vs.drop n) (ds.drop n)
  | _, _, 0, r => r
  | _, _, _ + 1, .nil => .nil
  | _, _, n + 1, .cons _ t => deall_drop n t
theorem deall_evr {K : PySem.W.Frag} {H : Hp} : ∀ {vs : List V} {ds : List PyData}, DeAll K H vs ds → DeAll K H (evr vs) (evr ds)
  | _, _, .nil => .nil
  | _, _, .cons r .nil => .cons r .nil
  | _, _, .cons r (.cons _ t) => .cons r (deall_evr t)
theorem deall_set {K : PySem.W.Frag} {H : Hp} {v : V} {d : PyData} (h : De K H v d) : ∀ {vs : List V} {ds : List PyData} (i : Nat), DeAll K H vs ds → DeAll K H (vs.set i v) (ds.set i d)
  | _, _, _, .nil => .nil
  | _, _, 0, .cons _ t => .cons h t
  | _, _, i + 1, .cons q t => .cons q (deall_set h i t)
theorem deall_ints {K : PySem.W.Frag} {H : Hp} : ∀ {vs : List V} {ns : List Int}, DeAll K H vs (ns.map .int) → vs = ns.map V.int
  | _, [], h => by cases h; rfl
  | _, n :: ns, h => by
    cases h with
    | cons h1 h2 => cases h1; rw [deall_ints h2]; rfl
theorem deall_bools {K : PySem.W.Frag} {H : Hp} : ∀ {vs : List V} {ns : List Bool}, DeAll K H vs (ns.map .bool) → vs = ns.map V.bl
  | _, [], h => by cases h; rfl
  | _, n :: ns, h => by
    cases h with
    | cons h1 h2 => cases h1; rw [deall_bools h2]; rfl
theorem deall_strs {K : PySem.W.Frag} {H : Hp} : ∀ {vs : List V} {ns : List Str}, DeAll K H vs (ns.map .str) → vs = ns.map V.str
  | _, [], h => by cases h; rfl
  | _, n :: ns, h => by
    cases h with
    | cons h1 h2 => cases h1; rw [deall_strs h2]; rfl
theorem ints_deall {K : PySem.W.Frag} {H : Hp} : ∀ (ns : List Int), DeAll K H (ns.map V.int) (ns.map .int)
  | [] => .nil
  | n :: ns => .cons (.int n) (ints_deall ns)
inductive W where
  | sh (d : PyData) | nl (l : List PyData) | nd (kvs : List (List Int × PyData))
inductive Out (α : Type) where
  | ok (a : α) | exc (c : Nat) | stuck
abbrev Env := List (Option W)
inductive Res where
  | nx (ρ : Env) | ret (r : W) | brk (ρ : Env) | cnt (ρ : Env) | exc (c : Nat) (ρ : Env) | stuck
def Out.bind {α β : Type} : Out α → (α → Out β) → Out β
  | .ok a, f => f a
  | .exc c, _ => .exc c
  | .stuck, _ => .stuck
def W.share : W → Out PyData
  | .sh d => .ok d
  | .nl l => .ok (.list l)
  | .nd _ => .stuck
def W.view : W → Out PyData
  | .sh d => .ok d
  | .nl l => .ok (.list l)
  | .nd kvs => .ok (.dict (kvs.map fun p => (.tuple (p.1.map .int), p.2)))
def toD (kvs : List (List Int × PyData)) : PyData := .dict (kvs.map fun p => (.tuple (p.1.map .int), p.2))
def KvD (K : PySem.W.Frag) (H : Hp) : DXs → List (List Int × PyData) → Prop := Paired fun p q => p.1 = q.1 ∧ SqD K H p.2.1 (p.1.map V.int) ∧ De K H p.2.2 q.2
theorem KvD.de {K : PySem.W.Frag} {H : Hp} : ∀ {xs : DXs} {kvs : List (List Int × PyData)}, KvD K H xs kvs → DeKv K H xs (kvs.map fun p => (.tuple (p.1.map .int), p.2))
  | _, _, .nil => .nil
  | _, _, @Paired.cons _ _ _ (ns, b, v) (ms, d) ps qs h t => by
    obtain ⟨h1, h2, h3⟩ := h
    obtain rfl : ns = ms := h1
    exact .cons h2 h3 (KvD.de t)
def DB (K : PySem.W.Frag) (M : Msk) (H : Hp) (v : V) (d : PyData) : Prop :=
  De K (msk M H) v d ∨ (∃ a xs l, v = .ref a ∧ d = .list l ∧ SqL K H a xs ∧ DeAll K (msk M H) xs l) ∨ ∃ a xs kvs, v = .ref a ∧ d = toD kvs ∧ H a = some (DX a xs) ∧ KvD K (msk M H) xs kvs
def DWr (K : PySem.W.Frag) (M : Msk) (H H' : Hp) (r : W) (v : V) : Prop :=
  match r with
  | .sh d => De K (msk M H') v d
  | .nl l => ∃ a xs, v = .ref a ∧ H a = none ∧ H' a = some (.lst xs) ∧ DeAll K (msk (addM M a) H') xs l
  | .nd kvs => ∃ a kv, v = .ref a ∧ H a = none ∧ H' a = some (DX a kv) ∧ KvD K (msk (addM M a) H') kv kvs
theorem KvD.same {K : PySem.W.Frag} {H H' : Hp} (e : Same H H') {a : DXs} {b : List (List Int × PyData)} (h : KvD K H a b) : KvD K H' a b :=
  Paired.mapP h fun p q z => ⟨z.1, sd_same e z.2.1, De.same e _ _ z.2.2⟩
theorem DB.same {K : PySem.W.Frag} {M : Msk} {H H' : Hp} {v : V} {d : PyData} (e : Same H H') (h : DB K M H v d) : DB K M H' v d := by
  rcases h with h | ⟨a, xs, l, e1, e2, h1, h2⟩ | ⟨a, xs, l, e1, e2, h1, h2⟩
  · exact .inl (De.same (msk_ext e) _ _ h)
  · exact .inr (.inl ⟨a, xs, l, e1, e2, sq_same e h1, DeAll.same (msk_ext e) _ _ h2⟩)
  · exact .inr (.inr ⟨a, xs, l, e1, e2, e _ _ h1, h2.same (msk_ext e)⟩)
theorem DB.full {K : PySem.W.Frag} {M : Msk} {H : Hp} {v : V} {d : PyData} (h : DB K M H v d) : De K H v d := by
  rcases h with h | ⟨a, xs, l, e1, e2, h1, h2⟩ | ⟨a, xs, l, e1, e2, h1, h2⟩
  · exact De.same msk_same _ _ h
  · subst e1 e2
    exact .lst h1 (DeAll.same msk_same _ _ h2)
  · subst e1 e2
    exact .dct h1 (h2.same msk_same).de
theorem DB.list {K : PySem.W.Frag} {M : Msk} {H : Hp} {v : V} {l : List PyData} (h : DB K M H v (.list l)) : ∃ a xs, v = .ref a ∧ SqL K H a xs ∧ DeAll K (msk M H) xs l := by
  rcases h with h | ⟨a, xs, l', e1, e2, h1, h2⟩ | ⟨a, xs, l', e1, e2, h1, h2⟩
  · cases h with
    | lst hs ha => exact ⟨_, _, rfl, sq_same msk_same hs, ha⟩
  · cases e2
    exact ⟨a, xs, e1, h1, h2⟩
  · cases e2
theorem DB.tuple {K : PySem.W.Frag} {M : Msk} {H : Hp} {v : V} {l : List PyData} (h : DB K M H v (.tuple l)) : ∃ a xs, v = .ref a ∧ SqT K H a xs ∧ SqD K (msk M H) a xs ∧ DeAll K (msk M H) xs l := by
  rcases h with h | ⟨a, xs, l', e1, e2, h1, h2⟩ | ⟨a, xs, l', e1, e2, h1, h2⟩
  · cases h with
    | tup hs ha => exact ⟨_, _, rfl, st_same msk_same hs.toT, hs, ha⟩
  · cases e2
  · cases e2
theorem DB.int {K : PySem.W.Frag} {M : Msk} {H : Hp} {v : V} {i : Int} (h : DB K M H v (.int i)) : v = .int i := by
  rcases h with h | ⟨a, xs, l, e1, e2, h1, h2⟩ | ⟨a, xs, l', e1, e2, h1, h2⟩
  · cases h; rfl
  · cases e2
  · cases e2
theorem DB.bool {K : PySem.W.Frag} {M : Msk} {H : Hp} {v : V} {i : Bool} (h : DB K M H v (.bool i)) : v = .bl i := by
  rcases h with h | ⟨a, xs, l, e1, e2, h1, h2⟩ | ⟨a, xs, l', e1, e2, h1, h2⟩
  · cases h; rfl
  · cases e2
  · cases e2
theorem DB.str {K : PySem.W.Frag} {M : Msk} {H : Hp} {v : V} {i : Str} (h : DB K M H v (.str i)) : v = .str i := by
  rcases h with h | ⟨a, xs, l, e1, e2, h1, h2⟩ | ⟨a, xs, l', e1, e2, h1, h2⟩
  · cases h; rfl
  · cases e2
  · cases e2
theorem DB.none {K : PySem.W.Frag} {M : Msk} {H : Hp} {v : V} (h : DB K M H v .none) : v = .non := by
  rcases h with h | ⟨a, xs, l, e1, e2, h1, h2⟩ | ⟨a, xs, l', e1, e2, h1, h2⟩
  · cases h; rfl
  · cases e2
  · cases e2
theorem DB.dict {K : PySem.W.Frag} {M : Msk} {H : Hp} {v : V} {l : List (PyData × PyData)} (h : DB K M H v (.dict l)) : ∃ a xs, v = .ref a ∧ H a = some (DX a xs) ∧ DeKv K (msk M H) xs l := by
  rcases h with h | ⟨a, xs, l, e1, e2, h1, h2⟩ | ⟨a, xs, l', e1, e2, h1, h2⟩
  · cases h with
    | dct h hk => exact ⟨_, _, rfl, (msk_some.mp h).2, hk⟩
  · cases e2
  · cases e2
    exact ⟨a, xs, e1, h1, h2.de⟩
theorem DWr.back {K : PySem.W.Frag} {M : Msk} {H0 H H' : Hp} {r : W} {v : V} (e : Same H0 H) (h : DWr K M H H' r v) : DWr K M H0 H' r v := by
  cases r with
  | sh d => exact h
  | nl l =>
    obtain ⟨a, xs, h1, h2, h3⟩ := h
    exact ⟨a, xs, h1, e.free h2, h3⟩
  | nd l =>
    obtain ⟨a, xs, h1, h2, h3⟩ := h
    exact ⟨a, xs, h1, e.free h2, h3⟩
theorem DWr.share {K : PySem.W.Frag} {M : Msk} {H H' : Hp} {r : W} {v : V} {d : PyData} (hM : ∀ a, M a → H a ≠ Option.none) (h : DWr K M H H' r v) (e : r.share = .ok d) : De K (msk M H') v d := by
  cases r with
  | sh d' => cases e; exact h
  | nl l =>
    cases e
    obtain ⟨a, xs, h1, h2, h3, h4⟩ := h
    subst h1
    refine .lst (.inl (.inl (msk_some.mpr ⟨fun z => hM a z h2, h3⟩))) (DeAll.same (msk_less fun b z => .inl z) _ _ h4)
  | nd l => cases e
theorem DWr.db {K : PySem.W.Frag} {M : Msk} {H H' : Hp} {r : W} {v : V} {d : PyData} (hM : ∀ a, M a → H a ≠ Option.none) (h : DWr K M H H' r v) (e : r.share = .ok d) : DB K M H' v d := .inl (h.share hM e)
def Mk (Wd : Msk) (u : Nat → Option Addr) : Msk := fun a => Wd a ∨ ∃ i, u i = some a
def SD (K : PySem.W.Frag) (M : Msk) (u : Nat → Option Addr) (H : Hp) (i : Nat) (r : W) (v : V) : Prop :=
  match r with
  | .sh d => De K (msk M H) v d
  | .nl l => ∃ a xs, u i = some a ∧ v = .ref a ∧ H a = some (.lst xs) ∧ DeAll K (msk M H) xs l
  | .nd kvs => ∃ a kv, u i = some a ∧ v = .ref a ∧ H a = some (DX a kv) ∧ KvD K (msk M H) kv kvs
structure Rep (K : PySem.W.Frag) (Wd : Msk) (u : Nat → Option Addr) (ρ : Env) (σ : L2.St) (H : Hp) : Prop where
  len : ρ.length = σ.length
  wdom : ∀ a, Wd a → H a ≠ none
  udom : ∀ i a, u i = some a → H a ≠ none
  udis : ∀ i a, u i = some a → ¬ Wd a
  uinj : ∀ i j a, u i = some a → u j = some a → i = j
  slot : ∀ (i : Nat) (r : W), ρ[i]? = some (some r) → ∃ v, σ[i]? = some (some v) ∧ SD K (Mk Wd u) u H i r v
section
variable {K : PySem.W.Frag} {Wd : Msk} {u : Nat → Option Addr} {ρ : Env} {σ : L2.St} {H H' : Hp}
theorem SD.same {M : Msk} {i : Nat} {r : W} {v : V} (e : Same H H') (h : SD K M u H i r v) : SD K M u H' i r v := by
  cases r with
  | sh d => exact De.same (msk_ext e) _ _ h
  | nl l =>
    obtain ⟨a, xs, h1, h2, h3, h4⟩ := h
    exact ⟨a, xs, h1, h2, e _ _ h3, DeAll.same (msk_ext e) _ _ h4⟩
  | nd l =>
    obtain ⟨a, xs, h1, h2, h3, h4⟩ := h
    exact ⟨a, xs, h1, h2, e _ _ h3, h4.same (msk_ext e)⟩
theorem ne_same (e : Same H H') {a : Addr} (h : H a ≠ none) : H' a ≠ none := by
  cases q : H a with
  | none => exact absurd q h
  | some o => rw [e a o q]; exact fun z => nomatch z
theorem Rep.same (R : Rep K Wd u ρ σ H) (e : Same H H') : Rep K Wd u ρ σ H' :=
  ⟨R.len, fun a h => ne_same e (R.wdom a h), fun i a h => ne_same e (R.udom i a h), R.udis, R.uinj, fun i r h => by
    obtain ⟨v, h1, h2⟩ := R.slot i r h
    exact ⟨v, h1, h2.same e⟩⟩
theorem Rep.mdom (R : Rep K Wd u ρ σ H) : ∀ a, Mk Wd u a → H a ≠ none := fun a h => by
  rcases h with h | ⟨i, h⟩
  · exact R.wdom a h
  · exact R.udom i a h
end
structure Tr (u : Nat → Option Addr) (H : Hp) (u' : Nat → Option Addr) (H' : Hp) : Prop where
  keep : ∀ b o, (∀ j, u j ≠ some b) → H b = some o → H' b = some o
  dom : ∀ b, H b ≠ none → H' b ≠ none
  new : ∀ j b, u' j = some b → (∃ i, u i = some b) ∨ H b = none
theorem Tr.refl (u : Nat → Option Addr) (H : Hp) : Tr u H u H := ⟨fun _ _ _ h => h, fun _ h => h, fun j b h => .inl ⟨j, h⟩⟩
theorem Tr.trans {u u1 u2 : Nat → Option Addr} {H H1 H2 : Hp} (a : Tr u H u1 H1) (b : Tr u1 H1 u2 H2) : Tr u H u2 H2 :=
  ⟨fun c o n e => b.keep c o (fun j z => by
      rcases a.new j c z with ⟨i, q⟩ | q
      · exact n i q
      · rw [e] at q; cases q) (a.keep c o n e), fun c h => b.dom c (a.dom c h), fun j c z => by
    rcases b.new j c z with ⟨i, q⟩ | q
    · exact a.new i c q
    · by_cases h : H c = none
      · exact .inr h
      · exact absurd q (a.dom c h)⟩
theorem Tr.same {u : Nat → Option Addr} {H H' : Hp} (e : Same H H') : Tr u H u H' := ⟨fun b o _ h => e b o h, fun _ h => ne_same e h, fun j b h => .inl ⟨j, h⟩⟩
end Ev
namespace Ev
open PySem PySem.Spec
open PyProof.Rows L2
inductive BOp where
  | add | sub | mul | fdiv | mod | pow | shl | band
  deriving DecidableEq
inductive COp where
  | eq | ne | lt | le | gt | ge | is | isnt | inn | notin
  deriving DecidableEq
inductive Ty where
  | int | bool | str | tuple | list
  deriving DecidableEq
inductive Bi where
  | len | abs | int | str | tuple | list | sum | all | any | max2 | min2 | max1 | min1 | gcd | sorted | comb | dict
  deriving DecidableEq
inductive Me where
  | join | removeprefix | partition | startswith | split | count | get
  deriving DecidableEq
inductive Tg where
  | nm (i : Nat) | tp (is : List Nat)
  deriving DecidableEq
mutual
inductive E where
  | var (i : Nat) | cst (d : Const) | glob (i : Nat)
  | bin (o : BOp) (a b : E) | neg (a : E) | notv (a : E)
  | cmp (o : COp) (a b : E) | chn (o o' : COp) (a b c : E)
  | andv (es : Es) | orv (es : Es)
  | ite (c : T) (a b : E)
  | tup (es : Es) | lst (es : Es)
  | ix (a i : E) | sl (a lo hi : E) | nul
  | repl (a b : E) | cat (a b : E) | edc | ndc | call0 (f : Nat) | dd (k e : E) | rsl (a : E) | lix (a b : E) | lct (a b : E) | mth (m : Me) (o a : E)
  | call (f : Nat) (es : Es)
  | bi (b : Bi) (es : Es)
  | isi (t : Ty) (a : E)
  | me (m : Me) (o : E) (es : Es)
  | lc (src : Src) (tg : Tg) (own : List (Str × Nat)) (c : T) (elt : E)
  | lc2 (src : Src) (tg : Tg) (src2 : Src) (tg2 : Tg) (own own2 : List (Str × Nat)) (elt : E)
  | stp (i : Nat) (a : E) | mxd (a d : E)
inductive Es where
  | nil | cons (e : E) (es : Es)
inductive T where
  | yes | val (e : E) | nt (t : T) | and (ts : Ts) | or (ts : Ts)
inductive Ts where
  | one (t : T) | cons (t : T) (ts : Ts)
inductive Src where
  | seq (e : E) | rng1 (a : E) | rng2 (a b : E) | rng3 (a b c : E) | zip (a b : E) | zip3 (a b c : E) | zps (a b : E) | enm (a : E) | rev (a : E)
end
mutual
inductive S where
  | asg (i : Nat) (e : E) | tasg (is : List Nat) (e : E) | par (i j : Nat) (a b : E) | aug (i : Nat) (o : BOp) (e : E)
  | ifs (c : T) (a b : B) | for (tg : Tg) (src : Src) (b : B) | whl (c : T) (b : B)
  | ret (e : E) | retN | ex (e : E) | app (i : Nat) (e : E) | ext (i : Nat) (e : E) | ins (i : Nat) (e : E) | sset (i : Nat) (k e : E) | pop (i : Nat) | swp (i : Nat) (k1 k2 e : E)
  | brk | cnt | pass | never | raise (c : Nat) | tryR (b : B) (hs : List (Nat × Const)) | dset (i : Nat) (k e : E) | mutS (f i : Nat) (es : Es)
inductive B where
  | nil | cons (s : S) (b : B) | pub (i : Nat) (b : B)
end
structure DefIR where
  name : Str
  glo : Str
  ps : List Str
  N : List Str
  body : B
  mu : Bool
structure Prg where
  defs : List DefIR
  consts : List (Str × PyData)
  excs : List Str
  subs : List (Nat × Nat)
def mulOk (a b : Int) : Bool := decide (a.natAbs < 2 ^ 64) || decide (b.natAbs < 2 ^ 64) || decide (a.natAbs.log2 + b.natAbs.log2 < 1000000)
def divOk (a b : Int) : Bool := decide (b ≠ 0) && !Builtin.divisionGoesByPylong a b
def okI (i : Int) : Out W := .ok (.sh (.int i))
def okB (b : Bool) : Out W := .ok (.sh (.bool b))
def lenOk (n : Nat) : Bool := decide (n ≤ 16000000)
def b2I (b : Bool) : Int := if b then 1 else 0
def repS (a : Str) (n : Int) : Str := if n < 1 then Str.empty else if (n == 1 || a.length == 0) = true then a else ⟨(List.replicate n.toNat a.cps).foldl (· ++ ·) #[]⟩
def opD : BOp → PyData → PyData → Out W
  | .add, .int a, .int b => okI (a + b)
  | .add, .int a, .bool b => okI (a + b2I b)
  | .add, .str a, .str b => if lenOk (a.length + b.length) then .ok (.sh (.str (a ++ b))) else .stuck
  | .add, .tuple a, .tuple b => if lenOk (a.length + b.length) then .ok (.sh (.tuple (a ++ b))) else .stuck
  | .sub, .int a, .int b => okI (a - b)
  | .sub, .bool a, .bool b => okI (b2I a - b2I b)
  | .mul, .int a, .int b => if mulOk a b then okI (a * b) else .stuck
  | .mul, .str a, .int b => if 0 ≤ b ∧ b ≤ 1000 ∧ a.length ≤ 1000 then .ok (.sh (.str (repS a b))) else .stuck
  | .mul, .tuple a, .int b => if decide (0 < a.length) && decide (1 ≤ b) && decide (b ≤ 1000) && decide (a.length ≤ 1000) then .ok (.sh (.tuple (List.replicate b.toNat a).flatten)) else .stuck
  | .fdiv, .int a, .int b => if divOk a b then okI (a.fdiv b) else .stuck
  | .mod, .int a, .int b => if b ≠ 0 then okI (a.fmod b) else .stuck
  | .pow, .int a, .int b => if 0 ≤ b ∧ b ≤ 1000000 ∧ a.natAbs < 2 ^ 64 then okI (a ^ b.toNat) else .stuck
  | .shl, .int a, .int b => if 0 ≤ b ∧ b ≤ 1000000 ∧ a.natAbs < 2 ^ 64 then okI (a * 2 ^ b.toNat) else .stuck
  | .band, .int a, .int b => okI (Builtin.bitAnd a b)
  | _, _, _ => .stuck
def replD : W → PyData → Out W
  | .nl l, .int b => if decide (b.natAbs < 1000000) && lenOk (l.length * b.toNat) then .ok (.nl (List.replicate b.toNat l).flatten) else .stuck
  | _, _ => .stuck
def augD (o : BOp) (x y : PyData) : Out W := match x, y with
  | .int a, .int b => opD o (.int a) (.int b)
  | .str a, .str b => opD o (.str a) (.str b)
  | _, _ => .stuck
def negD : PyData → Out W
  | .int a => okI (-a)
  | _ => .stuck
def shapedD (d : PyData) : Bool := SeqAt.shaped d
def flatD : PyData → Bool
  | .list _ => false
  | .tuple _ => false
  | .dict _ => false
  | _ => true
def ltInts : List PyData → List PyData → Option Bool
  | [], [] => some false
  | [], .int _ :: _ => some true
  | .int _ :: _, [] => some false
  | .int a :: r, .int b :: q => if a = b then ltInts r q else some (decide (a < b))
  | _, _ => none
def intsOf : List PyData → Option (List Int)
  | [] => some []
  | .int i :: r => (intsOf r).map (i :: ·)
  | _ => none
def boolsOf : List PyData → Option (List Bool)
  | [] => some []
  | .bool i :: r => (boolsOf r).map (i :: ·)
  | _ => none
def strsOf : List PyData → Option (List Str)
  | [] => some []
  | .str i :: r => (strsOf r).map (i :: ·)
  | _ => none
def keyI : PyData → Option (List Int)
  | .tuple l => intsOf l
  | _ => none
def keyB (ns : List Int) (p : PyData × PyData) : Bool := match keyI p.1 with
  | some m => decide (m = ns)
  | none => false
def kvGet (l : List (PyData × PyData)) (ns : List Int) : Option PyData := (l.find? (keyB ns)).map (·.2)
def isD : PyData → PyData → Bool
  | .none, .none => true
  | .bool a, .bool b => a == b
  | _, _ => false
def strsL : List PyData → Option (List Str)
  | [] => some []
  | .str x :: r => (strsL r).map (x :: ·)
  | _ => none
def cmpD : COp → PyData → PyData → Out W
  | .eq, .dict _, .tuple _ => okB false
  | .eq, a, b => if shapedD a && noD a && (shapedD b && noD b) then okB (PyData.eqv a b) else .stuck
  | .ne, a, b => if shapedD a && noD a && (shapedD b && noD b) then okB (!PyData.eqv a b) else .stuck
  | .lt, .int a, .int b => okB (decide (a < b))
  | .le, .int a, .int b => okB (decide (a ≤ b))
  | .gt, .int a, .int b => okB (decide (b < a))
  | .ge, .int a, .int b => okB (decide (b ≤ a))
  | .lt, .tuple a, .tuple b => match intsOf a, intsOf b with
    | some x, some y => okB (HT.lexLt x y)
    | _, _ => .stuck
  | .is, a, .none => okB (isD a .none)
  | .isnt, a, .none => okB (!isD a .none)
  | .is, a, .bool b => okB (isD a (.bool b))
  | .isnt, a, .bool b => okB (!isD a (.bool b))
  | .inn, .str a, .str b => okB (!(Builtin.Str.occurrences b a 0 b.length 1).isEmpty)
  | .notin, .str a, .str b => okB (!(!(Builtin.Str.occurrences b a 0 b.length 1).isEmpty))
  | .inn, a, .dict l => (match keyI a with
    | some ns => okB (kvGet l ns).isSome
    | none => .stuck)
  | .inn, a, .list l => if shapedD a && noD a && (shapedD (.list l) && noD (.list l)) then okB (l.any fun z => PyData.eqv z a) else .stuck
  | .notin, a, .list l => if shapedD a && noD a && (shapedD (.list l) && noD (.list l)) then okB (!l.any fun z => PyData.eqv z a) else .stuck
  | .notin, .str a, .tuple l => (match strsL l with
    | some xs => okB (!xs.any (· == a))
    | none => .stuck)
  | _, _, _ => .stuck
def truth : PyData → Out Bool
  | .none => .ok false
  | .bool b => .ok b
  | .int i => .ok (i != 0)
  | .str s => if lenOk s.length then .ok ((s.length : Int) != 0) else .stuck
  | .list l => .ok (!l.isEmpty)
  | .tuple l => .ok (!l.isEmpty)
  | .dict _ => .stuck
def ixD : PyData → PyData → Out W
  | .list l, .int i => match atI l i with | some d => .ok (.sh d) | none => .stuck
  | .tuple l, .int i => match atI l i with | some d => .ok (.sh d) | none => .stuck
  | .dict l, k => (match keyI k with
    | some ns => (match kvGet l ns with | some d => .ok (.sh d) | none => .stuck)
    | none => .stuck)
  | .str s, .int i => if lenOk s.length then (match atI s.cps.toList i with | some c => .ok (.sh (.str ⟨#[c]⟩)) | none => .stuck) else .stuck
  | _, _ => .stuck
def intOf : PyData → Out (Option Int)
  | .int i => .ok (some i)
  | _ => .stuck
def bnd (e : E) (r : Out PyData) : Out (Option Int) := match e with
  | .nul => .ok none
  | _ => r.bind intOf
def cutD (xs : List PyData) (lo hi : Option Int) : List PyData := (xs.drop (HT.sIx xs.length 0 lo)).take (HT.sIx xs.length xs.length hi - HT.sIx xs.length 0 lo)
def slD (d : PyData) (lo hi : Option Int) : Out W := match d with
  | .list xs => .ok (.nl (cutD xs lo hi))
  | .tuple xs => .ok (.sh (.tuple (cutD xs lo hi)))
  | .str z => if lenOk z.length then .ok (.sh (.str (cutS z lo hi))) else .stuck
  | _ => .stuck
def tyD : Ty → PyData → Bool
  | .int, .int _ => true
  | .int, .bool _ => true
  | .bool, .bool _ => true
  | .str, .str _ => true
  | .tuple, .tuple _ => true
  | .list, .list _ => true
  | _, _ => false
def one (f : PyData → Out W) : List PyData → Out W
  | [d] => f d
  | _ => .stuck
def two (f : PyData → PyData → Out W) : List PyData → Out W
  | [d, e] => f d e
  | _ => .stuck
def lenD : PyData → Out W
  | .list l => okI l.length
  | .tuple l => okI l.length
  | .str s => if lenOk s.length then okI s.length else .stuck
  | _ => .stuck
def absD : PyData → Out W
  | .int i => okI (if i < 0 then -i else i)
  | _ => .stuck
def intD : PyData → Out W
  | .int i => okI i
  | .bool b => okI (b2I b)
  | .str a => (match PySem.intText? a with
    | some n => if a.length ≤ 640 then okI n else .stuck
    | none => .stuck)
  | _ => .stuck
def strD : PyData → Out W
  | .int i => if i.natAbs.log2 < 1920 then .ok (.sh (.str (toString i))) else .stuck
  | _ => .stuck
def tupleD : PyData → Out W
  | .list l => .ok (.sh (.tuple l))
  | .tuple l => .ok (.sh (.tuple l))
  | _ => .stuck
def listD : PyData → Out W
  | .list l => .ok (.nl l)
  | .tuple l => .ok (.nl l)
  | _ => .stuck
def sumD : PyData → Out W
  | .list l => (match intsOf l with | some ns => okI ns.sum | none => .stuck)
  | .tuple l => (match intsOf l with | some ns => okI ns.sum | none => .stuck)
  | _ => .stuck
def allD : PyData → Out W
  | .list l => match boolsOf l with | some ns => okB (ns.all id) | none => .stuck
  | _ => .stuck
def anyD : PyData → Out W
  | .list l => match boolsOf l with | some ns => okB (ns.any id) | none => .stuck
  | _ => .stuck
def max2D : PyData → PyData → Out W
  | .int i, .int j => okI (if j > i then j else i)
  | _, _ => .stuck
def min2D : PyData → PyData → Out W
  | .int i, .int j => okI (if j < i then j else i)
  | _, _ => .stuck
def max1D : PyData → Out W
  | .list l => (match intsOf l with | some ns => if 0 < ns.length then okI (maxL ns) else .stuck | none => .stuck)
  | .tuple l => (match intsOf l with | some ns => if 0 < ns.length then okI (maxL ns) else .stuck | none => .stuck)
  | _ => .stuck
def min1D : PyData → Out W
  | .list l => (match intsOf l with | some ns => if 0 < ns.length then okI (minL ns) else .stuck | none => .stuck)
  | _ => .stuck
def mxdD : PyData → PyData → Out W
  | .list l, .int i => (match intsOf l with | some ns => if ns = [] then okI i else okI (maxL ns) | none => .stuck)
  | _, _ => .stuck
def stpD (i : Nat) : PyData → Out W
  | .list l => .ok (.nl (evr (l.drop i)))
  | _ => .stuck
def gcdD : PyData → PyData → Out W
  | .int a, .int b => okI ((Nat.gcd a.natAbs b.natAbs : Nat) : Int)
  | _, _ => .stuck
def combD : PyData → PyData → Out W
  | .int a, .int b => if decide (0 ≤ a) && decide (0 ≤ b) && decide (a ≤ 18000) then okI (PySem.W.mcComb a b) else .stuck
  | _, _ => .stuck
def cdK (ns : List Int) : Int := TS.code 1099511627776 ns
def insK (x : List Int) : List (List Int) → List (List Int)
  | [] => [x]
  | y :: r => if cdK x ≤ cdK y then x :: y :: r else y :: insK x r
def sortK : List (List Int) → List (List Int)
  | [] => []
  | x :: r => insK x (sortK r)
def keysI : List (PyData × PyData) → Option (List (List Int))
  | [] => some []
  | (k, _) :: r => match keyI k, keysI r with
    | some ns, some q => some (ns :: q)
    | _, _ => none
def keyFit (d : Nat) (ns : List Int) : Bool := decide (ns.length = d) && ns.all fun m => decide (0 ≤ m) && decide (m < 1099511627776)
def sortedD : PyData → Out W
  | .dict l => (match keysI l with
    | some ks => if decide (l.length ≤ 1000000) && (match ks with | [] => true | k :: _ => decide (1 ≤ k.length) && ks.all (keyFit k.length)) then .ok (.nl ((sortK ks).map fun ns => .tuple (ns.map .int))) else .stuck
    | none => .stuck)
  | _ => .stuck
def putK (kvs : List (List Int × PyData)) (ns : List Int) (d : PyData) : List (List Int × PyData) := if (kvs.find? fun p => decide (p.1 = ns)).isSome then kvs.map (fun p => if p.1 = ns then (p.1, d) else p) else kvs ++ [(ns, d)]
def pairK : PyData → Option (List Int × PyData)
  | .tuple l => (match l with
    | [k, d] => (match keyI k with
      | some ns => some (ns, d)
      | none => none)
    | _ => none)
  | _ => none
def prsK : List PyData → Option (List (List Int × PyData))
  | [] => some []
  | d :: ds => (match pairK d, prsK ds with
    | some p, some ps => some (p :: ps)
    | _, _ => none)
def dictD : PyData → Out W
  | .tuple l => (match prsK l with
    | some ps => if lenOk l.length = true then .ok (.nd (ps.foldl (fun s p => putK s p.1 p.2) [])) else .stuck
    | none => .stuck)
  | _ => .stuck
def biD (b : Bi) (ds : List PyData) : Out W := match b with
  | .len => one lenD ds
  | .abs => one absD ds
  | .int => one intD ds
  | .str => one strD ds
  | .tuple => one tupleD ds
  | .list => one listD ds
  | .sum => one sumD ds
  | .all => one allD ds
  | .any => one anyD ds
  | .max2 => two max2D ds
  | .min2 => two min2D ds
  | .max1 => one max1D ds
  | .min1 => one min1D ds
  | .gcd => two gcdD ds
  | .sorted => one sortedD ds
  | .comb => two combD ds
  | .dict => one dictD ds
def getD2 : PyData → PyData → PyData → Out W
  | .dict l, k, d => (match keyI k with
    | some ns => .ok (.sh ((kvGet l ns).getD d))
    | none => .stuck)
  | _, _, _ => .stuck
def meOk : Me → PyData → Out Unit
  | .get, .dict _ => .ok ()
  | _, _ => .stuck
def meD : Me → PyData → List PyData → Out W
  | .get, o, [k, d] => getD2 o k d
  | _, _, _ => .stuck
def strU : PyData → Out Unit
  | .str _ => .ok ()
  | _ => .stuck
def mthD : Me → PyData → PyData → Out W
  | .join, .str s, .list l => (match strsL l with
    | some ys => if (ys.map (·.length)).sum + ys.length * s.length ≤ 16777216 then .ok (.sh (.str (Txt.join s ys))) else .stuck
    | none => .stuck)
  | .removeprefix, .str s, .str p => if lenOk s.length then .ok (.sh (.str (Txt.removeprefix s p))) else .stuck
  | .startswith, .str s, .str p => okB (Txt.startswith s p)
  | .partition, .str s, .str p => if lenOk s.length && !(p.length == 0) then .ok (.sh (.tuple [.str (Txt.partition s p).1, .str (Txt.partition s p).2.1, .str (Txt.partition s p).2.2])) else .stuck
  | .split, .str s, .str p => if lenOk (s.length + 2) && !(p.length == 0) then .ok (.nl ((Txt.split s p).map .str)) else .stuck
  | _, _, _ => .stuck
def bindTg : Tg → PyData → Env → Option Env
  | .nm i, d, ρ => if i < ρ.length then some (ρ.set i (some (.sh d))) else none
  | .tp is, .tuple l, ρ => if is.length = l.length ∧ is.all (· < ρ.length) then some ((is.zip l).foldl (fun ρ p => ρ.set p.1 (some (.sh p.2))) ρ) else none
  | _, _, _ => none
def wipeE (ρ : Env) : List Nat → Env
  | [] => ρ
  | v :: vs => (wipeE ρ vs).set v none
def slotS (ρ : Env) (i : Nat) : Out PyData := match ρ[i]? with
  | some (some w) => w.view
  | _ => .stuck
def revS : PyData → Out W
  | .list l => .ok (.nl l.reverse)
  | .tuple l => .ok (.sh (.tuple l.reverse))
  | _ => .stuck
def lsO : PyData → Out Unit
  | .list _ => .ok ()
  | _ => .stuck
def lixD : PyData → PyData → Out W
  | .list l, d => if shapedD (.list l) && noD (.list l) && (shapedD d && noD d) then (match l.findIdx? (fun z => PyData.eqv z d) with | some j => okI (j : Nat) | none => .stuck) else .stuck
  | _, _ => .stuck
def lctD : PyData → PyData → Out W
  | .list l, d => if shapedD (.list l) && noD (.list l) && (shapedD d && noD d) then okI (l.countP (fun z => PyData.eqv z d) : Nat) else .stuck
  | _, _ => .stuck
def ddD (kd d : PyData) : Out W := match keyI kd with
  | some ns => .ok (.sh (toD [(ns, d)]))
  | none => .stuck
def borN (e : E) (r : Out W) (ρ : Env) : Out (List PyData) := match e with
  | .var i => (match ρ[i]? with
    | some (some (.nl l)) => .ok l
    | some (some (.sh (.list l))) => .ok l
    | _ => .stuck)
  | _ => r.bind fun w => match w with
    | .nl l => .ok l
    | .sh (.list l) => .ok l
    | _ => .stuck
def catD (a b : List PyData) : Out W := if lenOk (a.length + b.length) then .ok (.nl (a ++ b)) else .stuck
def bor (e : E) (r : Out W) (ρ : Env) : Out PyData := match e with
  | .var i => slotS ρ i
  | _ => r.bind W.share
def rngD (lo n : Int) : List PyData := (List.range n.toNat).map fun k => .int (lo + (k : Nat))
def rng3D (lo c : Int) (n : Nat) : List PyData := (List.range n).map fun k => .int (lo + (k : Nat) * c)
def smallI (i : Int) : Bool := decide (-(2 ^ 61) ≤ i) && decide (i < 2 ^ 61)
def seqD : PyData → Out (List PyData)
  | .list l => .ok l
  | .tuple l => .ok l
  | .str s => .ok (s.cps.toList.map fun c => .str ⟨#[c]⟩)
  | _ => .stuck
def rng1D : PyData → Out (List PyData)
  | .int n => if smallI n then .ok (rngD 0 n) else .stuck
  | _ => .stuck
def rng2D : PyData → PyData → Out (List PyData)
  | .int a, .int b => if smallI a && smallI b then .ok (rngD a (b - a)) else .stuck
  | _, _ => .stuck
def rngE3 : PyData → PyData → PyData → Out (List PyData)
  | .int a, .int b, .int c => if decide (c ≠ 0) && decide (c.natAbs < 1073741824) && Builtin.Range.small a b c && decide (0 ≤ Builtin.Range.rangeSize a b c) then .ok (rng3D a c (Builtin.Range.rangeSize a b c).toNat) else .stuck
  | _, _, _ => .stuck
def pairD (x y : PyData) : PyData := .tuple [x, y]
def zipD : PyData → PyData → Out (List PyData)
  | .list a, .list b => .ok (List.zipWith pairD a b)
  | .tuple a, .tuple b => .ok (List.zipWith pairD a b)
  | .list a, .tuple b => .ok (List.zipWith pairD a b)
  | .tuple a, .list b => .ok (List.zipWith pairD a b)
  | _, _ => .stuck
def tripD (x y z : PyData) : PyData := .tuple [x, y, z]
def zipW3 : List PyData → List PyData → List PyData → List PyData
  | x :: xs, y :: ys, z :: zs => tripD x y z :: zipW3 xs ys zs
  | _, _, _ => []
def itmD : PyData → Out (List PyData)
  | .list a => .ok a
  | .tuple a => .ok a
  | _ => .stuck
def strI : PyData → Out (List PyData)
  | .str s => .ok (s.cps.toList.map fun c => .str ⟨#[c]⟩)
  | _ => .stuck
def zpsD (x y : PyData) : Out (List PyData) := (strI x).bind fun a => (itmD y).bind fun b => .ok (List.zipWith pairD a b)
def zip3D (x y z : PyData) : Out (List PyData) := (itmD x).bind fun a => (itmD y).bind fun b => (itmD z).bind fun c => .ok (zipW3 a b c)
def enmD (x : PyData) : Out (List PyData) := (itmD x).bind fun a => .ok (List.zipWith pairD ((List.range a.length).map fun k => .int (k : Nat)) a)
def revD : PyData → Out (List PyData)
  | .list a => .ok a.reverse
  | .tuple a => .ok a.reverse
  | _ => .stuck
def lcLoop (f : PyData → Out (Option PyData)) : List PyData → Out (List PyData)
  | [] => .ok []
  | x :: xs => match f x with
    | .ok r => (lcLoop f xs).bind fun q => .ok (match r with | some d => d :: q | none => q)
    | _ => .stuck
def lcTurn (tg : Tg) (own : List (Str × Nat)) (ρ : Env) (c : Env → Out Bool) (e : Env → Out W) (x : PyData) : Out (Option PyData) :=
  match bindTg tg x (wipeE ρ (own.map (·.2))) with
  | none => .stuck
  | some ρ' => (c ρ').bind fun t => if t then (e ρ').bind fun w => w.share.bind fun d => .ok (some d) else .ok none
def lc2Loop (f : PyData → Out (List PyData)) : List PyData → Out (List PyData)
  | [] => .ok []
  | x :: xs => match f x with
    | .ok l => (lc2Loop f xs).bind fun q => .ok (l ++ q)
    | _ => .stuck
def lc2Turn (tg : Tg) (own : List (Str × Nat)) (ρ : Env) (sh : Env → Bool) (it : Env → Out (List PyData)) (tg2 : Tg) (own2 : List (Str × Nat)) (e : Env → Out W) (x : PyData) : Out (List PyData) :=
  match bindTg tg x (wipeE ρ (own.map (·.2))) with
  | none => .stuck
  | some ρ' => if sh ρ' then (match it ρ' with
    | .ok items => lcLoop (lcTurn tg2 own2 ρ' (fun _ => .ok true) e) items
    | _ => .stuck) else .stuck
def isSh (ρ : Env) (i : Nat) : Bool := match ρ[i]? with
  | some (some (.sh _)) => true
  | _ => false
def shE (e : E) (ρ : Env) : Bool := match e with
  | .var i => isSh ρ i
  | _ => true
def srcSh : Src → Env → Bool
  | .seq e, ρ => shE e ρ
  | .rev e, ρ => shE e ρ
  | .enm e, ρ => shE e ρ
  | .zip a b, ρ => shE a ρ && shE b ρ
  | .zps a b, ρ => shE a ρ && shE b ρ
  | .zip3 a b c, ρ => shE a ρ && (shE b ρ && shE c ρ)
  | _, _ => true
def constD : Const → Out W
  | .none => .ok (.sh .none)
  | .bool b => .ok (.sh (.bool b))
  | .int i => .ok (.sh (.int i))
  | .str s => .ok (.sh (.str s))
  | _ => .stuck
section
variable (P : Prg) (cl : Nat → List PyData → Out W)
mutual
def evE : E → Env → Out W
  | .var i, ρ => match ρ[i]? with
    | some (some (.sh d)) => .ok (.sh d)
    | _ => .stuck
  | .cst d, _ => constD d
  | .glob i, _ => match P.consts[i]? with
    | some (_, d) => .ok (.sh d)
    | none => .stuck
  | .bin o a b, ρ => (bor a (evE a ρ) ρ).bind fun x => (bor b (evE b ρ) ρ).bind fun y => opD o x y
  | .neg a, ρ => (bor a (evE a ρ) ρ).bind negD
  | .notv a, ρ => (bor a (evE a ρ) ρ).bind fun x => match x with
    | .bool b => okB (!b)
    | _ => .stuck
  | .cmp o a b, ρ => (bor a (evE a ρ) ρ).bind fun x => (bor b (evE b ρ) ρ).bind fun y => cmpD o x y
  | .chn o o' a b c, ρ => (bor a (evE a ρ) ρ).bind fun x => (bor b (evE b ρ) ρ).bind fun y => (cmpD o x y).bind fun r => match r with
    | .sh (.bool true) => (bor c (evE c ρ) ρ).bind fun z => cmpD o' y z
    | .sh (.bool false) => okB false
    | _ => .stuck
  | .andv es, ρ => evAnd es ρ
  | .orv es, ρ => evOr es ρ
  | .ite c a b, ρ => (evT c ρ).bind fun x => if x then evE a ρ else evE b ρ
  | .tup es, ρ => (evEs es ρ).bind fun ds => .ok (.sh (.tuple ds))
  | .lst es, ρ => (evEs es ρ).bind fun ds => .ok (.nl ds)
  | .ix a i, ρ => (bor a (evE a ρ) ρ).bind fun x => (bor i (evE i ρ) ρ).bind fun y => ixD x y
  | .sl a lo hi, ρ => (bor a (evE a ρ) ρ).bind fun x => (bnd lo (bor lo (evE lo ρ) ρ)).bind fun y => (bnd hi (bor hi (evE hi ρ) ρ)).bind fun z => slD x y z
  | .nul, _ => .ok (.sh .none)
  | .edc, _ => .ok (.sh (.dict []))
  | .ndc, _ => .ok (.nd [])
  | .rsl a, ρ => (bor a (evE a ρ) ρ).bind revS
  | .lix a b, ρ => (bor a (evE a ρ) ρ).bind fun x => (lsO x).bind fun _ => (bor b (evE b ρ) ρ).bind fun y => lixD x y
  | .mth m a b, ρ => (bor a (evE a ρ) ρ).bind fun x => (strU x).bind fun _ => (bor b (evE b ρ) ρ).bind fun y => mthD m x y
  | .lct a b, ρ => (bor a (evE a ρ) ρ).bind fun x => (lsO x).bind fun _ => (bor b (evE b ρ) ρ).bind fun y => lctD x y
  | .dd k e, ρ => (evE k ρ).bind fun w => w.share.bind fun kd => (evE e ρ).bind fun w' => w'.share.bind fun d => ddD kd d
  | .cat a b, ρ => (borN a (evE a ρ) ρ).bind fun x => (borN b (evE b ρ) ρ).bind fun y => catD x y
  | .call0 f, _ => match cl f [] with
    | .ok r => .ok r
    | _ => .stuck
  | .repl a b, ρ => (evE a ρ).bind fun w => (bor b (evE b ρ) ρ).bind fun y => replD w y
  | .call f es, ρ => (evEs es ρ).bind fun ds => cl f ds
  | .bi b es, ρ => (evBs es ρ).bind fun ds => biD b ds
  | .isi t a, ρ => (bor a (evE a ρ) ρ).bind fun x => okB (tyD t x)
  | .me m o es, ρ => (bor o (evE o ρ) ρ).bind fun x => (meOk m x).bind fun _ => (evEs es ρ).bind fun ds => meD m x ds
  | .lc src tg own c elt, ρ => (evI src ρ).bind fun items => (lcLoop (lcTurn tg own ρ (fun ρ' => evT c ρ') (fun ρ' => evE elt ρ')) items).bind fun l => if lenOk l.length then .ok (.nl l) else .stuck
  | .lc2 src tg src2 tg2 own own2 elt, ρ => (evI src ρ).bind fun items => (lc2Loop (lc2Turn tg own ρ (srcSh src2) (fun ρ' => evI src2 ρ') tg2 own2 (fun ρ' => evE elt ρ')) items).bind fun l => if lenOk l.length then .ok (.nl l) else .stuck
  | .stp i a, ρ => (bor a (evE a ρ) ρ).bind (stpD i)
  | .mxd a d, ρ => (bor a (evE a ρ) ρ).bind fun x => (bor d (evE d ρ) ρ).bind fun y => mxdD x y
def evEs : Es → Env → Out (List PyData)
  | .nil, _ => .ok []
  | .cons e es, ρ => (evE e ρ).bind fun w => w.share.bind fun d => (evEs es ρ).bind fun ds => .ok (d :: ds)
def evBs : Es → Env → Out (List PyData)
  | .nil, _ => .ok []
  | .cons e es, ρ => (bor e (evE e ρ) ρ).bind fun d => (evBs es ρ).bind fun ds => .ok (d :: ds)
def evAnd : Es → Env → Out W
  | .nil, _ => .stuck
  | .cons e .nil, ρ => evE e ρ
  | .cons e es, ρ => (bor e (evE e ρ) ρ).bind fun x => match x with
    | .bool true => evAnd es ρ
    | .bool false => okB false
    | _ => .stuck
def evOr : Es → Env → Out W
  | .nil, _ => .stuck
  | .cons e .nil, ρ => evE e ρ
  | .cons e es, ρ => (bor e (evE e ρ) ρ).bind fun x => match x with
    | .bool true => okB true
    | .bool false => evOr es ρ
    | _ => .stuck
def evT : T → Env → Out Bool
  | .yes, _ => .ok true
  | .val e, ρ => (bor e (evE e ρ) ρ).bind truth
  | .nt t, ρ => (evT t ρ).bind fun b => .ok (!b)
  | .and ts, ρ => evAll ts ρ
  | .or ts, ρ => evAny ts ρ
def evAll : Ts → Env → Out Bool
  | .one t, ρ => evT t ρ
  | .cons t ts, ρ => (evT t ρ).bind fun b => if b then evAll ts ρ else .ok false
def evAny : Ts → Env → Out Bool
  | .one t, ρ => evT t ρ
  | .cons t ts, ρ => (evT t ρ).bind fun b => if b then .ok true else evAny ts ρ
def evI : Src → Env → Out (List PyData)
  | .seq e, ρ => (bor e (evE e ρ) ρ).bind seqD
  | .rng1 a, ρ => (bor a (evE a ρ) ρ).bind rng1D
  | .rng2 a b, ρ => (bor a (evE a ρ) ρ).bind fun x => (bor b (evE b ρ) ρ).bind fun y => rng2D x y
  | .rng3 a b c, ρ => (bor a (evE a ρ) ρ).bind fun x => (bor b (evE b ρ) ρ).bind fun y => (bor c (evE c ρ) ρ).bind fun z => rngE3 x y z
  | .zip a b, ρ => (bor a (evE a ρ) ρ).bind fun x => (bor b (evE b ρ) ρ).bind fun y => zipD x y
  | .zps a b, ρ => (bor a (evE a ρ) ρ).bind fun x => (bor b (evE b ρ) ρ).bind fun y => zpsD x y
  | .zip3 a b c, ρ => (bor a (evE a ρ) ρ).bind fun x => (bor b (evE b ρ) ρ).bind fun y => (bor c (evE c ρ) ρ).bind fun z => zip3D x y z
  | .enm a, ρ => (bor a (evE a ρ) ρ).bind enmD
  | .rev a, ρ => (bor a (evE a ρ) ρ).bind revD
end
def forLoop (f : PyData → Env → Res) : List PyData → Env → Res
  | [], ρ => .nx ρ
  | x :: xs, ρ => match f x ρ with
    | .nx ρ' => forLoop f xs ρ'
    | .cnt ρ' => forLoop f xs ρ'
    | .brk ρ' => .nx ρ'
    | r => r
def whlLoop (c : Env → Out Bool) (f : Env → Res) : Nat → Env → Res
  | 0, _ => .stuck
  | n + 1, ρ => match c ρ with
    | .ok true => (match f ρ with
      | .nx ρ' => whlLoop c f n ρ'
      | .cnt ρ' => whlLoop c f n ρ'
      | .brk ρ' => .nx ρ'
      | r => r)
    | .ok false => .nx ρ
    | .exc x => .exc x ρ
    | .stuck => .stuck
def Out.res {α : Type} (o : Out α) (ρ : Env) (f : α → Res) : Res := match o with
  | .ok a => f a
  | .exc c => .exc c ρ
  | .stuck => .stuck
def setR (ρ : Env) (i : Nat) (w : W) : Res := if i < ρ.length then .nx (ρ.set i (some w)) else .stuck
def retE (e : E) (r : Out W) (ρ : Env) : Out W := match e with
  | .var i => (match ρ[i]? with | some (some w) => .ok w | _ => .stuck)
  | _ => r
def pubE (ρ : Env) (i : Nat) : Env := match ρ[i]? with
  | some (some (.nl l)) => ρ.set i (some (.sh (.list l)))
  | some (some (.nd l)) => ρ.set i (some (.sh (toD l)))
  | _ => ρ
def ofD : List (PyData × PyData) → Option (List (List Int × PyData))
  | [] => some []
  | (k, d) :: r => match keyI k, ofD r with
    | some ns, some q => some ((ns, d) :: q)
    | _, _ => none
def catchR (c : Nat) (ρ : Env) : List (Nat × Const) → Res
  | [] => .exc c ρ
  | (h, d) :: r => if P.subs.contains (c, h) then (match constD d with | .ok w => .ret w | _ => .stuck) else catchR c ρ r
def tryK (hs : List (Nat × Const)) (r : Res) : Res := match r with
  | .exc c ρ => catchR P c ρ hs
  | r => r
def setJ (ρ : Env) (i : Nat) (d : PyData) (kv : Out PyData) (c : Env → Res) : Res := match ρ[i]? with
  | some (some (.nl l)) => kv.res ρ fun kd => match kd with
    | .int n => (match ixN l.length n with
      | some j => c (ρ.set i (some (.nl (l.set j d))))
      | none => .stuck)
    | _ => .stuck
  | _ => .stuck
variable (fu : Nat)
mutual
def evS : S → Env → Res
  | .asg i e, ρ => (evE P cl e ρ).res ρ fun w => setR ρ i w
  | .tasg is e, ρ => (bor e (evE P cl e ρ) ρ).res ρ fun d => match bindTg (.tp is) d ρ with
    | some ρ' => .nx ρ'
    | none => .stuck
  | .par i j a b, ρ => (evE P cl a ρ).res ρ fun w => w.share.res ρ fun d => (evE P cl b ρ).res ρ fun w' => w'.share.res ρ fun d' =>
      if i < ρ.length ∧ j < ρ.length then .nx ((ρ.set i (some (.sh d))).set j (some (.sh d'))) else .stuck
  | .aug i o e, ρ => (slotS ρ i).res ρ fun x => (bor e (evE P cl e ρ) ρ).res ρ fun y => (augD o x y).res ρ fun w => setR ρ i w
  | .ifs c a b, ρ => (evT P cl c ρ).res ρ fun t => if t then evBk a ρ else evBk b ρ
  | .for tg src b, ρ => if srcSh src ρ then (evI P cl src ρ).res ρ fun items => forLoop (fun x ρ' => match bindTg tg x ρ' with
      | some ρ2 => evBk b ρ2
      | none => .stuck) items ρ else .stuck
  | .whl c b, ρ => whlLoop (evT P cl c) (evBk b) fu ρ
  | .ret e, ρ => (retE e (evE P cl e ρ) ρ).res ρ fun w => .ret w
  | .retN, _ => .ret (.sh .none)
  | .ex e, ρ => (bor e (evE P cl e ρ) ρ).res ρ fun _ => .nx ρ
  | .app i e, ρ => match ρ[i]? with
    | some (some (.nl l)) => (evE P cl e ρ).res ρ fun w => w.share.res ρ fun d => if lenOk (l.length + 1) then .nx (ρ.set i (some (.nl (l ++ [d])))) else .stuck
    | _ => .stuck
  | .ins i e, ρ => match ρ[i]? with
    | some (some (.nl l)) => (evE P cl e ρ).res ρ fun w => w.share.res ρ fun d => if lenOk (l.length + 1) then .nx (ρ.set i (some (.nl (d :: l)))) else .stuck
    | _ => .stuck
  | .ext i e, ρ => match ρ[i]? with
    | some (some (.nl l)) => (evE P cl e ρ).res ρ fun w => match w with
      | .nl m => if lenOk (l.length + m.length) then .nx (ρ.set i (some (.nl (l ++ m)))) else .stuck
      | _ => .stuck
    | _ => .stuck
  | .sset i k e, ρ => match ρ[i]? with
    | some (some (.nl l)) => (evE P cl e ρ).res ρ fun w => w.share.res ρ fun d => (bor k (evE P cl k ρ) ρ).res ρ fun kd => match kd with
      | .int n => (match ixN l.length n with
        | some j => .nx (ρ.set i (some (.nl (l.set j d))))
        | none => .stuck)
      | _ => .stuck
    | _ => .stuck
  | .pop i, ρ => match ρ[i]? with
    | some (some (.nl l)) => if l.length = 0 then .stuck else .nx (ρ.set i (some (.nl l.dropLast)))
    | _ => .stuck
  | .swp i k1 k2 e, ρ => (evE P cl e ρ).res ρ fun w => w.share.res ρ fun d => match d with
    | .tuple [d1, d2] => setJ ρ i d1 (bor k1 (evE P cl k1 ρ) ρ) fun ρ1 => setJ ρ1 i d2 (bor k2 (evE P cl k2 ρ1) ρ1) .nx
    | _ => .stuck
  | .brk, ρ => .brk ρ
  | .cnt, ρ => .cnt ρ
  | .pass, ρ => .nx ρ
  | .never, _ => .stuck
  | .raise c, ρ => .exc c ρ
  | .tryR b hs, ρ => tryK P hs (evBk b ρ)
  | .dset i k e, ρ => match ρ[i]? with
    | some (some (.nd kvs)) => (evE P cl e ρ).res ρ fun w => w.share.res ρ fun d => (bor k (evE P cl k ρ) ρ).res ρ fun kd => (match keyI kd with
      | some ns => if lenOk (kvs.length + 1) then .nx (ρ.set i (some (.nd (putK kvs ns d)))) else .stuck
      | none => .stuck)
    | _ => .stuck
  | .mutS f i es, ρ => match ρ[i]? with
    | some (some (.nd kvs)) => (evEs P cl es ρ).res ρ fun ds => (cl f (toD kvs :: ds)).res ρ fun w => (match w with
      | .nd kvs' => .nx (ρ.set i (some (.nd kvs')))
      | _ => .stuck)
    | _ => .stuck
def evBk : B → Env → Res
  | .nil, ρ => .nx ρ
  | .cons s b, ρ => match evS s ρ with
    | .nx ρ' => evBk b ρ'
    | r => r
  | .pub i b, ρ => evBk b (pubE ρ i)
end
end
def runMut (P : Prg) (fu : Nat) (cl : Nat → List PyData → Out W) (d : DefIR) (l : List (PyData × PyData)) (r : List PyData) : Out W :=
  match ofD l, d.body with
  | some kvs, .cons (.dset 0 k e) .nil => (match evS P cl fu (.dset 0 k e) (some (.nd kvs) :: (r.map (fun d => some (.sh d)) ++ List.replicate (d.N.length - (r.length + 1)) none)) with
    | .nx (some (.nd kvs') :: _) => .ok (.nd kvs')
    | _ => .stuck)
  | _, _ => .stuck
def runDef (P : Prg) (fu : Nat) (cl : Nat → List PyData → Out W) (d : DefIR) (ds : List PyData) : Out W :=
  if ds.length = d.ps.length then
    if d.mu then (match ds with
      | .dict l :: r => runMut P fu cl d l r
      | _ => .stuck)
    else match evBk P cl fu d.body (ds.map (fun d => some (.sh d)) ++ List.replicate (d.N.length - ds.length) none) with
    | .ret r => .ok r
    | .nx _ => .ok (.sh .none)
    | .exc c _ => .exc c
    | _ => .stuck
  else .stuck
def callF (P : Prg) (fu : Nat) : Nat → Nat → List PyData → Out W
  | 0, _, _ => .stuck
  | k + 1, f, ds => match P.defs[f]? with
    | some d => runDef P fu (callF P fu k) d ds
    | none => .stuck
end Ev
namespace Ev
open PySem PySem.Spec
open PyProof.Rows L2
def Post (K : PySem.W.Frag) (M : Msk) (H : Hp) (o : Out W) (Q : VK) : Prop := match o with
  | .ok r => ∀ v H', Same H H' → DWr K M H H' r v → Q v H'
  | _ => False
def rB (K : PySem.W.Frag) (f : PyData → PyData → Out W) : R2 := fun x y H Q => ∃ M d e, (∀ a, M a → H a ≠ none) ∧ DB K M H x d ∧ DB K M H y e ∧ Post K M H (f d e) Q
def rB1 (K : PySem.W.Frag) (f : PyData → Out W) : V → Hp → VK → Prop := fun x H Q => ∃ M d, (∀ a, M a → H a ≠ none) ∧ DB K M H x d ∧ Post K M H (f d) Q
inductive DBs (K : PySem.W.Frag) (M : Msk) (H : Hp) : List V → List PyData → Prop
  | nil : DBs K M H [] []
  | cons {v : V} {vs : List V} {d : PyData} {ds : List PyData} : DB K M H v d → DBs K M H vs ds → DBs K M H (v :: vs) (d :: ds)
def rBs (K : PySem.W.Frag) (f : List PyData → Out W) : List V → Hp → VK → Prop := fun xs H Q => ∃ M ds, (∀ a, M a → H a ≠ none) ∧ DBs K M H xs ds ∧ Post K M H (f ds) Q
section
variable {K : PySem.W.Frag} {M : Msk} {H : Hp} {Q : VK}
theorem Post.int {i : Int} (h : Post K M H (okI i) Q) : Q (.int i) H := h _ _ (Same.refl H) (.int i)
theorem Post.bool {i : Bool} (h : Post K M H (okB i) Q) : Q (.bl i) H := h _ _ (Same.refl H) (.bl i)
theorem Post.str {x : Str} (h : Post K M H (.ok (.sh (.str x))) Q) : Q (.str x) H := h _ _ (Same.refl H) (.str x)
theorem Post.sh {d : PyData} {v : V} (h : Post K M H (.ok (.sh d)) Q) (hd : De K (msk M H) v d) : Q v H := h _ _ (Same.refl H) hd
theorem same_new {p : Addr} {o : HO} (h : H p = none) : Same H (upd H p o) := fun b x e => by rw [upd_ne (ne_of_none e h)]; exact e
theorem Post.newT {l : List PyData} {xs : List V} (hM : ∀ a, M a → H a ≠ none) (h : Post K M H (.ok (.sh (.tuple l))) Q) (hd : DeAll K (msk M H) xs l) : NewT H xs Q := fun p o hp ho =>
  h _ _ (same_new hp) (.tup (.inl ⟨o, ho, msk_some.mpr ⟨fun z => hM p z hp, upd_same⟩⟩) (DeAll.same (msk_ext (same_new hp)) _ _ hd))
theorem Post.newL {l : List PyData} {xs : List V} {p : Addr} (hM : ∀ a, M a → H a ≠ none) (h : Post K M H (.ok (.nl l)) Q) (hd : DeAll K (msk M H) xs l) (hp : H p = none) : Q (.ref p) (upd H p (.lst xs)) :=
  h _ _ (same_new hp) ⟨p, xs, rfl, hp, upd_same, DeAll.same (msk_mono fun b o n e => ⟨fun z => z.elim n fun q => (by rw [q, hp] at e; cases e), same_new hp b o e⟩) _ _ hd⟩
theorem post_if {o o' : Out W} {c : Prop} [Decidable c] (h : Post K M H o Q) (e : o = if c then o' else .stuck) : c ∧ Post K M H o' Q := by
  subst e
  by_cases hc : c
  · rw [if_pos hc] at h; exact ⟨hc, h⟩
  · rw [if_neg hc] at h; exact h.elim
theorem lenOk_le {n : Nat} (h : lenOk n = true) : n ≤ sizeLine := by
  have := of_decide_eq_true h
  rw [sizeLine_eq]; omega
end
section
variable {X : Cx}
theorem foldl_size (c : Array Nat) : ∀ (m : Nat) (b : Array Nat), ((List.replicate m c).foldl (· ++ ·) b).size = b.size + m * c.size
  | 0, b => by simp
  | m + 1, b => by
    rw [List.replicate_succ, List.foldl_cons, foldl_size c m, Array.size_append, Nat.succ_mul]
    omega
theorem op_sub_bb : OpR X (binaryOp .Sub) (fun x y H Q => ∃ i k, x = .bl i ∧ y = .bl k ∧ Q (.int (b2I i - b2I k)) H) := by
  intro pins s σ H x y v u Q I rx ry h
  obtain ⟨i, j, rfl, rfl, q⟩ := h
  cases rx
  cases ry
  exact sub_bool ⟨.int _, H, I.tok _, ⟨_, rfl⟩, q⟩
theorem tuple_mul1 (l : Addr) (items : Array Value) (n : Nat) (dd : Option Addr) (sl : Array (Option Value)) (u : Tok) (c1 : (items.isEmpty || (1 : Int) == 1) = true) :
    Meets (Builtin.«tuple.__mul__» ⟨[.ref l, .int 1 u], []⟩) (fun _ R s => s.heap.get? l = some { cls := .type "tuple", dict := dd, data := .seq items n, slots := sl } ∧
      R (.ok (.ret (Value.ref l))) s) :=
  .of_wp fun prog w A R s h => by
    obtain ⟨hp, g, d, tk, os⟩ := s
    obtain ⟨hl, h⟩ := h
    have f1 := AutoSeq1.idx_int
    wp_walk using wpAny_loadPart' hl
    repeat (first
      | (refine wpAny_ite_false (decide_eq_false (by decide)) ?_; wp_walk using wpAny_loadPart' hl)
      | (refine wpAny_ite_true (decide_eq_true c1) ?_; wp_walk using wpAny_loadPart' hl))
    exact ⟨_, rfl, h⟩
theorem op_repT1 : OpR X (binaryOp .Mult) (fun x y H Q => ∃ l xs, x = .ref l ∧ y = .int 1 ∧ SqT X.K H l xs ∧ Q (.ref l) H) := by
  intro pins s σ H x y v u Q I rx ry h
  obtain ⟨l, xs, rfl, rfl, hT, q⟩ := h
  cases rx
  obtain ⟨t, rfl⟩ := ry
  obtain ⟨its, r, ⟨⟨cls, dd, data, sl⟩, ho, hc, n, hd⟩, hs⟩ := I.tuple hT
  simp only at hc hd
  subst hc hd
  have c1 : (its.toArray.isEmpty || (1 : Int) == 1) = true := by rw [Bool.or_eq_true]; exact .inr rfl
  refine wpAny_binaryOp_repeat_ref (T := "tuple") (U := "int") (by decide) ⟨_, ho, rfl⟩ (fun s' => typeIs_int s' 1 t) noFill_tuple_mul F.fills_int_mul F.slot_int_rmul repeat_tuple F.slot_int_index.lookup
    (call_meets F.slot_int_rmul (typeIs_int s 1 t) F.entry_int_rmul (F.args_int_rmul_2 _ _) (int_rmul_tuple 1 t l its.toArray n dd sl)
      ⟨ho, rfl, ⟨_, ho, rfl⟩, call_meets F.slot_tuple_mul ⟨_, ho, rfl⟩ F.entry_tuple_mul (F.args_tuple_mul_2 _ _) (tuple_mul1 l its.toArray n dd sl t c1) ⟨ho, ?_⟩⟩)
  exact ⟨.ref l, _, I, rfl, q⟩
theorem deall_rep {K : PySem.W.Frag} {H : Hp} {xs : List V} {l : List PyData} (h : DeAll K H xs l) : ∀ k : Nat, DeAll K H (List.replicate k xs).flatten (List.replicate k l).flatten
  | 0 => .nil
  | k + 1 => by
    rw [List.replicate_succ, List.replicate_succ, List.flatten_cons, List.flatten_cons]
    exact deall_app h (deall_rep h k)
theorem op_mulS : OpR X (binaryOp .Mult) (fun x y H Q => ∃ a n, x = .str a ∧ y = .int n ∧ 0 ≤ n ∧ n ≤ 1000 ∧ a.length ≤ 1000 ∧ Q (.str (repS a n)) H) := by
  intro pins s σ H x y v u Q I rx ry h
  obtain ⟨a, n, rfl, rfl, h1, h2, h3, q⟩ := h
  obtain ⟨t, rfl⟩ := rx
  obtain ⟨t2, rfl⟩ := ry
  have hl : a.length * n.toNat ≤ 1000000 := Nat.mul_le_mul h3 (show n.toNat ≤ 1000 by omega)
  refine PySem.P.mul_str (by rw [decide_eq_false (by omega), decide_eq_false (by omega)]; rfl) (fun g1 _ => ?_) (fun _ _ => ?_) ?_
  · have : (1000 : Int) ≤ ((2 : Int) ^ 63 - 1) / n := Int.le_ediv_of_mul_le (by omega) (by omega)
    omega
  · have hz : a.length * n.toNat ≤ sizeLine := Nat.le_trans hl (by decide)
    exact decide_eq_false (by omega)
  · unfold repS at q
    split
    · rename_i c
      rw [if_pos c] at q
      exact ⟨by decide, .str _, H, I.tok _, ⟨_, rfl⟩, q⟩
    · rename_i c
      rw [if_neg c] at q
      split
      · rename_i c2
        rw [if_pos c2] at q
        exact ⟨.str _, H, I, ⟨_, rfl⟩, q⟩
      · rename_i c2
        rw [if_neg c2] at q
        have hz : (List.foldl (fun x1 x2 => x1 ++ x2) #[] (List.replicate n.toNat a.cps)).size ≤ sizeLine := by
          have := foldl_size a.cps n.toNat #[]
          rw [this]
          have e : n.toNat * a.cps.size = a.length * n.toNat := Nat.mul_comm _ _
          rw [e]
          have : (1000000 : Nat) ≤ sizeLine := by decide
          show 0 + _ ≤ _
          omega
        exact ⟨hz, .str _, H, I.tok _, ⟨_, rfl⟩, q⟩
theorem op_mulX : OpR X (binaryOp .Mult) (rI (fun i j => mulOk i j = true) fun i j => .int (i * j)) := opI fun i j _ _ _ _ _ hc q => by
  refine mul_int q ?_
  unfold mulOk at hc
  rw [Bool.or_eq_true, Bool.or_eq_true] at hc
  rcases hc with (h | h) | h
  · have := of_decide_eq_true h
    exact .of_left (intBits_le_64 (by omega) (by omega))
  · have := of_decide_eq_true h
    exact .of_right (intBits_le_64 (by omega) (by omega))
  · have h2 : i.natAbs.log2 + j.natAbs.log2 < 1000000 := of_decide_eq_true h
    exact CMulW.ok h2
theorem op_fdivX : OpR X (binaryOp .FloorDiv) (rI (fun i j => divOk i j = true) fun i j => .int (i.fdiv j)) := opI fun i j _ _ _ _ _ hc q => by
  unfold divOk at hc
  rw [Bool.and_eq_true] at hc
  exact floordiv_int (of_decide_eq_true hc.1) q (.inl (by simpa using hc.2))
theorem op_ok (o : BOp) : OpR X (binaryOp (match o with
    | .add => .Add | .sub => .Sub | .mul => .Mult | .fdiv => .FloorDiv | .mod => .Mod | .pow => .Pow | .shl => .LShift | .band => .BitAnd)) (rB X.K (opD o)) := by
  intro pins s σ H x y v u Q I rx ry h
  obtain ⟨M, d, e, hM, hd, he, post⟩ := h
  cases o with
  | add =>
    cases d with
    | int a =>
      obtain rfl := hd.int
      cases e with
      | int b =>
        obtain rfl := he.int
        exact op_add pins s σ H _ _ v u Q I rx ry ⟨a, b, rfl, rfl, Post.int post⟩
      | bool b =>
        obtain rfl := he.bool
        exact op_add_ib pins s σ H _ _ v u Q I rx ry ⟨a, b, rfl, rfl, Post.int post⟩
      | _ => exact post.elim
    | str a =>
      obtain rfl := hd.str
      cases e with
      | str b =>
        obtain rfl := he.str
        obtain ⟨hl, post⟩ := post_if post rfl
        exact op_add_str pins s σ H _ _ v u Q I rx ry ⟨a, b, rfl, rfl, lenOk_le hl, Post.str post⟩
      | _ => exact post.elim
    | tuple a =>
      cases e with
      | tuple b =>
        obtain ⟨hl, post⟩ := post_if post rfl
        obtain ⟨p, xs, rfl, t1, t2, t3⟩ := hd.tuple
        obtain ⟨q, ys, rfl, s1, s2, s3⟩ := he.tuple
        have l1 := deall_len t3
        have l2 := deall_len s3
        refine op_catF pins s σ H _ _ v u Q I rx ry ⟨p, q, xs, ys, rfl, rfl, t1, s1, by have := lenOk_le hl; omega, fun z => ?_, fun _ z => ?_, fun _ _ => ?_⟩
        · subst z
          cases t3
          exact Post.sh post (.tup s2 s3)
        · subst z
          cases s3
          rw [List.append_nil] at post
          exact Post.sh post (.tup t2 t3)
        · exact Post.newT hM post (deall_app t3 s3)
      | _ => exact post.elim
    | _ => cases e <;> exact post.elim
  | sub =>
    cases d with
    | int a =>
      obtain rfl := hd.int
      cases e with
      | int b =>
        obtain rfl := he.int
        exact op_sub pins s σ H _ _ v u Q I rx ry ⟨a, b, rfl, rfl, Post.int post⟩
      | _ => exact post.elim
    | bool a =>
      obtain rfl := hd.bool
      cases e with
      | bool b =>
        obtain rfl := he.bool
        exact op_sub_bb pins s σ H _ _ v u Q I rx ry ⟨a, b, rfl, rfl, Post.int post⟩
      | _ => exact post.elim
    | _ => cases e <;> exact post.elim
  | mul =>
    cases d with
    | int a =>
      obtain rfl := hd.int
      cases e with
      | int b =>
        obtain rfl := he.int
        obtain ⟨hl, post⟩ := post_if post rfl
        exact op_mulX pins s σ H _ _ v u Q I rx ry ⟨a, b, rfl, rfl, hl, Post.int post⟩
      | _ => exact post.elim
    | str a =>
      obtain rfl := hd.str
      cases e with
      | int b =>
        obtain rfl := he.int
        obtain ⟨hl, post⟩ := post_if post rfl
        exact op_mulS pins s σ H _ _ v u Q I rx ry ⟨a, b, rfl, rfl, hl.1, hl.2.1, hl.2.2, Post.str post⟩
      | _ => exact post.elim
    | tuple a =>
      cases e with
      | int b =>
        obtain rfl := he.int
        obtain ⟨hl, post⟩ := post_if post rfl
        obtain ⟨p, xs, rfl, t1, t2, t3⟩ := hd.tuple
        rw [Bool.and_eq_true, Bool.and_eq_true, Bool.and_eq_true] at hl
        have l1 := of_decide_eq_true hl.1.1.1
        have l2 := of_decide_eq_true hl.1.1.2
        have l3 := of_decide_eq_true hl.1.2
        have l4 := of_decide_eq_true hl.2
        have l5 := deall_len t3
        by_cases hb : b = 1
        · subst hb
          rw [show (List.replicate (1 : Int).toNat a).flatten = a from by show a ++ [] = a; exact List.append_nil a] at post
          exact op_repT1 pins s σ H _ _ v u Q I rx ry ⟨p, xs, rfl, rfl, t1, Post.sh post (.tup t2 t3)⟩
        · exact op_repF pins s σ H _ _ v u Q I rx ry ⟨p, b, xs, rfl, rfl, t1, fun z => by rw [z] at l5; simp at l5; omega, by omega, l3, by omega, Post.newT hM post (deall_rep t3 b.toNat)⟩
      | _ => exact post.elim
    | _ => cases e <;> exact post.elim
  | fdiv =>
    cases d with
    | int a =>
      obtain rfl := hd.int
      cases e with
      | int b =>
        obtain rfl := he.int
        obtain ⟨hl, post⟩ := post_if post rfl
        exact op_fdivX pins s σ H _ _ v u Q I rx ry ⟨a, b, rfl, rfl, hl, Post.int post⟩
      | _ => exact post.elim
    | _ => cases e <;> exact post.elim
  | mod =>
    cases d with
    | int a =>
      obtain rfl := hd.int
      cases e with
      | int b =>
        obtain rfl := he.int
        obtain ⟨hl, post⟩ := post_if post rfl
        exact op_modN pins s σ H _ _ v u Q I rx ry ⟨a, b, rfl, rfl, hl, Post.int post⟩
      | _ => exact post.elim
    | _ => cases e <;> exact post.elim
  | pow =>
    cases d with
    | int a =>
      obtain rfl := hd.int
      cases e with
      | int b =>
        obtain rfl := he.int
        obtain ⟨hl, post⟩ := post_if post rfl
        exact op_pow pins s σ H _ _ v u Q I rx ry ⟨a, b, rfl, rfl, hl, Post.int post⟩
      | _ => exact post.elim
    | _ => cases e <;> exact post.elim
  | shl =>
    cases d with
    | int a =>
      obtain rfl := hd.int
      cases e with
      | int b =>
        obtain rfl := he.int
        obtain ⟨hl, post⟩ := post_if post rfl
        exact op_shl pins s σ H _ _ v u Q I rx ry ⟨a, b, rfl, rfl, hl, Post.int post⟩
      | _ => exact post.elim
    | _ => cases e <;> exact post.elim
  | band =>
    cases d with
    | int a =>
      obtain rfl := hd.int
      cases e with
      | int b =>
        obtain rfl := he.int
        exact op_and pins s σ H _ _ v u Q I rx ry ⟨a, b, rfl, rfl, Post.int post⟩
      | _ => exact post.elim
    | _ => cases e <;> exact post.elim
end
end Ev
namespace Ev
open PySem PySem.Spec
open PyProof.Rows L2
theorem is_bool_any {M : Model} {A : Around} {E : Value → Shared → Prop} {s : Shared} {Q : Value → Shared → Prop} {x : V} {v : Value} {b : Bool} (r : L2.RelV x v) (h : Q (.bool (v == .bool b)) s) : wpAny M A (compareOp .Is v (.bool b)) Q E s := by
  cases x with
  | int _ => obtain ⟨t, rfl⟩ := r; exact wpAny_pure h
  | str _ => obtain ⟨t, rfl⟩ := r; exact wpAny_pure h
  | byt _ => obtain ⟨t, rfl⟩ := r; exact wpAny_pure h
  | flt _ => obtain ⟨t, rfl⟩ := r; exact wpAny_pure h
  | _ => cases r; exact wpAny_pure h
theorem isnt_bool_any {M : Model} {A : Around} {E : Value → Shared → Prop} {s : Shared} {Q : Value → Shared → Prop} {x : V} {v : Value} {b : Bool} (r : L2.RelV x v) (h : Q (.bool (!(v == .bool b))) s) : wpAny M A (compareOp .IsNot v (.bool b)) Q E s := by
  cases x with
  | int _ => obtain ⟨t, rfl⟩ := r; exact wpAny_pure h
  | str _ => obtain ⟨t, rfl⟩ := r; exact wpAny_pure h
  | byt _ => obtain ⟨t, rfl⟩ := r; exact wpAny_pure h
  | flt _ => obtain ⟨t, rfl⟩ := r; exact wpAny_pure h
  | _ => cases r; exact wpAny_pure h
theorem rel_isB {K : PySem.W.Frag} {M : Msk} {H : Hp} {x : V} {v : Value} {d : PyData} {b : Bool} (hd : DB K M H x d) (r : L2.RelV x v) : (v == Value.bool b) = isD d (.bool b) := by
  cases d with
  | none => obtain rfl := hd.none; cases r; rfl
  | bool c => obtain rfl := hd.bool; cases r; cases c <;> cases b <;> rfl
  | int i => obtain rfl := hd.int; obtain ⟨t, rfl⟩ := r; rfl
  | str i => obtain rfl := hd.str; obtain ⟨t, rfl⟩ := r; rfl
  | list l => obtain ⟨a, xs, rfl, _⟩ := hd.list; cases r; rfl
  | tuple l => obtain ⟨a, xs, rfl, _⟩ := hd.tuple; cases r; rfl
  | dict l => obtain ⟨a, _, rfl, _⟩ := hd.dict; cases r; rfl
theorem rel_isN {K : PySem.W.Frag} {M : Msk} {H : Hp} {x : V} {d : PyData} (hd : DB K M H x d) : decide (x = .non) = isD d .none := by
  cases d with
  | none => obtain rfl := hd.none; rfl
  | bool c => obtain rfl := hd.bool; rfl
  | int i => obtain rfl := hd.int; rfl
  | str i => obtain rfl := hd.str; rfl
  | list l => obtain ⟨a, xs, rfl, _⟩ := hd.list; rfl
  | tuple l => obtain ⟨a, xs, rfl, _⟩ := hd.tuple; rfl
  | dict l => obtain ⟨a, _, rfl, _⟩ := hd.dict; rfl
theorem intsOf_eq : ∀ {l : List PyData} {ns : List Int}, intsOf l = some ns → l = ns.map .int
  | [], ns, h => by cases h; rfl
  | .int i :: r, ns, h => by
    unfold intsOf at h
    cases e : intsOf r with
    | none => rw [e] at h; cases h
    | some q => rw [e] at h; cases h; rw [intsOf_eq e]; rfl
  | .none :: r, ns, h => by cases h
  | .bool _ :: r, ns, h => by cases h
  | .str _ :: r, ns, h => by cases h
  | .list _ :: r, ns, h => by cases h
  | .tuple _ :: r, ns, h => by cases h
  | .dict _ :: r, ns, h => by cases h
theorem boolsOf_eq : ∀ {l : List PyData} {ns : List Bool}, boolsOf l = some ns → l = ns.map .bool
  | [], ns, h => by cases h; rfl
  | .bool i :: r, ns, h => by
    unfold boolsOf at h
    cases e : boolsOf r with
    | none => rw [e] at h; cases h
    | some q => rw [e] at h; cases h; rw [boolsOf_eq e]; rfl
  | .none :: r, ns, h => by cases h
  | .int _ :: r, ns, h => by cases h
  | .str _ :: r, ns, h => by cases h
  | .list _ :: r, ns, h => by cases h
  | .tuple _ :: r, ns, h => by cases h
  | .dict _ :: r, ns, h => by cases h
theorem sub_tuple_dict' : isSubtype (.type "tuple") (.type "dict") = pure false := by rw [isSubtype_type]; kernel_rfl
theorem sub_dict_tuple' : isSubtype (.type "dict") (.type "tuple") = pure false := by rw [isSubtype_type]; kernel_rfl
section
variable {prog : Program} {w : World} {A : Around} {E : Value → Shared → Prop} {s : Shared}
theorem dict_eq_declines {d t : Addr} {od ot : Obj} {Q : Value → Shared → Prop} (hd : s.heap.get? d = some od) (hdc : od.cls = .type "dict") (ht : s.heap.get? t = some ot) (htc : ot.cls = .type "tuple") (h : Q .notImplemented s) :
    wpAny (model prog w) A (call (.builtin "dict.__eq__") [.ref d, .ref t]) Q E s := by
  have dt : s.TypeIs (.ref d) "dict" := ⟨_, hd, hdc⟩
  have tt : s.TypeIs (.ref t) "tuple" := ⟨_, ht, htc⟩
  refine wpAny_call_entry PySem.F.slot_dict_eq dt PySem.F.entry_dict_eq ?_ (PySem.F.args_dict_eq_2 _ _)
  show wpAny _ _ (Builtin.Dict.dictSlotArgs "__eq__" ⟨[.ref d, .ref t], []⟩ >>= _) _ _ s
  refine wpAny_bind ?_
  unfold Builtin.Dict.dictSlotArgs
  refine wpAny_bind (wpAny_notOrdered_dict dt ?_)
  show wpAny _ _ (pure (Value.ref d, Value.ref t)) _ _ s
  refine wpAny_pure ?_
  refine wpAny_bind (wpAny_isInstance (T := "tuple") tt sub_tuple_dict' ?_)
  simp only [Bool.not_false, if_true]
  refine wpAny_bind (wpAny_rule ?_)
  exact wpAny_pure ⟨_, rfl, h⟩
theorem tuple_eq_declines_d (l b : Addr) (items : Array Value) (n : Nat) (dd : Option Addr) (sl : Array (Option Value)) :
    Meets (Builtin.«tuple.__eq__» ⟨[.ref l, .ref b], []⟩) (fun _ R s => s.heap.get? l = some { cls := .type "tuple", dict := dd, data := .seq items n, slots := sl } ∧ (∃ ob, s.heap.get? b = some ob ∧ ob.cls = .type "dict") ∧ R (.ok (.ret .notImplemented)) s) :=
  .of_wp fun prog w A R s h => by
    obtain ⟨hp, g, d, tk, os⟩ := s
    obtain ⟨hl, ⟨⟨cls, dd2, data, sl2⟩, hb, hc⟩, h⟩ := h
    simp only at hc
    subst hc
    have f1 := sub_dict_tuple'
    wp_walk using SeqAt.AutoSeq1.wpAny_loadPart' hl
    exact ⟨_, rfl, h⟩
theorem rc_dict_tuple {d b : Addr} {od : Obj} {items : Array Value} {n : Nat} {dd : Option Addr} {sl : Array (Option Value)} {Q : Value → Shared → Prop} (hd : s.heap.get? d = some od) (hdc : od.cls = .type "dict") (hb : s.heap.get? b = some { cls := .type "tuple", dict := dd, data := .seq items n, slots := sl }) (hu : A.units < cLine) (h : Q (.bool false) s) :
    wpAny (model prog w) A (richCompare .Eq (.ref d) (.ref b)) Q E s := by
  have ne : d ≠ b := fun e => by subst e; rw [hd] at hb; rw [Option.some.inj hb] at hdc; exact absurd hdc (by simp)
  exact SeqAt.rc_eq_decline_or (k := false) ⟨_, hd, hdc⟩ ⟨_, hb, rfl⟩ (by decide) sub_tuple_dict' PySem.F.slot_dict_eq PySem.F.slot_tuple_eq_refl
    (fun _ hq => dict_eq_declines hd hdc hb rfl hq)
    (fun _ hq => call_meets PySem.F.slot_tuple_eq_refl ⟨_, hb, rfl⟩ PySem.F.entry_tuple_eq (PySem.F.args_tuple_eq_2 _ _) (tuple_eq_declines_d b d items n dd sl) ⟨hb, ⟨_, hd, hdc⟩, hq⟩)
    (fun _ hq => wpAny_isSame_ref_other ne hd hb (by rw [hdc]; simp) hq) (.inr hu) h
end
section
variable {X : Cx}
theorem op_eqDT (hu : X.A.units < cLine) : OpR X (compareOp .Eq) (fun x y H Q => ∃ a b zs ys, x = .ref a ∧ y = .ref b ∧ H a = some (DX a zs) ∧ SqT X.K H b ys ∧ Q (.bl false) H) := by
  intro pins s σ H x y v u Q I rx ry h
  obtain ⟨a, b, zs, ys, rfl, rfl, ea, eb, q⟩ := h
  obtain rfl : v = Value.ref a := rx
  obtain rfl : u = Value.ref b := ry
  obtain ⟨⟨oa, h1, h2⟩, _⟩ := isDX_at I ea
  obtain ⟨its, _, tb, _⟩ := I.tuple eb
  obtain ⟨⟨cls, dd, data, sl⟩, h3, h4, n, h5⟩ := tb
  simp only at h4 h5
  subst h4 h5
  exact rc_dict_tuple h1 h2 h3 hu ⟨.bl false, H, I, rfl, q⟩
end
theorem intsOf_map : ∀ ns : List Int, intsOf (ns.map .int) = some ns
  | [] => rfl
  | n :: ns => by
    show (intsOf (ns.map .int)).map (n :: ·) = _
    rw [intsOf_map ns]; rfl
theorem keyB_map (ms ns : List Int) (d : PyData) : keyB ns (.tuple (ms.map .int), d) = decide (ms = ns) := by
  show (match intsOf (ms.map .int) with | some m => decide (m = ns) | none => false) = _
  rw [intsOf_map]
theorem kv_val {K : PySem.W.Frag} {H : Hp} {ns : List Int} : ∀ {xs : DXs} {l : List (PyData × PyData)}, DeKv K H xs l → match valX xs ns, kvGet l ns with | none, none => True | some p, some d => De K H p.2 d | _, _ => False
  | _, _, .nil => trivial
  | _, _, @DeKv.cons _ _ ms b v xs d l h1 h2 h3 => by
    unfold valX kvGet
    rw [List.find?_cons, List.find?_cons, keyB_map]
    by_cases e : ms = ns
    · rw [decide_eq_true e]
      exact h2
    · rw [decide_eq_false e]
      exact kv_val h3
theorem kv_some {K : PySem.W.Frag} {H : Hp} {ns : List Int} {xs : DXs} {l : List (PyData × PyData)} {d : PyData} (h : DeKv K H xs l) (e : kvGet l ns = some d) : ∃ p, valX xs ns = some p ∧ De K H p.2 d := by
  have q := kv_val (ns := ns) h
  rw [e] at q
  cases ev : valX xs ns with
  | none => rw [ev] at q; exact q.elim
  | some p => rw [ev] at q; exact ⟨p, rfl, q⟩
theorem kv_none {K : PySem.W.Frag} {H : Hp} {ns : List Int} {xs : DXs} {l : List (PyData × PyData)} (h : DeKv K H xs l) (e : kvGet l ns = none) : valX xs ns = none := by
  have q := kv_val (ns := ns) h
  rw [e] at q
  cases ev : valX xs ns with
  | none => rfl
  | some p => rw [ev] at q; exact q.elim
theorem kv_is {K : PySem.W.Frag} {H : Hp} {ns : List Int} {xs : DXs} {l : List (PyData × PyData)} (h : DeKv K H xs l) : (valX xs ns).isSome = (kvGet l ns).isSome := by
  cases e : kvGet l ns with
  | none => rw [kv_none h e]; rfl
  | some d => obtain ⟨p, q, _⟩ := kv_some h e; rw [q]; rfl
theorem keyI_eq {d : PyData} {ns : List Int} (h : keyI d = some ns) : d = .tuple (ns.map .int) := by
  cases d with
  | tuple l => rw [intsOf_eq (show intsOf l = some ns from h)]
  | _ => cases h
theorem key_db {K : PySem.W.Frag} {M : Msk} {H : Hp} {v : V} {d : PyData} {ns : List Int} (h : DB K M H v d) (e : keyI d = some ns) : ∃ b, v = .ref b ∧ SqT K H b (ns.map V.int) ∧ SqD K (msk M H) b (ns.map V.int) := by
  rw [keyI_eq e] at h
  obtain ⟨b, ys, rfl, h1, h2, h3⟩ := h.tuple
  rw [deall_ints h3] at h1 h2
  exact ⟨b, rfl, h1, h2⟩
theorem DeKv.keysD {K : PySem.W.Frag} {H : Hp} : ∀ {xs : DXs} {kvs : List (PyData × PyData)}, DeKv K H xs kvs → ∀ x ∈ xs, SqD K H x.2.1 (x.1.map V.int)
  | _, _, .nil => fun x hx => nomatch hx
  | _, _, .cons h1 h2 h3 => fun x hx => by
    rcases List.mem_cons.mp hx with e | hx
    · rw [e]; exact h1
    · exact DeKv.keysD h3 x hx
theorem DeKv.full {K : PySem.W.Frag} {M : Msk} {H : Hp} {xs : DXs} {l : List (PyData × PyData)} (h : DeKv K (msk M H) xs l) : KeysOk K H xs := (h.same msk_same).keys
section
variable {X : Cx}
abbrev copOf : COp → CmpOp
  | .eq => .Eq | .ne => .NotEq | .lt => .Lt | .le => .LtE | .gt => .Gt | .ge => .GtE | .is => .Is | .isnt => .IsNot | .inn => .In | .notin => .NotIn
theorem strs_de {K : PySem.W.Frag} {H : Hp} : ∀ {l : List PyData} {ys : List V} {xs : List Str}, DeAll K H ys l → strsL l = some xs → ys = xs.map V.str ∧ (xs.map V.str).all flatV = true
  | [], _, _, .nil, e => by cases e; exact ⟨rfl, rfl⟩
  | .str x :: r, _, xs, .cons h t, e => by
    have e : (strsL r).map (x :: ·) = some xs := e
    cases er : strsL r with
    | none => rw [er] at e; cases e
    | some rs =>
      rw [er] at e
      cases e
      obtain ⟨g1, g2⟩ := strs_de t er
      cases h
      exact ⟨by rw [g1]; rfl, by rw [List.map_cons, List.all_cons, g2]; rfl⟩
  | .none :: _, _, _, _, e => by cases e
  | .bool _ :: _, _, _, _, e => by cases e
  | .int _ :: _, _, _, _, e => by cases e
  | .list _ :: _, _, _, _, e => by cases e
  | .tuple _ :: _, _, _, _, e => by cases e
  | .dict _ :: _, _, _, _, e => by cases e
theorem cop_ok (hu : X.A.units + 65 < cLine) (o : COp) : OpR X (compareOp (copOf o)) (rB X.K (cmpD o)) := by
  intro pins s σ H x y v u Q I rx ry h
  obtain ⟨M, d, e, hM, hd, he, post⟩ := h
  have h0 : X.A.units < cLine := by omega
  cases o with
  | eq =>
    by_cases hdt : (∃ k l, d = .dict k ∧ e = .tuple l)
    · obtain ⟨kk, l, rfl, rfl⟩ := hdt
      obtain ⟨a, zs, rfl, ha, _⟩ := hd.dict
      obtain ⟨b, xs, rfl, hb, _⟩ := he.tuple
      exact op_eqDT h0 pins s σ H _ _ v u Q I rx ry ⟨a, b, zs, xs, rfl, rfl, ha, hb, Post.bool (show Post X.K M H (okB false) Q from post)⟩
    have key : cmpD .eq d e = if shapedD d && noD d && (shapedD e && noD e) then okB (PyData.eqv d e) else .stuck := by
      cases d with
      | dict kv =>
        cases e with
        | tuple l => exact absurd ⟨kv, l, rfl, rfl⟩ hdt
        | _ => rfl
      | _ => rfl
    have post : Post X.K M H (if shapedD d && noD d && (shapedD e && noD e) then okB (PyData.eqv d e) else .stuck) Q := by rw [← key]; exact post
    obtain ⟨hl, post⟩ := post_if post rfl
    rw [Bool.and_eq_true, Bool.and_eq_true, Bool.and_eq_true] at hl
    exact op_eqD (by omega) pins s σ H _ _ v u Q I rx ry ⟨d, e, De.dp _ _ hl.1.2 hd.full, De.dp _ _ hl.2.2 he.full, hl.1.1, hl.2.1, Post.bool post⟩
  | ne =>
    obtain ⟨hl, post⟩ := post_if post rfl
    rw [Bool.and_eq_true, Bool.and_eq_true, Bool.and_eq_true] at hl
    exact op_neD (by omega) pins s σ H _ _ v u Q I rx ry ⟨d, e, De.dp _ _ hl.1.2 hd.full, De.dp _ _ hl.2.2 he.full, hl.1.1, hl.2.1, Post.bool post⟩
  | lt =>
    cases d with
    | int a =>
      obtain rfl := hd.int
      cases e with
      | int b =>
        obtain rfl := he.int
        exact op_lt pins s σ H _ _ v u Q I rx ry ⟨a, b, rfl, rfl, Post.bool post⟩
      | _ => exact post.elim
    | tuple a =>
      cases e with
      | tuple b =>
        have post : Post X.K M H (match intsOf a, intsOf b with | some x, some y => okB (HT.lexLt x y) | _, _ => .stuck) Q := post
        split at post
        · rename_i ns ms ea eb
          obtain ⟨p, xs, rfl, t1, t2, t3⟩ := hd.tuple
          obtain ⟨q, ys, rfl, s1, s2, s3⟩ := he.tuple
          rw [intsOf_eq ea] at t3
          rw [intsOf_eq eb] at s3
          rw [deall_ints t3] at t1
          rw [deall_ints s3] at s1
          exact op_ltT h0 pins s σ H _ _ v u Q I rx ry ⟨p, q, ns, ms, rfl, rfl, t1, s1, Post.bool post⟩
        · exact post.elim
      | _ => exact post.elim
    | _ => cases e <;> exact post.elim
  | le =>
    cases d with
    | int a =>
      obtain rfl := hd.int
      cases e with
      | int b =>
        obtain rfl := he.int
        exact op_le pins s σ H _ _ v u Q I rx ry ⟨a, b, rfl, rfl, Post.bool post⟩
      | _ => exact post.elim
    | _ => cases e <;> exact post.elim
  | gt =>
    cases d with
    | int a =>
      obtain rfl := hd.int
      cases e with
      | int b =>
        obtain rfl := he.int
        exact op_gt pins s σ H _ _ v u Q I rx ry ⟨a, b, rfl, rfl, Post.bool post⟩
      | _ => exact post.elim
    | _ => cases e <;> exact post.elim
  | ge =>
    cases d with
    | int a =>
      obtain rfl := hd.int
      cases e with
      | int b =>
        obtain rfl := he.int
        exact op_ge pins s σ H _ _ v u Q I rx ry ⟨a, b, rfl, rfl, Post.bool post⟩
      | _ => exact post.elim
    | _ => cases e <;> exact post.elim
  | is =>
    cases e with
    | none =>
      obtain rfl := he.none
      exact op_isN pins s σ H _ _ v u Q I rx ry ⟨rfl, by rw [rel_isN hd]; exact Post.bool post⟩
    | bool b =>
      obtain rfl := he.bool
      cases (show u = Value.bool b from ry)
      have p2 : Post X.K M H (okB (isD d (.bool b))) Q := post
      exact is_bool_any rx ⟨.bl _, H, I, by rw [rel_isB hd rx]; rfl, Post.bool p2⟩
    | _ => cases d <;> exact post.elim
  | isnt =>
    cases e with
    | none =>
      obtain rfl := he.none
      exact op_notN pins s σ H _ _ v u Q I rx ry ⟨rfl, by rw [rel_isN hd]; exact Post.bool post⟩
    | bool b =>
      obtain rfl := he.bool
      cases (show u = Value.bool b from ry)
      have p2 : Post X.K M H (okB (!isD d (.bool b))) Q := post
      exact isnt_bool_any rx ⟨.bl _, H, I, by rw [rel_isB hd rx]; rfl, Post.bool p2⟩
    | _ => cases d <;> exact post.elim
  | inn =>
    cases e with
    | str b =>
      cases d with
      | str a =>
        obtain rfl := hd.str
        obtain rfl := he.str
        exact op_in_str pins s σ H _ _ v u Q I rx ry ⟨a, b, rfl, rfl, Post.bool post⟩
      | _ => exact post.elim
    | list l =>
      have post : Post X.K M H (if shapedD d && noD d && (shapedD (.list l) && noD (.list l)) then okB (l.any fun z => PyData.eqv z d) else .stuck) Q := by cases d <;> exact post
      obtain ⟨hl, post⟩ := post_if post rfl
      rw [Bool.and_eq_true, Bool.and_eq_true, Bool.and_eq_true] at hl
      exact op_inD hu pins s σ H _ _ v u Q I rx ry ⟨d, l, De.dp _ _ hl.1.2 hd.full, De.dp _ _ hl.2.2 he.full, hl.1.1, hl.2.1, Post.bool post⟩
    | dict l =>
      have post : Post X.K M H (match keyI d with | some ns => okB (kvGet l ns).isSome | none => .stuck) Q := by cases d <;> exact post
      cases ek : keyI d with
      | none => rw [ek] at post; exact post.elim
      | some ns =>
        rw [ek] at post
        obtain ⟨b, rfl, hb, _⟩ := key_db hd ek
        obtain ⟨a, xs, rfl, ha, hk⟩ := he.dict
        obtain rfl : v = Value.ref b := rx
        obtain rfl : u = Value.ref a := ry
        exact dx_in (by omega) I ha hk.full hb fun s' I' => ⟨.bl (valX xs ns).isSome, H, I', rfl, by rw [kv_is hk]; exact Post.bool post⟩
    | _ => cases d <;> exact post.elim
  | notin =>
    cases e with
    | str b =>
      cases d with
      | str a =>
        obtain rfl := hd.str
        obtain rfl := he.str
        exact op_notin_str pins s σ H _ _ v u Q I rx ry ⟨a, b, rfl, rfl, Post.bool post⟩
      | _ => exact post.elim
    | list l =>
      have post : Post X.K M H (if shapedD d && noD d && (shapedD (.list l) && noD (.list l)) then okB (!l.any fun z => PyData.eqv z d) else .stuck) Q := by cases d <;> exact post
      obtain ⟨hl, post⟩ := post_if post rfl
      rw [Bool.and_eq_true, Bool.and_eq_true, Bool.and_eq_true] at hl
      exact op_notInD hu pins s σ H _ _ v u Q I rx ry ⟨d, l, De.dp _ _ hl.1.2 hd.full, De.dp _ _ hl.2.2 he.full, hl.1.1, hl.2.1, Post.bool post⟩
    | tuple l =>
      cases d with
      | str a =>
        have post : Post X.K M H (match strsL l with | some xs => okB (!xs.any (· == a)) | none => .stuck) Q := post
        cases es : strsL l with
        | none => rw [es] at post; exact post.elim
        | some xs =>
          rw [es] at post
          obtain rfl := hd.str
          obtain ⟨b, ys, rfl, t1, _, t3⟩ := he.tuple
          obtain ⟨g1, g2⟩ := strs_de t3 es
          subst g1
          refine op_notIn_seq pins s σ H _ _ v u Q I rx ry ⟨b, _, rfl, .inr t1, rfl, g2, ?_⟩
          have e : inV (V.str a) (xs.map V.str) = xs.any (· == a) := by
            unfold inV
            rw [List.any_map]
            rfl
          show Q (.bl (!inV (V.str a) (xs.map V.str))) H
          rw [e]
          exact Post.bool post
      | _ => exact post.elim
    | _ => cases d <;> exact post.elim
theorem neg_ok : UnR X (unaryOp .USub) (rB1 X.K negD) := by
  intro pins s σ H x v Q I rx h
  obtain ⟨M, d, hM, hd, post⟩ := h
  cases d with
  | int a =>
    obtain rfl := hd.int
    exact un_neg pins s σ H _ v Q I rx ⟨a, rfl, Post.int post⟩
  | _ => exact post.elim
def rTr (K : PySem.W.Frag) : V → Hp → (Bool → Hp → Prop) → Prop := fun x H Q => ∃ M d, DB K M H x d ∧ match truth d with | .ok b => Q b H | _ => False
theorem tru_of {K : PySem.W.Frag} {M : Msk} {H : Hp} {x : V} {d : PyData} {b : Bool} (hd : DB K M H x d) (h : truth d = .ok b) : TruV K x H b := by
  cases d with
  | none => obtain rfl := hd.none; cases h; rfl
  | bool c => obtain rfl := hd.bool; cases h; rfl
  | int i => obtain rfl := hd.int; cases h; rfl
  | str z =>
    obtain rfl := hd.str
    have h : (if lenOk z.length = true then Out.ok ((z.length : Int) != 0) else .stuck) = .ok b := h
    by_cases hc : lenOk z.length = true
    · rw [if_pos hc] at h; cases h
      exact ⟨lenOk_le hc, rfl⟩
    · rw [if_neg hc] at h; cases h
  | list l =>
    obtain ⟨a, xs, rfl, t1, t3⟩ := hd.list
    cases h
    exact .inl ⟨xs, t1, by cases t3 <;> rfl⟩
  | tuple l =>
    obtain ⟨a, xs, rfl, t1, t2, t3⟩ := hd.tuple
    cases h
    exact .inr (.inl ⟨xs, t1, by cases t3 <;> rfl⟩)
  | dict l => cases h
theorem deall_at {K : PySem.W.Frag} {H : Hp} {vs : List V} {ds : List PyData} {i : Int} {d : PyData} (h : DeAll K H vs ds) (e : atI ds i = some d) : ∃ v, atI vs i = some v ∧ De K H v d := by
  unfold atI at e ⊢
  rw [deall_len h]
  cases q : ixN ds.length i with
  | none => rw [q] at e; cases e
  | some j =>
    rw [q] at e
    exact deall_get h e
theorem ix_ok (hu : X.A.units + 1 < cLine) : IxR X (rB X.K ixD) := by
  intro value slice pins s σ H x y v u Q I rx ry h hs
  obtain ⟨M, d, e, hM, hd, he, post⟩ := h
  cases d with
  | list l =>
    obtain ⟨a, xs, rfl, t1, t3⟩ := hd.list
    cases e with
    | int i =>
      obtain rfl := he.int
      have post : Post X.K M H (match atI l i with | some d => .ok (.sh d) | none => .stuck) Q := post
      split at post
      · rename_i d' ea
        obtain ⟨w, h1, h2⟩ := deall_at t3 ea
        exact ix_list value slice pins s σ H _ _ v u Q I rx ry ⟨a, xs, i, w, rfl, rfl, t1, h1, Post.sh post h2⟩ hs
      · exact post.elim
    | _ => exact post.elim
  | tuple l =>
    obtain ⟨a, xs, rfl, t1, t2, t3⟩ := hd.tuple
    cases e with
    | int i =>
      obtain rfl := he.int
      have post : Post X.K M H (match atI l i with | some d => .ok (.sh d) | none => .stuck) Q := post
      split at post
      · rename_i d' ea
        obtain ⟨w, h1, h2⟩ := deall_at t3 ea
        exact ix_tup value slice pins s σ H _ _ v u Q I rx ry ⟨a, xs, i, w, rfl, rfl, t1, h1, Post.sh post h2⟩ hs
      · exact post.elim
    | _ => exact post.elim
  | dict l =>
    have post : Post X.K M H (match keyI e with | some ns => (match kvGet l ns with | some d => .ok (.sh d) | none => .stuck) | none => .stuck) Q := post
    cases ek : keyI e with
    | none => rw [ek] at post; exact post.elim
    | some ns =>
      rw [ek] at post
      have post : Post X.K M H (match kvGet l ns with | some d => .ok (.sh d) | none => .stuck) Q := post
      obtain ⟨b, rfl, hb, _⟩ := key_db he ek
      obtain ⟨a, xs, rfl, ha, hk⟩ := hd.dict
      obtain rfl : v = Value.ref a := rx
      obtain rfl : u = Value.ref b := ry
      cases eg : kvGet l ns with
      | none => rw [eg] at post; exact post.elim
      | some d' =>
        rw [eg] at post
        obtain ⟨p, hp, hd'⟩ := kv_some hk eg
        exact dx_ix hu I ha hk.full hb hp hs (Post.sh post hd')
  | str z =>
    obtain rfl := hd.str
    cases e with
    | int i =>
      obtain rfl := he.int
      obtain ⟨hl, post⟩ := post_if post rfl
      split at post
      · rename_i c ea
        exact ix_str value slice pins s σ H _ _ v u Q I rx ry ⟨z, i, c, rfl, rfl, lenOk_le hl, ea, Post.str post⟩ hs
      · exact post.elim
    | _ => exact post.elim
  | _ => cases e <;> exact post.elim
def rSl (K : PySem.W.Frag) : V → Option Int → Option Int → Hp → VK → Prop := fun x lo hi H Q => ∃ M d, (∀ a, M a → H a ≠ none) ∧ DB K M H x d ∧ match d with
  | .list xs => Post K M H (.ok (.nl (cutD xs lo hi))) Q
  | .tuple xs => Post K M H (.ok (.sh (.tuple (cutD xs lo hi)))) Q
  | .str z => Post K M H (if lenOk z.length then .ok (.sh (.str (cutS z lo hi))) else .stuck) Q
  | _ => False
theorem cut_len {K : PySem.W.Frag} {H : Hp} {vs : List V} {ds : List PyData} {lo hi : Option Int} (h : DeAll K H vs ds) : DeAll K H (cutV vs lo hi) (cutD ds lo hi) := by
  unfold cutV cutD
  rw [deall_len h]
  exact deall_take _ (deall_drop _ h)
theorem cut_whole {ds : List PyData} {lo hi : Option Int} (h : HT.sIx ds.length 0 lo = 0 ∧ HT.sIx ds.length ds.length hi = ds.length) : cutD ds lo hi = ds := by
  unfold cutD
  rw [h.1, h.2]
  simp
theorem sl_ok : SlR X (rSl X.K) := by
  intro pins s σ H x v vl vu lo hi sl Q I rx hs pl pu h
  obtain ⟨M, d, hM, hd, post⟩ := h
  cases d with
  | list l =>
    obtain ⟨a, xs, rfl, t1, t3⟩ := hd.list
    exact sl_list pins s σ H _ v vl vu lo hi sl Q I rx hs pl pu ⟨a, xs, rfl, t1, fun p hp => Post.newL hM post (cut_len t3) hp⟩
  | tuple l =>
    obtain ⟨a, xs, rfl, t1, t2, t3⟩ := hd.tuple
    refine sl_tupF pins s σ H _ v vl vu lo hi sl Q I rx hs pl pu ⟨a, xs, rfl, t1, fun hw => ?_, fun _ => Post.newT hM post (cut_len t3)⟩
    rw [deall_len t3] at hw
    have post : Post X.K M H (.ok (.sh (.tuple (cutD l lo hi)))) Q := post
    rw [cut_whole hw] at post
    exact Post.sh post (.tup t2 t3)
  | str z =>
    have ev := hd.str
    subst ev
    have post : Post X.K M H (if lenOk z.length then .ok (.sh (.str (cutS z lo hi))) else .stuck) Q := post
    by_cases c : lenOk z.length = true
    · rw [if_pos c] at post
      exact sl_str pins s σ H _ v vl vu lo hi sl Q I rx hs pl pu ⟨z, rfl, lenOk_le c, Post.sh post (.str _)⟩
    · rw [if_neg c] at post; exact post.elim
  | _ => exact post.elim
end
end Ev
namespace Ev
open PySem PySem.Spec
open PyProof.Rows L2
abbrev biVal : Bi → Value
  | .len => .builtin "len" | .abs => .builtin "abs" | .int => .type "int" | .str => .type "str" | .tuple => .type "tuple" | .list => .type "list"
  | .sum => .builtin "sum" | .all => .builtin "all" | .any => .builtin "any" | .max2 => .builtin "max" | .min2 => .builtin "min" | .max1 => .builtin "max" | .min1 => .builtin "min" | .gcd => .builtin "math.gcd"
  | .sorted => .builtin "sorted" | .comb => .builtin "math.comb" | .dict => .type "dict"
def biName : Bi → Str
  | .len => "len" | .abs => "abs" | .int => "int" | .str => "str" | .tuple => "tuple" | .list => "list"
  | .sum => "sum" | .all => "all" | .any => "any" | .max2 => "max" | .min2 => "min" | .max1 => "max" | .min1 => "min" | .gcd => "gcd"
  | .sorted => "sorted" | .comb => "comb" | .dict => "dict"
section
variable {K : PySem.W.Frag} {M : Msk} {H : Hp}
theorem DBs.one {vs : List V} {d : PyData} (h : DBs K M H vs [d]) : ∃ v, vs = [v] ∧ DB K M H v d := by
  cases h with
  | cons h t => cases t; exact ⟨_, rfl, h⟩
theorem DBs.two {vs : List V} {d e : PyData} (h : DBs K M H vs [d, e]) : ∃ v w, vs = [v, w] ∧ DB K M H v d ∧ DB K M H w e := by
  cases h with
  | cons h t =>
    obtain ⟨w, rfl, h2⟩ := t.one
    exact ⟨_, _, rfl, h, h2⟩
theorem DBs.same {H' : Hp} (e : Same H H') : ∀ {vs : List V} {ds : List PyData}, DBs K M H vs ds → DBs K M H' vs ds
  | _, _, .nil => .nil
  | _, _, .cons h t => .cons (h.same e) (DBs.same e t)
theorem DBs.of : ∀ {vs : List V} {ds : List PyData}, DeAll K (msk M H) vs ds → DBs K M H vs ds
  | _, _, .nil => .nil
  | _, _, .cons h t => .cons (.inl h) (DBs.of t)
end
section
variable {X : Cx}
def C1 (X : Cx) (f : Value) (g : PyData → Out W) : Prop := ∀ (pins : List (Addr × Obj)) (s : Shared) (σ : L2.St) (H : Hp) (v : V) (us : List Value) (Q : VK) (M : Msk) (d : PyData), L2.Inv X pins σ H s → Vals [v] us → (∀ a, M a → H a ≠ none) → DB X.K M H v d → Post X.K M H (g d) Q →
    wpAny (model X.prog X.w) X.A (call f us) (EP X pins σ Q) X.xe s
def C2 (X : Cx) (f : Value) (g : PyData → PyData → Out W) : Prop := ∀ (pins : List (Addr × Obj)) (s : Shared) (σ : L2.St) (H : Hp) (v w : V) (us : List Value) (Q : VK) (M : Msk) (d e : PyData), L2.Inv X pins σ H s → Vals [v, w] us → (∀ a, M a → H a ≠ none) → DB X.K M H v d → DB X.K M H w e → Post X.K M H (g d e) Q →
    wpAny (model X.prog X.w) X.A (call f us) (EP X pins σ Q) X.xe s
theorem C1.ok {f : Value} {g : PyData → Out W} (c : C1 X f g) : CallR X f (rBs X.K (one g)) := by
  intro pins s σ H xs us Q I r h
  obtain ⟨M, ds, hM, hd, post⟩ := h
  cases hd with
  | nil => exact post.elim
  | cons h t =>
    cases t with
    | nil => exact c pins s σ H _ us Q M _ I r hM h post
    | cons _ _ => exact (show False from post).elim
theorem C2.ok {f : Value} {g : PyData → PyData → Out W} (c : C2 X f g) : CallR X f (rBs X.K (two g)) := by
  intro pins s σ H xs us Q I r h
  obtain ⟨M, ds, hM, hd, post⟩ := h
  cases hd with
  | nil => exact post.elim
  | cons h t =>
    cases t with
    | nil => exact (show False from post).elim
    | cons h2 t2 =>
      cases t2 with
      | nil => exact c pins s σ H _ _ us Q M _ _ I r hM h h2 post
      | cons _ _ => exact (show False from post).elim
theorem c_len : C1 X (.builtin "len") lenD := by
  intro pins s σ H v us Q M d I r hM h1 post
  cases d with
  | list l =>
    obtain ⟨a, ys, rfl, t1, t3⟩ := h1.list
    have q := Post.int post
    rw [← deall_len t3] at q
    exact call_len_seq pins s σ H _ us Q I r ⟨a, ys, rfl, .inl t1, q⟩
  | tuple l =>
    obtain ⟨a, ys, rfl, t1, t2, t3⟩ := h1.tuple
    have q := Post.int post
    rw [← deall_len t3] at q
    exact call_len_seq pins s σ H _ us Q I r ⟨a, ys, rfl, .inr t1, q⟩
  | str z =>
    obtain rfl := h1.str
    obtain ⟨hl, post⟩ := post_if post rfl
    exact call_len_str pins s σ H _ us Q I r ⟨z, rfl, lenOk_le hl, Post.int post⟩
  | _ => exact post.elim
theorem c_abs : C1 X (.builtin "abs") absD := by
  intro pins s σ H v us Q M d I r hM h1 post
  cases d with
  | int i =>
    obtain rfl := h1.int
    exact call_abs pins s σ H _ us Q I r ⟨i, rfl, Post.int post⟩
  | _ => exact post.elim
theorem c_int : C1 X (.type "int") intD := by
  intro pins s σ H v us Q M d I r hM h1 post
  cases d with
  | int i =>
    obtain rfl := h1.int
    exact call_int1 pins s σ H _ us Q I r (.inl ⟨i, rfl, Post.int post⟩)
  | bool i =>
    obtain rfl := h1.bool
    exact call_int1 pins s σ H _ us Q I r (.inr ⟨i, rfl, Post.int post⟩)
  | str a =>
    obtain rfl := h1.str
    have post : Post X.K M H (match PySem.intText? a with | some n => if a.length ≤ 640 then okI n else .stuck | none => .stuck) Q := post
    cases e : PySem.intText? a with
    | none => rw [e] at post; exact post.elim
    | some n =>
      rw [e] at post
      obtain ⟨hl, post⟩ := post_if post rfl
      exact call_int_str pins s σ H _ us Q I r ⟨a, n, rfl, e, hl, Post.int post⟩
  | _ => exact post.elim
theorem c_str : C1 X (.type "str") strD := by
  intro pins s σ H v us Q M d I r hM h1 post
  cases d with
  | int i =>
    obtain rfl := h1.int
    obtain ⟨hl, post⟩ := post_if post rfl
    exact call_str_int pins s σ H _ us Q I r ⟨i, rfl, hl, Post.str post⟩
  | _ => exact post.elim
theorem c_tuple : C1 X (.type "tuple") tupleD := by
  intro pins s σ H v us Q M d I r hM h1 post
  cases d with
  | list l =>
    obtain ⟨a, ys, rfl, t1, t3⟩ := h1.list
    exact call_tupleF pins s σ H _ us Q I r ⟨a, ys, rfl, .inl ⟨t1, Post.newT hM post t3⟩⟩
  | tuple l =>
    obtain ⟨a, ys, rfl, t1, t2, t3⟩ := h1.tuple
    exact call_tupleF pins s σ H _ us Q I r ⟨a, ys, rfl, .inr ⟨t1, Post.sh post (.tup t2 t3)⟩⟩
  | _ => exact post.elim
theorem c_list : C1 X (.type "list") listD := by
  intro pins s σ H v us Q M d I r hM h1 post
  cases d with
  | list l =>
    obtain ⟨a, ys, rfl, t1, t3⟩ := h1.list
    exact call_list_of pins s σ H _ us Q I r ⟨a, ys, rfl, .inl t1, fun p hp => Post.newL hM post t3 hp⟩
  | tuple l =>
    obtain ⟨a, ys, rfl, t1, t2, t3⟩ := h1.tuple
    exact call_list_of pins s σ H _ us Q I r ⟨a, ys, rfl, .inr t1, fun p hp => Post.newL hM post t3 hp⟩
  | _ => exact post.elim
theorem c_sum (hc : X.calm = true) : C1 X (.builtin "sum") sumD := by
  intro pins s σ H v us Q M d I r hM h1 post
  cases d with
  | list l =>
    obtain ⟨a, ys, rfl, t1, t3⟩ := h1.list
    have post : Post X.K M H (match intsOf l with | some ns => okI ns.sum | none => .stuck) Q := post
    split at post
    · rename_i ns e
      rw [intsOf_eq e] at t3
      rw [deall_ints t3] at t1
      exact cr_sum hc pins s σ H _ us Q I r ⟨a, ns, rfl, t1, Post.int post⟩
    · exact post.elim
  | tuple l =>
    obtain ⟨a, ys, rfl, t1, _, t3⟩ := h1.tuple
    have post : Post X.K M H (match intsOf l with | some ns => okI ns.sum | none => .stuck) Q := post
    split at post
    · rename_i ns e
      rw [intsOf_eq e] at t3
      rw [deall_ints t3] at t1
      obtain ⟨its, rv, ht, _⟩ := I.tuple t1
      obtain ⟨u, rfl, ru⟩ := vals1 r
      obtain rfl : u = Value.ref a := ru
      have hi := rv.ints
      obtain ⟨xs, hx⟩ := hi.allInts.items
      have hn : numsOf (intItems xs).toList = ns := by rw [← hx]; exact hi.numsOf
      rw [nums_intItems] at hn
      rw [hx] at ht
      refine PySem.W.ktm_sumG (I.ok.hd hc) ht fun h' tk t' hk => ⟨.int _, H, I.kept hk, ⟨_, rfl⟩, ?_⟩
      rw [preSum_eq, List.take_of_length_le (by simp), hn]
      exact Post.int post
    · exact post.elim
  | _ => exact post.elim
theorem c_all (hc : X.calm = true) : C1 X (.builtin "all") allD := by
  intro pins s σ H v us Q M d I r hM h1 post
  cases d with
  | list l =>
    obtain ⟨a, ys, rfl, t1, t3⟩ := h1.list
    have post : Post X.K M H (match boolsOf l with | some ns => okB (ns.all id) | none => .stuck) Q := post
    split at post
    · rename_i ns e
      rw [boolsOf_eq e] at t3
      rw [deall_bools t3] at t1
      exact cr_all hc pins s σ H _ us Q I r ⟨a, ns, rfl, t1, Post.bool post⟩
    · exact post.elim
  | _ => exact post.elim
theorem c_any (hc : X.calm = true) : C1 X (.builtin "any") anyD := by
  intro pins s σ H v us Q M d I r hM h1 post
  cases d with
  | list l =>
    obtain ⟨a, ys, rfl, t1, t3⟩ := h1.list
    have post : Post X.K M H (match boolsOf l with | some ns => okB (ns.any id) | none => .stuck) Q := post
    split at post
    · rename_i ns e
      rw [boolsOf_eq e] at t3
      rw [deall_bools t3] at t1
      exact cr_any hc pins s σ H _ us Q I r ⟨a, ns, rfl, t1, Post.bool post⟩
    · exact post.elim
  | _ => exact post.elim
theorem c_max2 (hc : X.calm = true) : C2 X (.builtin "max") max2D := by
  intro pins s σ H v w us Q M d e I r hM h1 h2 post
  cases d with
  | int i =>
    cases e with
    | int j =>
      obtain rfl := h1.int
      obtain rfl := h2.int
      exact call_max2 hc pins s σ H _ us Q I r ⟨i, j, rfl, Post.int post⟩
    | _ => exact post.elim
  | _ => cases e <;> exact post.elim
theorem c_min2 (hc : X.calm = true) : C2 X (.builtin "min") min2D := by
  intro pins s σ H v w us Q M d e I r hM h1 h2 post
  cases d with
  | int i =>
    cases e with
    | int j =>
      obtain rfl := h1.int
      obtain rfl := h2.int
      exact call_min2 hc pins s σ H _ us Q I r ⟨i, j, rfl, Post.int post⟩
    | _ => exact post.elim
  | _ => cases e <;> exact post.elim
theorem c_max1 (hc : X.calm = true) : C1 X (.builtin "max") max1D := by
  intro pins s σ H v us Q M d I r hM h1 post
  cases d with
  | list l =>
    obtain ⟨a, ys, rfl, t1, t3⟩ := h1.list
    have post : Post X.K M H (match intsOf l with | some ns => if 0 < ns.length then okI (maxL ns) else .stuck | none => .stuck) Q := post
    split at post
    · rename_i ns e
      rw [intsOf_eq e] at t3
      rw [deall_ints t3] at t1
      by_cases hn : 0 < ns.length
      · rw [if_pos hn] at post
        refine cr_max hc pins s σ H _ us Q I r ⟨a, ns, rfl, t1, hn, fun m m1 m2 => ?_⟩
        rw [maxL_uniq m1 m2]
        exact Post.int post
      · rw [if_neg hn] at post; exact post.elim
    · exact post.elim
  | tuple l =>
    obtain ⟨a, ys, rfl, t1, _, t3⟩ := h1.tuple
    have post : Post X.K M H (match intsOf l with | some ns => if 0 < ns.length then okI (maxL ns) else .stuck | none => .stuck) Q := post
    split at post
    · rename_i ns e
      rw [intsOf_eq e] at t3
      rw [deall_ints t3] at t1
      obtain ⟨its, rv, ht, _⟩ := I.tuple t1
      obtain ⟨u, rfl, ru⟩ := vals1 r
      obtain rfl : u = Value.ref a := ru
      by_cases hn : 0 < ns.length
      · rw [if_pos hn] at post
        exact max_tup (I.ok.hd hc) ht rv.ints hn fun h' tk t' hk => ⟨.int _, H, I.kept hk, ⟨_, rfl⟩, Post.int post⟩
      · rw [if_neg hn] at post; exact post.elim
    · exact post.elim
  | _ => exact post.elim
theorem c_min1 (hc : X.calm = true) : C1 X (.builtin "min") min1D := by
  intro pins s σ H v us Q M d I r hM h1 post
  cases d with
  | list l =>
    obtain ⟨a, ys, rfl, t1, t3⟩ := h1.list
    have post : Post X.K M H (match intsOf l with | some ns => if 0 < ns.length then okI (minL ns) else .stuck | none => .stuck) Q := post
    split at post
    · rename_i ns e
      rw [intsOf_eq e] at t3
      rw [deall_ints t3] at t1
      by_cases hn : 0 < ns.length
      · rw [if_pos hn] at post
        refine cr_min hc pins s σ H _ us Q I r ⟨a, ns, rfl, t1, hn, fun m m1 m2 => ?_⟩
        rw [minL_uniq m1 m2]
        exact Post.int post
      · rw [if_neg hn] at post; exact post.elim
    · exact post.elim
  | _ => exact post.elim
theorem c_gcd : C2 X (.builtin "math.gcd") gcdD := by
  intro pins s σ H v w us Q M d e I r hM h1 h2 post
  cases d with
  | int i =>
    cases e with
    | int j =>
      obtain rfl := h1.int
      obtain rfl := h2.int
      exact cr_gcd pins s σ H _ us Q I r ⟨i, j, rfl, Post.int post⟩
    | _ => exact post.elim
  | _ => cases e <;> exact post.elim
theorem c_comb : C2 X (.builtin "math.comb") combD := by
  intro pins s σ H v w us Q M d e I r hM h1 h2 post
  cases d with
  | int i =>
    cases e with
    | int j =>
      obtain rfl := h1.int
      obtain rfl := h2.int
      obtain ⟨hl, post⟩ := post_if post rfl
      rw [Bool.and_eq_true, Bool.and_eq_true] at hl
      have l1 := of_decide_eq_true hl.1.1
      have l2 := of_decide_eq_true hl.1.2
      have l3 := of_decide_eq_true hl.2
      obtain ⟨t, u, rfl⟩ := Vals.int2 r
      exact PySem.W.mc_comb l1 l2 (by omega) (.inr l3) fun _ => ⟨.int _, H, I.tok _, ⟨_, rfl⟩, Post.int post⟩
    | _ => exact post.elim
  | _ => cases e <;> exact post.elim
theorem code_inj {B : Int} : ∀ {ns ms : List Int}, ns.length = ms.length → TS.Bd B ns → TS.Bd B ms → TS.code B ns = TS.code B ms → ns = ms
  | [], [], _, _, _, _ => rfl
  | [], _ :: _, h, _, _, _ => by simp at h
  | _ :: _, [], h, _, _, _ => by simp at h
  | n :: ns, m :: ms, h, h1, h2, e => by
    have hl : ns.length = ms.length := by simpa using h
    rcases Int.lt_trichotomy n m with c | c | c
    · have := TS.code_lt (B := B) hl h1.tail h2.tail c; omega
    · subst c
      have e2 : TS.code B ns = TS.code B ms := by
        rcases Int.lt_trichotomy (TS.code B ns) (TS.code B ms) with c | c | c
        · have := (TS.code_same (B := B) (d := n) hl).mpr c; omega
        · exact c
        · have := (TS.code_same (B := B) (d := n) hl.symm).mpr c; omega
      rw [code_inj hl h1.tail h2.tail e2]
    · have := TS.code_lt (B := B) hl.symm h2.tail h1.tail c; omega
theorem sorted_unique {α : Type} {f : α → Int} : ∀ {a b : List α}, a.Perm b → a.Pairwise (fun x y => f x ≤ f y) → b.Pairwise (fun x y => f x ≤ f y) → (∀ x ∈ a, ∀ y ∈ a, f x = f y → x = y) → a = b
  | [], b, p, _, _, _ => (List.Perm.nil_eq p)
  | x :: a, [], p, _, _, _ => by have := p.length_eq; simp at this
  | x :: a, y :: b, p, h1, h2, inj => by
    rw [List.pairwise_cons] at h1 h2
    have hy : y ∈ x :: a := p.mem_iff.mpr (List.mem_cons_self ..)
    have hx : x ∈ y :: b := p.mem_iff.mp (List.mem_cons_self ..)
    have e1 : f x ≤ f y := by
      rcases List.mem_cons.mp hy with e | e
      · rw [e]; exact Int.le_refl _
      · exact h1.1 y e
    have e2 : f y ≤ f x := by
      rcases List.mem_cons.mp hx with e | e
      · rw [e]; exact Int.le_refl _
      · exact h2.1 x e
    have e : x = y := inj x (List.mem_cons_self ..) y hy (by omega)
    subst e
    rw [sorted_unique (List.Perm.cons_inv p) h1.2 h2.2 fun u hu v hv => inj u (List.mem_cons_of_mem _ hu) v (List.mem_cons_of_mem _ hv)]
theorem insK_perm (x : List Int) : ∀ l, (insK x l).Perm (x :: l)
  | [] => .refl _
  | y :: r => by
    unfold insK
    split
    · exact .refl _
    · exact ((insK_perm x r).cons y).trans (.swap x y r)
theorem sortK_perm : ∀ l, (sortK l).Perm l
  | [] => .refl _
  | x :: r => (insK_perm x _).trans ((sortK_perm r).cons x)
theorem insK_sorted (x : List Int) : ∀ l : List (List Int), l.Pairwise (fun a b => cdK a ≤ cdK b) → (insK x l).Pairwise fun a b => cdK a ≤ cdK b
  | [], _ => List.pairwise_singleton ..
  | y :: r, h => by
    have h0 := h
    rw [List.pairwise_cons] at h
    unfold insK
    split
    · rename_i c
      refine List.pairwise_cons.mpr ⟨fun z hz => ?_, h0⟩
      rcases List.mem_cons.mp hz with e | e
      · rw [e]; exact c
      · have := h.1 z e; omega
    · rename_i c
      refine List.pairwise_cons.mpr ⟨fun z hz => ?_, insK_sorted x r h.2⟩
      rcases List.mem_cons.mp ((insK_perm x r).mem_iff.mp hz) with e | e
      · rw [e]; omega
      · exact h.1 z e
theorem sortK_sorted : ∀ l, (sortK l).Pairwise fun a b => cdK a ≤ cdK b
  | [] => .nil
  | x :: r => insK_sorted x _ (sortK_sorted r)
theorem keysI_of {K : PySem.W.Frag} {H : Hp} : ∀ {xs : DXs} {l : List (PyData × PyData)}, DeKv K H xs l → keysI l = some (xs.map (·.1)) ∧ l.length = xs.length
  | _, _, .nil => ⟨rfl, rfl⟩
  | _, _, @DeKv.cons _ _ ms b v xs d l h1 h2 h3 => by
    obtain ⟨q1, q2⟩ := keysI_of h3
    refine ⟨?_, by rw [List.length_cons, List.length_cons, q2]⟩
    show (match intsOf (ms.map .int), keysI l with | some ns, some q => some (ns :: q) | _, _ => none) = _
    rw [intsOf_map, q1]; rfl
theorem keyFit_ok {d : Nat} {ns : List Int} (h : keyFit d ns = true) : ns.length = d ∧ TS.Bd 1099511627776 ns := by
  obtain ⟨h1, h2⟩ := Bool.and_eq_true_iff.mp (show (decide (ns.length = d) && ns.all fun m => decide (0 ≤ m) && decide (m < 1099511627776)) = true from h)
  refine ⟨of_decide_eq_true h1, fun m hm => ?_⟩
  have := List.all_eq_true.mp h2 m hm
  rw [Bool.and_eq_true] at this
  exact ⟨of_decide_eq_true this.1, of_decide_eq_true this.2⟩
theorem deall_maps {α : Type} {K : PySem.W.Frag} {H : Hp} {f : α → V} {g : α → PyData} : ∀ (l : List α), (∀ x ∈ l, De K H (f x) (g x)) → DeAll K H (l.map f) (l.map g)
  | [], _ => .nil
  | x :: r, h => .cons (h x (List.mem_cons_self ..)) (deall_maps r fun y hy => h y (List.mem_cons_of_mem _ hy))
theorem de_ints' {K : PySem.W.Frag} {H : Hp} : ∀ ns : List Int, DeAll K H (ns.map V.int) (ns.map PyData.int)
  | [] => .nil
  | n :: r => .cons (.int n) (de_ints' r)
theorem c_sorted (hc : X.calm = true) (hu : X.A.units + 65 < cLine) : C1 X (.builtin "sorted") sortedD := by
  intro pins s σ H v us Q M d I r hM h1 post
  cases d with
  | dict l =>
    obtain ⟨a, xs, rfl, ha, hk⟩ := h1.dict
    obtain ⟨e1, e2⟩ := keysI_of hk
    have post : Post X.K M H (match keysI l with
      | some ks => if decide (l.length ≤ 1000000) && (match ks with | [] => true | k :: _ => decide (1 ≤ k.length) && ks.all (keyFit k.length)) then .ok (.nl ((sortK ks).map fun ns => .tuple (ns.map .int))) else .stuck
      | none => .stuck) Q := post
    rw [e1] at post
    obtain ⟨hl, post⟩ := post_if post rfl
    rw [Bool.and_eq_true] at hl
    have h64 : xs.length ≤ 1000000 := by rw [← e2]; exact of_decide_eq_true hl.1
    obtain ⟨dd, d1, hB⟩ : ∃ dd, 1 ≤ dd ∧ ∀ x ∈ xs, x.1.length = dd ∧ TS.Bd 1099511627776 x.1 := by
      cases xs with
      | nil => exact ⟨1, Nat.le_refl _, fun x hx => nomatch hx⟩
      | cons x r =>
        obtain ⟨q1, q2⟩ := Bool.and_eq_true_iff.mp (show (decide (1 ≤ x.1.length) && ((x :: r).map (·.1)).all (keyFit x.1.length)) = true from hl.2)
        exact ⟨x.1.length, of_decide_eq_true q1, fun y hy => keyFit_ok (List.all_eq_true.mp q2 _ (List.mem_map.mpr ⟨y, hy, rfl⟩))⟩
    obtain ⟨u, rfl, rx⟩ := vals1 r
    obtain rfl : u = Value.ref a := rx
    refine dx_sorted hc hu d1 I ha hk.full h64 hB fun zs p pz pw hp => ?_
    have ez : zs.map (·.1) = sortK (xs.map (·.1)) := by
      refine sorted_unique (f := cdK) ((pz.map (·.1)).trans ?_) (List.pairwise_map.mpr pw) (sortK_sorted _) fun x hx y hy hxy => ?_
      · rw [List.map_map]
        exact (sortK_perm _).symm
      · obtain ⟨z, hz, rfl⟩ := List.mem_map.mp hx
        obtain ⟨z', hz', rfl⟩ := List.mem_map.mp hy
        obtain ⟨q, hq, e⟩ := List.mem_map.mp (pz.mem_iff.mp hz)
        obtain ⟨q', hq', e'⟩ := List.mem_map.mp (pz.mem_iff.mp hz')
        have b1 := hB q hq
        have b2 := hB q' hq'
        rw [show q.1 = z.1 by rw [← e]] at b1
        rw [show q'.1 = z'.1 by rw [← e']] at b2
        exact code_inj (by rw [b1.1, b2.1]) b1.2 b2.2 hxy
    refine Post.newL hM post ?_ hp
    rw [← ez, List.map_map]
    refine deall_maps zs fun z hz => ?_
    obtain ⟨q, hq, e⟩ := List.mem_map.mp (pz.mem_iff.mp hz)
    have e := e
    subst e
    exact .tup (hk.keysD q hq) (de_ints' _)
  | _ => exact post.elim
theorem kvd_len {K : PySem.W.Frag} {H : Hp} {xs : DXs} {kvs : List (List Int × PyData)} (h : KvD K H xs kvs) : xs.length = kvs.length := Paired.length h
theorem kvd_find {K : PySem.W.Frag} {H : Hp} {ns : List Int} : ∀ {xs : DXs} {kvs : List (List Int × PyData)}, KvD K H xs kvs → (valX xs ns).isSome = (kvs.find? fun p => decide (p.1 = ns)).isSome
  | _, _, .nil => rfl
  | _, _, @Paired.cons _ _ _ p q ps qs h t => by
    unfold valX
    rw [List.find?_cons, List.find?_cons, ← h.1]
    by_cases e : p.1 = ns
    · rw [decide_eq_true e]; rfl
    · rw [decide_eq_false e]
      exact kvd_find t
theorem kvd_map {K : PySem.W.Frag} {H : Hp} {ns : List Int} {v : V} {d : PyData} (hd : De K H v d) : ∀ {xs : DXs} {kvs : List (List Int × PyData)}, KvD K H xs kvs → KvD K H (xs.map (fun x => if x.1 = ns then (x.1, x.2.1, v) else x)) (kvs.map (fun p => if p.1 = ns then (p.1, d) else p))
  | _, _, .nil => .nil
  | _, _, @Paired.cons _ _ _ p q ps qs h t => by
    refine .cons ?_ (kvd_map hd t)
    dsimp only
    rw [← h.1]
    by_cases e : p.1 = ns
    · rw [if_pos e, if_pos e]
      exact ⟨rfl, h.2.1, hd⟩
    · rw [if_neg e, if_neg e]
      exact h
theorem kvd_snoc {K : PySem.W.Frag} {H : Hp} {ns : List Int} {b : Addr} {v : V} {d : PyData} (hb : SqD K H b (ns.map V.int)) (hd : De K H v d) : ∀ {xs : DXs} {kvs : List (List Int × PyData)}, KvD K H xs kvs → KvD K H (xs ++ [(ns, b, v)]) (kvs ++ [(ns, d)])
  | _, _, .nil => .cons ⟨rfl, hb, hd⟩ .nil
  | _, _, .cons h t => .cons h (kvd_snoc hb hd t)
theorem kvd_put {K : PySem.W.Frag} {H : Hp} {ns : List Int} {b : Addr} {v : V} {d : PyData} {xs : DXs} {kvs : List (List Int × PyData)} (h : KvD K H xs kvs) (hb : SqD K H b (ns.map V.int)) (hd : De K H v d) : KvD K H (putX xs ns b v) (putK kvs ns d) := by
  unfold putX putK
  rw [kvd_find h]
  split
  · exact kvd_map hd h
  · exact kvd_snoc hb hd h
theorem prsK_len : ∀ {l : List PyData} {ps : List (List Int × PyData)}, prsK l = some ps → ps.length = l.length
  | [], _, h => by cases h; rfl
  | d :: ds, _, h => by
    unfold prsK at h
    split at h
    · rename_i p ps e1 e2
      cases h
      rw [List.length_cons, List.length_cons, prsK_len e2]
    · cases h
theorem pairK_is {d : PyData} {ns : List Int} {e : PyData} (h : pairK d = some (ns, e)) : ∃ k, d = .tuple [k, e] ∧ keyI k = some ns := by
  cases d with
  | tuple l =>
    match l, h with
    | [k, x], h =>
      have h : (match keyI k with | some ns => some (ns, x) | none => none) = some (ns, e) := h
      cases ek : keyI k with
      | none => rw [ek] at h; cases h
      | some m => rw [ek] at h; cases h; exact ⟨k, rfl, ek⟩
  | _ => cases h
theorem SqD.plain {X : Cx} {pins : List (Addr × Obj)} {σ : L2.St} {H : Hp} {s : Shared} {a : Addr} {ys : List V} (I : Inv X pins σ H s) (h : SqD X.K H a ys) : ∃ items : List Value, PlainSeq "tuple" s.heap a items.toArray ∧ Vals ys items := by
  rcases h with ⟨o, hd, h⟩ | ⟨o, its, n, hk, h2, hd, h3, _, r⟩
  · obtain ⟨e, _, its, r, o', e', h2, n, h3⟩ := (show ObjOk X.prog X.w H s.heap a (.frz o (.tup ys)) from I.hok a _ h)
    rw [e] at e'; cases e'
    exact ⟨its, ⟨o, n, e, h2, hd, h3⟩, r⟩
  · exact ⟨its.toList, ⟨o, n, I.kIn a o hk, h2, hd, by simpa using h3⟩, r⟩
theorem dict_pairs {X : Cx} {pins : List (Addr × Obj)} {σ : L2.St} {H : Hp} {s : Shared} {M : Msk} (I : Inv X pins σ H s) : ∀ {ys : List V} {l : List PyData} {items : List Value} {ps : List (List Int × PyData)}, DeAll X.K (msk M H) ys l → Vals ys items → prsK l = some ps →
    ∃ zs : List (Addr × List Int × Addr × Value), items = zs.map (fun z => .ref z.1) ∧ (∀ z ∈ zs, PairAt s.heap z.1 (.ref z.2.2.1) z.2.2.2 ∧ SqT X.K H z.2.2.1 (z.2.1.map V.int)) ∧ ∃ xs : DXs, DXr xs (zs.map (·.2)) ∧ KvD X.K (msk M H) xs ps
  | _, _, _, _, .nil, r, h => by cases r; cases h; exact ⟨[], rfl, fun _ z => (nomatch z), [], .nil, .nil⟩
  | _, _, _, _, @DeAll.cons _ _ v vs d ds hd ht, r, h => by
    cases r with
    | cons rv rr =>
      unfold prsK at h
      split at h
      · rename_i p ps e1 e2
        cases h
        obtain ⟨zs, h1, h2, xs, h3, h4⟩ := dict_pairs I ht rr e2
        obtain ⟨ns, e⟩ := p
        obtain ⟨k, rfl, ek⟩ := pairK_is e1
        cases hd with
        | tup hs ha =>
          cases ha with
          | cons hk hb =>
            cases hb with
            | cons hx hn =>
              cases hn
              rw [keyI_eq ek] at hk
              cases hk with
              | tup hsk hak =>
                rw [deall_ints hak] at hsk
                obtain ⟨its, rp, tp, _⟩ := I.tuple (st_same msk_same hs.toT)
                cases rv
                cases rp with
                | cons rk rp =>
                  cases rp with
                  | cons rx rp =>
                    cases rp
                    cases rk
                    rename_i T x2 b lst pz v2
                    refine ⟨(T, ns, b, v2) :: zs, by rw [List.map_cons, ← h1], ?_, (ns, b, x2) :: xs, .cons ⟨rfl, rfl, rx⟩ h3, .cons ⟨rfl, hsk, hx⟩ h4⟩
                    intro z hz
                    rcases List.mem_cons.mp hz with e | hz
                    · subst e
                      exact ⟨.inl tp, st_same msk_same hsk.toT⟩
                    · exact h2 z hz
      · cases h
theorem dxr_fold : ∀ {xs : DXs} {ys : DYs} {ac : DXs} {ac' : DYs}, DXr ac ac' → DXr xs ys → DXr (xs.foldl (fun s x => putX s x.1 x.2.1 x.2.2) ac) (storedAllH ac' ys)
  | _, _, _, _, h, .nil => h
  | _, _, ac, ac', h, @Paired.cons _ _ _ p q ps qs hh t => by
    obtain ⟨n, b, v⟩ := p
    obtain ⟨n', b', v'⟩ := q
    obtain ⟨e1, e2, rv⟩ := hh
    obtain rfl : n = n' := e1
    obtain rfl : b = b' := e2
    exact dxr_fold (ac := putX ac n b v) (ac' := storedH ac' n b v') (dxr_put rv h) t
theorem kvd_fold {K : PySem.W.Frag} {H : Hp} : ∀ {xs : DXs} {ps ac' : List (List Int × PyData)} {ac : DXs}, KvD K H ac ac' → KvD K H xs ps → KvD K H (xs.foldl (fun s x => putX s x.1 x.2.1 x.2.2) ac) (ps.foldl (fun s p => putK s p.1 p.2) ac')
  | _, _, _, _, h, .nil => h
  | _, _, ac', ac, h, @Paired.cons _ _ _ p q ps qs hh t => by
    obtain ⟨n, b, v⟩ := p
    obtain ⟨n', d⟩ := q
    obtain ⟨e1, hb, hd⟩ := hh
    obtain rfl : n = n' := e1
    exact kvd_fold (ac := putX ac n b v) (ac' := putK ac' n d) (kvd_put h hb hd) t
theorem fold_len : ∀ (xs ac : DXs), (xs.foldl (fun s x => putX s x.1 x.2.1 x.2.2) ac).length ≤ ac.length + xs.length
  | [], ac => Nat.le_refl _
  | x :: xs, ac => by
    have h1 := fold_len xs (putX ac x.1 x.2.1 x.2.2)
    have h2 := putX_len ac x.1 x.2.1 x.2.2
    rw [List.foldl_cons, List.length_cons]; omega
theorem c_dict (hc : X.calm = true) (hu : X.A.units + 65 < cLine) : C1 X (.type "dict") dictD := by
  intro pins s σ H v us Q M d I r hM h1 post
  cases d with
  | tuple l =>
    have post : Post X.K M H (match prsK l with | some ps => if lenOk l.length = true then (.ok (.nd (ps.foldl (fun s p => putK s p.1 p.2) [])) : Out W) else .stuck | none => .stuck) Q := post
    cases ep : prsK l with
    | none => rw [ep] at post; exact post.elim
    | some ps =>
      rw [ep] at post
      obtain ⟨hl, post⟩ := post_if post rfl
      obtain ⟨a, ys, rfl, t1, t2, t3⟩ := h1.tuple
      obtain ⟨u, rfl, rx⟩ := vals1 r
      cases rx
      obtain ⟨items, hP, rv⟩ := (sd_same msk_same t2).plain I
      obtain ⟨zs, e1, e2, xs, e3, e4⟩ := dict_pairs I t3 rv ep
      have hlen : zs.length = l.length := by
        have := rv.length
        rw [e1, List.length_map] at this
        rw [← this, deall_len t3]
      have hxl : xs.length = zs.length := by have := Paired.length e3; rw [List.length_map] at this; exact this
      have hz := lenOk_le hl
      have hget : ∀ {α : Type} (f : Addr × List Int × Addr × Value → α) (j : Nat) (x : α), (zs.map f)[j]? = some x → ∃ z, zs[j]? = some z ∧ f z = x := fun f j x h => by
        rw [List.getElem?_map] at h
        cases ez : zs[j]? with
        | none => rw [ez] at h; cases h
        | some z => rw [ez] at h; exact ⟨z, rfl, Option.some.inj h⟩
      refine call_dict_pairsH (knd := tupleKind (intKind X.prog X.w)) (ps := zs.map (·.2)) (PairArg.tuple a items.toArray (fun j => (zs.getD j (0, [], 0, .none)).1) (zs.map fun z => (.ref z.2.2.1, z.2.2.2))) (I.ok.hd hc) (tupleKind_room_in1 (A := X.A.in1) (by show X.A.units + 1 + 1 < cLine; omega)) ⟨hP, by rw [e1]; simp, fun j k v h => ?_⟩ ⟨by simp, fun j k v h => ?_⟩ (fun h' hk x hx => ?_) (by rw [List.length_map]; omega) fun h' tk dd hk => ?_
      · obtain ⟨z, hz1, hz2⟩ := hget _ j _ h
        cases hz2
        refine ⟨?_, ?_⟩
        · rw [e1]
          simp [hz1]
        · show PairAt s.heap (zs.getD j (0, [], 0, .none)).1 _ _
          rw [List.getD_eq_getElem?_getD, hz1]
          exact (e2 z (List.mem_of_getElem? hz1)).1
      · obtain ⟨z, hz1, hz2⟩ := hget _ j _ h
        cases hz2
        exact ⟨z.2.1, z.2.2.1, by rw [List.getElem?_map, hz1]; rfl, rfl⟩
      · obtain ⟨z, hz1, rfl⟩ := List.mem_map.mp hx
        obtain ⟨o, its, n, q1, q2⟩ := key_is I (e2 z hz1).2
        exact ⟨o, its, n, hk _ _ (Nat.ne_of_lt (Heap.lt_size q1)) (fun w => nomatch w) q1, q2⟩
      · obtain ⟨o, es, ep', hq, q2, q3, q4, _, q5⟩ := dd
        have R' := dxr_fold (ac := []) (ac' := []) .nil e3
        have hp : H s.heap.objs.size = none := I.hok.fresh (Nat.le_refl _)
        have hn : (s.heap.objs.size == sysModules) = false := beq_eq_false_iff_ne.mpr (Ne.symm (Nat.ne_of_lt I.big))
        have hfl := fold_len xs []
        refine ⟨.ref s.heap.objs.size, upd H s.heap.objs.size (DX s.heap.objs.size (xs.foldl (fun s x => putX s x.1 x.2.1 x.2.2) [])), I.laid (t' := tk) (fun b ob q => hk b ob (fun w => nomatch w) q) (Nat.le_refl _) (dx_ok ⟨hn, by rw [List.length_nil] at hfl; omega, ?_, _, R', o, es, ep', hq, q2, q3, fun P w => q4⟩), rfl, ?_⟩
        · rw [dxr_keys R']; exact q5
        · exact post _ _ (same_new hp) ⟨_, _, rfl, hp, upd_same, KvD.same (msk_mono fun b o n e => ⟨fun z => z.elim n fun q => (by rw [q, hp] at e; cases e), same_new hp b o e⟩) (kvd_fold .nil e4)⟩
  | _ => exact post.elim
theorem bi_ok (hc : X.calm = true) (hu : X.A.units + 65 < cLine) (b : Bi) : CallR X (biVal b) (rBs X.K (biD b)) := by
  cases b with
  | len => exact c_len.ok
  | abs => exact c_abs.ok
  | int => exact c_int.ok
  | str => exact c_str.ok
  | tuple => exact c_tuple.ok
  | list => exact c_list.ok
  | sum => exact (c_sum hc).ok
  | all => exact (c_all hc).ok
  | any => exact (c_any hc).ok
  | max2 => exact (c_max2 hc).ok
  | min2 => exact (c_min2 hc).ok
  | max1 => exact (c_max1 hc).ok
  | min1 => exact (c_min1 hc).ok
  | gcd => exact c_gcd.ok
  | sorted => exact (c_sorted hc hu).ok
  | comb => exact c_comb.ok
  | dict => exact (c_dict hc hu).ok
abbrev tyN : Ty → String
  | .int => "int" | .bool => "bool" | .str => "str" | .tuple => "tuple" | .list => "list"
def tyOfD : PyData → String
  | .none => "NoneType" | .bool _ => "bool" | .int _ => "int" | .str _ => "str" | .list _ => "list" | .tuple _ => "tuple" | .dict _ => "dict"
theorem kit_all (t : Ty) (d : PyData) : kitB (tyOfD d) (tyN t) = some (tyD t d) := by
  cases d <;> cases t <;> first | rfl | decide +kernel | (simp only [tyOfD, tyN, tyD]; decide +kernel)
theorem tyx_of {K : PySem.W.Frag} {M : Msk} {H : Hp} {v : V} {d : PyData} (hn : ∀ l, d ≠ .dict l) (h : DB K M H v d) : TyX K H v (.type (tyOfD d)) := by
  cases d with
  | none => obtain rfl := h.none; exact .base .non
  | bool b => obtain rfl := h.bool; exact .base (.bl b)
  | int b => obtain rfl := h.int; exact .base (.int b)
  | str b => obtain rfl := h.str; exact .base (.str b)
  | list l =>
    obtain ⟨a, xs, rfl, t1, _⟩ := h.list
    rcases t1 with (t1 | ⟨o, t1⟩) | ⟨o, its, n, hk, hc, _⟩
    · exact .base (.lst t1)
    · exact .base (.frz t1)
    · exact .kList hk hc
  | tuple l =>
    obtain ⟨a, xs, rfl, t1, _⟩ := h.tuple
    rcases t1 with (t1 | ⟨o, t1⟩) | ⟨o, its, n, hk, hc, _⟩
    · exact .base (.tup t1)
    · exact .fTuple t1
    · exact .kTuple hk hc
  | dict l => exact absurd rfl (hn l)
theorem isi_ok {t : Ty} {pins : List (Addr × Obj)} {s : Shared} {σ : L2.St} {H : Hp} {v : V} {us : List Value} {Q : VK} {M : Msk} {d : PyData} (I : L2.Inv X pins σ H s) (r : Vals [v, .ty (tyN t)] us) (h : DB X.K M H v d) (q : Q (.bl (tyD t d)) H) :
    wpAny (model X.prog X.w) X.A (call (.builtin "isinstance") us) (EP X pins σ Q) X.xe s := by
  by_cases hn : ∀ l, d ≠ .dict l
  · exact call_isi pins s σ H _ us Q I r ⟨v, _, _, _, _, rfl, .ty _, tyx_of hn h, kit_ty (kit_all t d), q⟩
  · obtain ⟨l, rfl⟩ : ∃ l, d = .dict l := Classical.byContradiction fun z => hn fun l e => z ⟨l, e⟩
    obtain ⟨a, xs, rfl, ha, _⟩ := h.dict
    obtain ⟨u1, u2, rfl, r1, r2⟩ := vals2 r
    obtain rfl : u1 = Value.ref a := r1
    cases (show u2 = Value.type (tyN t) from r2)
    obtain ⟨⟨o, h1, h2⟩, _⟩ := isDX_at I ha
    exact PySem.W.kia_one PySem.W.kitx_dict I.kIn ⟨o, h1, h2⟩ (kit_ty (kit_all t (.dict l))) (fun z => nomatch z) fun tk => ⟨.bl _, H, I.tok tk, rfl, q⟩
end
end Ev
namespace Ev
open PySem PySem.Spec
open PyProof.Rows L2
def pO {α : Type} (o : Out α) (good : α → Prop) (bad : Nat → Prop) : Prop := match o with
  | .ok a => good a
  | .exc c => bad c
  | .stuck => False
theorem pO_bind {α β : Type} {o : Out α} {f : α → Out β} {g : β → Prop} {b : Nat → Prop} (h : pO (o.bind f) g b) : pO o (fun a => pO (f a) g b) b := by
  cases o with
  | ok a => exact h
  | exc c => exact h
  | stuck => exact h
theorem pO_mono {α : Type} {o : Out α} {g g' : α → Prop} {b b' : Nat → Prop} (h : pO o g b) (hg : ∀ a, o = .ok a → g a → g' a) (hb : ∀ c, b c → b' c) : pO o g' b' := by
  cases o with
  | ok a => exact hg a rfl h
  | exc c => exact hb c h
  | stuck => exact h
def NoX {α : Type} (o : Out α) : Prop := ∀ c, o ≠ .exc c
theorem noX_op (o : BOp) (x y : PyData) : NoX (opD o x y) := by
  intro c h
  unfold opD at h
  split at h <;> first | (cases h; done) | (split at h <;> cases h)
theorem noX_cmp (o : COp) (x y : PyData) : NoX (cmpD o x y) := by
  intro c h
  unfold cmpD at h
  split at h <;> first | (cases h; done) | (split at h <;> cases h)
theorem noX_ix (x y : PyData) : NoX (ixD x y) := by
  intro c h
  unfold ixD at h
  split at h <;> first | (cases h; done) | (split at h <;> first | (cases h; done) | (split at h <;> cases h))
theorem noX_neg (x : PyData) : NoX (negD x) := by
  intro c h
  unfold negD at h
  split at h <;> cases h
theorem noX_sl (x : PyData) (y z : Option Int) : NoX (slD x y z) := by
  intro c h
  unfold slD at h
  split at h <;> first | (cases h; done) | (split at h <;> cases h)
theorem noX_repl (x : W) (y : PyData) : NoX (replD x y) := by
  intro c h
  unfold replD at h
  split at h <;> first | (cases h; done) | (split at h <;> cases h)
theorem noX_truth (x : PyData) : NoX (truth x) := by
  intro c h
  unfold truth at h
  split at h <;> first | (cases h; done) | (split at h <;> cases h)
theorem noX_share (x : W) : NoX x.share := by
  intro c h
  cases x <;> cases h
theorem noX_one {f : PyData → Out W} (hf : ∀ d, NoX (f d)) (l : List PyData) : NoX (one f l) := by
  intro c h
  unfold one at h
  split at h
  · exact hf _ c h
  · cases h
theorem noX_two {f : PyData → PyData → Out W} (hf : ∀ d e, NoX (f d e)) (l : List PyData) : NoX (two f l) := by
  intro c h
  unfold two at h
  split at h
  · exact hf _ _ c h
  · cases h
theorem noX_bi (b : Bi) (l : List PyData) : NoX (biD b l) := by
  cases b with
  | len => exact noX_one (fun d c h => by cases d <;> first | (cases h; done) | (simp only [lenD] at h; split at h <;> cases h)) l
  | abs => exact noX_one (fun d c h => by cases d <;> cases h) l
  | int => exact noX_one (fun d c h => by cases d <;> first | (cases h; done) | (simp only [intD] at h; split at h <;> first | (cases h; done) | (split at h <;> cases h))) l
  | str => exact noX_one (fun d c h => by cases d <;> first | (cases h; done) | (simp only [strD] at h; split at h <;> cases h)) l
  | tuple => exact noX_one (fun d c h => by cases d <;> cases h) l
  | list => exact noX_one (fun d c h => by cases d <;> cases h) l
  | sum => exact noX_one (fun d c h => by cases d <;> first | (cases h; done) | (simp only [sumD] at h; split at h <;> cases h)) l
  | all => exact noX_one (fun d c h => by cases d <;> first | (cases h; done) | (simp only [allD] at h; split at h <;> cases h)) l
  | any => exact noX_one (fun d c h => by cases d <;> first | (cases h; done) | (simp only [anyD] at h; split at h <;> cases h)) l
  | max2 => exact noX_two (fun d e c h => by cases d <;> cases e <;> cases h) l
  | min2 => exact noX_two (fun d e c h => by cases d <;> cases e <;> cases h) l
  | max1 => exact noX_one (fun d c h => by cases d <;> first | (cases h; done) | (simp only [max1D] at h; split at h <;> first | (cases h; done) | (split at h <;> cases h))) l
  | min1 => exact noX_one (fun d c h => by cases d <;> first | (cases h; done) | (simp only [min1D] at h; split at h <;> first | (cases h; done) | (split at h <;> cases h))) l
  | gcd => exact noX_two (fun d e c h => by cases d <;> cases e <;> cases h) l
  | sorted => exact noX_one (fun d c h => by cases d <;> first | (cases h; done) | (simp only [sortedD] at h; split at h <;> first | (cases h; done) | (split at h <;> first | (cases h; done) | (split at h <;> cases h)))) l
  | comb => exact noX_two (fun d e c h => by cases d <;> cases e <;> first | (cases h; done) | (simp only [combD] at h; split at h <;> cases h)) l
  | dict => exact noX_one (fun d c h => by cases d <;> first | (cases h; done) | (simp only [dictD] at h; split at h <;> first | (cases h; done) | (split at h <;> cases h))) l
theorem post_of {K : PySem.W.Frag} {M : Msk} {H : Hp} {o : Out W} {Q : VK} {b : Nat → Prop} (n : NoX o) (h : pO o (fun r => ∀ v H', Same H H' → DWr K M H H' r v → Q v H') b) : Post K M H o Q := by
  cases o with
  | ok r => exact h
  | exc c => exact absurd rfl (n c)
  | stuck => exact h
section
variable (K : PySem.W.Frag) (P : Prg) (cl : Nat → List PyData → Out W) (XW : Nat → L2.St → Hp → Prop)
def bad (σ : L2.St) (H : Hp) (c : Nat) : Prop := ∀ H', Same H H' → XW c σ H'
def uE (e : E) : TE := fun σ H Q => ∃ Wd u ρ, Rep K Wd u ρ σ H ∧ pO (evE P cl e ρ) (fun r => ∀ v H', Same H H' → DWr K (Mk Wd u) H H' r v → Q v H') (bad XW σ H)
def uB (e : E) : TE := fun σ H Q => ∃ Wd u ρ, Rep K Wd u ρ σ H ∧ pO (bor e (evE P cl e ρ) ρ) (fun d => ∀ v H', Same H H' → DB K (Mk Wd u) H' v d → Q v H') (bad XW σ H)
def uA (es : Es) : TA := fun σ H Q => ∃ Wd u ρ, Rep K Wd u ρ σ H ∧ pO (evEs P cl es ρ) (fun ds => ∀ vs H', Same H H' → DeAll K (msk (Mk Wd u) H') vs ds → Q vs H') (bad XW σ H)
def uBs (es : Es) : TA := fun σ H Q => ∃ Wd u ρ, Rep K Wd u ρ σ H ∧ pO (evBs P cl es ρ) (fun ds => ∀ vs H', Same H H' → DBs K (Mk Wd u) H' vs ds → Q vs H') (bad XW σ H)
def uT (t : T) : TT := fun σ H Q => ∃ Wd u ρ, Rep K Wd u ρ σ H ∧ pO (evT P cl t ρ) (fun b => ∀ H', Same H H' → Q b H') (bad XW σ H)
def uAll (t : Ts) : TT := fun σ H Q => ∃ Wd u ρ, Rep K Wd u ρ σ H ∧ pO (evAll P cl t ρ) (fun b => ∀ H', Same H H' → Q b H') (bad XW σ H)
def uAny (t : Ts) : TT := fun σ H Q => ∃ Wd u ρ, Rep K Wd u ρ σ H ∧ pO (evAny P cl t ρ) (fun b => ∀ H', Same H H' → Q b H') (bad XW σ H)
def uAndV (es : Es) : TE := fun σ H Q => ∃ Wd u ρ, Rep K Wd u ρ σ H ∧ pO (evAnd P cl es ρ) (fun r => ∀ v H', Same H H' → DWr K (Mk Wd u) H H' r v → Q v H') (bad XW σ H)
def uOrV (es : Es) : TE := fun σ H Q => ∃ Wd u ρ, Rep K Wd u ρ σ H ∧ pO (evOr P cl es ρ) (fun r => ∀ v H', Same H H' → DWr K (Mk Wd u) H H' r v → Q v H') (bad XW σ H)
end
section
variable {K : PySem.W.Frag} {P : Prg} {cl : Nat → List PyData → Out W} {XW : Nat → L2.St → Hp → Prop} {X : Cx}
theorem bad_same {σ : L2.St} {H H1 : Hp} (e : Same H H1) (c : Nat) (h : bad XW σ H c) : bad XW σ H1 c := fun H' s => h H' (e.trans s)
theorem PE.weak {e : Expr} {t t' : TE} (h : PE X e t) (w : ∀ σ H Q, t' σ H Q → t σ H Q) : PE X e t' := ⟨fun pins s σ H Q I q => h.run pins s σ H Q I (w σ H Q q)⟩
theorem PT.weak {e : Expr} {t t' : TT} (h : PT X e t) (w : ∀ σ H Q, t' σ H Q → t σ H Q) : PT X e t' := ⟨fun pins s σ H Q I q => h.run pins s σ H Q I (w σ H Q q)⟩
theorem PW.weak {e : Expr} {t t' : TT} (h : PW X e t) (w : ∀ σ H Q, t' σ H Q → t σ H Q) : PW X e t' := ⟨fun wh pins s σ H Q I q => h.run wh pins s σ H Q I (w σ H Q q)⟩
theorem PA.weak {e : List Expr} {t t' : TA} (h : PA X e t) (w : ∀ σ H Q, t' σ H Q → t σ H Q) : PA X e t' := ⟨fun pos pins s σ H Q I q => h.run pos pins s σ H Q I (w σ H Q q)⟩
theorem uB_of {e : E} {σ : L2.St} {H : Hp} {Q : VK} (hv : ∀ i, e ≠ .var i) (h : uB K P cl XW e σ H Q) : uE K P cl XW e σ H Q := by
  obtain ⟨Wd, u, ρ, R, p⟩ := h
  have eb : bor e (evE P cl e ρ) ρ = (evE P cl e ρ).bind W.share := by
    cases e <;> first | rfl | exact absurd rfl (hv _)
  rw [eb] at p
  refine ⟨Wd, u, ρ, R, pO_mono (pO_bind p) (fun r _ q v H' s d => ?_) fun _ z => z⟩
  cases r with
  | sh x => exact q v H' s (d.db R.mdom rfl)
  | nl x => exact q v H' s (d.db R.mdom rfl)
  | nd x => exact q.elim
theorem pe_B {e : E} {ex : Expr} {i : Nat} {pos : Pos} {x : Str} (h : e = .var i → PE X ex (tVar i)) (g : PE X ex (uE K P cl XW e)) (hi : ∀ j, e = .var j → j = i) : PE X ex (uB K P cl XW e) := by
  by_cases hv : ∃ j, e = .var j
  · obtain ⟨j, rfl⟩ := hv
    obtain rfl := hi j rfl
    refine PE.weak (h rfl) fun σ H Q ⟨Wd, u, ρ, R, p⟩ => ?_
    have p : pO (slotS ρ j) (fun d => ∀ v H', Same H H' → DB K (Mk Wd u) H' v d → Q v H') (bad XW σ H) := p
    unfold slotS at p
    cases e : ρ[j]? with
    | none => rw [e] at p; exact p.elim
    | some o =>
      cases o with
      | none => rw [e] at p; exact p.elim
      | some r =>
        rw [e] at p
        obtain ⟨v, h1, h2⟩ := R.slot j r e
        refine ⟨v, h1, ?_⟩
        cases r with
        | sh d => exact p v H (Same.refl H) (.inl h2)
        | nl l =>
          obtain ⟨a, xs, _, hv, ha, hd⟩ := h2
          exact p v H (Same.refl H) (.inr (.inl ⟨a, xs, l, hv, rfl, .inl (.inl ha), hd⟩))
        | nd l =>
          obtain ⟨a, xs, _, hv, ha, hd⟩ := h2
          exact p v H (Same.refl H) (.inr (.inr ⟨a, xs, l, hv, rfl, ha, hd⟩))
  · exact PE.weak g fun σ H Q q => uB_of (fun j z => hv ⟨j, z⟩) q
theorem e_var {i : Nat} {ex : Expr} (h : PE X ex (tVar i)) : PE X ex (uE K P cl XW (.var i)) := by
  refine PE.weak h fun σ H Q ⟨Wd, u, ρ, R, p⟩ => ?_
  have p : pO (match ρ[i]? with | some (some (.sh d)) => .ok (.sh d) | _ => .stuck) (fun r => ∀ v H', Same H H' → DWr K (Mk Wd u) H H' r v → Q v H') (bad XW σ H) := p
  split at p
  · rename_i d e
    obtain ⟨v, h1, h2⟩ := R.slot i _ e
    exact ⟨v, h1, p v H (Same.refl H) h2⟩
  · exact p.elim
theorem e_bin {o : BOp} {op : Operator} {a b : E} {x y : Expr} {pos : Pos} (ho : OpR X (binaryOp op) (rB K (opD o))) (ha : PE X x (uB K P cl XW a)) (hb : PE X y (uB K P cl XW b)) : PE X (.BinOp x op y pos) (uE K P cl XW (.bin o a b)) := by
  refine PE.weak (pe_op ho ha hb) fun σ H Q ⟨Wd, u, ρ, R, p⟩ => ?_
  have p := pO_bind (show pO ((bor a (evE P cl a ρ) ρ).bind fun x => (bor b (evE P cl b ρ) ρ).bind fun y => opD o x y) _ _ from p)
  refine ⟨Wd, u, ρ, R, pO_mono p (fun d _ q v H1 s1 h1 => ⟨Wd, u, ρ, R.same s1, pO_mono (pO_bind q) (fun e _ q2 w H2 s2 h2 => ?_) fun c z => bad_same s1 c z⟩) fun _ z => z⟩
  exact ⟨Mk Wd u, d, e, fun m hm => ne_same (s1.trans s2) (R.mdom m hm), h1.same s2, h2, post_of (b := bad XW σ H) (noX_op o d e) (pO_mono q2 (fun r _ q3 v' H' s' h' => q3 v' H' ((s1.trans s2).trans s') (h'.back (s1.trans s2))) fun _ z => z)⟩
theorem e_cmp {o : COp} {a b : E} {x y : Expr} {pos : Pos} (hu : X.A.units + 65 < cLine) (hK : X.K = K) (ha : PE X x (uB K P cl XW a)) (hb : PE X y (uB K P cl XW b)) :
    ∀ σ H Q, uE K P cl XW (.cmp o a b) σ H Q → tOp (rB K (cmpD o)) (uB K P cl XW a) (uB K P cl XW b) σ H Q := by
  intro σ H Q ⟨Wd, u, ρ, R, p⟩
  have p := pO_bind (show pO ((bor a (evE P cl a ρ) ρ).bind fun x => (bor b (evE P cl b ρ) ρ).bind fun y => cmpD o x y) _ _ from p)
  refine ⟨Wd, u, ρ, R, pO_mono p (fun d _ q v H1 s1 h1 => ⟨Wd, u, ρ, R.same s1, pO_mono (pO_bind q) (fun e _ q2 w H2 s2 h2 => ?_) fun c z => bad_same s1 c z⟩) fun _ z => z⟩
  exact ⟨Mk Wd u, d, e, fun m hm => ne_same (s1.trans s2) (R.mdom m hm), h1.same s2, h2, post_of (b := bad XW σ H) (noX_cmp o d e) (pO_mono q2 (fun r _ q3 v' H' s' h' => q3 v' H' ((s1.trans s2).trans s') (h'.back (s1.trans s2))) fun _ z => z)⟩
theorem e_ix {a b : E} {x y : Expr} {pos : Pos} (hu : X.A.units + 1 < cLine) (hK : X.K = K) (hp : PlainIx y) (ha : PE X x (uB K P cl XW a)) (hb : PE X y (uB K P cl XW b)) : PE X (.Subscript x y pos) (uE K P cl XW (.ix a b)) := by
  subst hK
  refine PE.weak (pe_ix (ix_ok hu) ha hb hp) fun σ H Q ⟨Wd, u, ρ, R, p⟩ => ?_
  have p := pO_bind (show pO ((bor a (evE P cl a ρ) ρ).bind fun x => (bor b (evE P cl b ρ) ρ).bind fun y => ixD x y) _ _ from p)
  refine ⟨Wd, u, ρ, R, pO_mono p (fun d _ q v H1 s1 h1 => ⟨Wd, u, ρ, R.same s1, pO_mono (pO_bind q) (fun e _ q2 w H2 s2 h2 => ?_) fun c z => bad_same s1 c z⟩) fun _ z => z⟩
  exact ⟨Mk Wd u, d, e, fun m hm => ne_same (s1.trans s2) (R.mdom m hm), h1.same s2, h2, post_of (b := bad XW σ H) (noX_ix d e) (pO_mono q2 (fun r _ q3 v' H' s' h' => q3 v' H' ((s1.trans s2).trans s') (h'.back (s1.trans s2))) fun _ z => z)⟩
theorem e_neg {a : E} {x : Expr} {pos : Pos} (hK : X.K = K) (ha : PE X x (uB K P cl XW a)) : PE X (.UnaryOp .USub x pos) (uE K P cl XW (.neg a)) := by
  subst hK
  refine PE.weak (pe_un neg_ok ha) fun σ H Q ⟨Wd, u, ρ, R, p⟩ => ?_
  have p := pO_bind (show pO ((bor a (evE P cl a ρ) ρ).bind negD) _ _ from p)
  refine ⟨Wd, u, ρ, R, pO_mono p (fun d _ q v H1 s1 h1 => ?_) fun _ z => z⟩
  exact ⟨Mk Wd u, d, fun m hm => ne_same s1 (R.mdom m hm), h1, post_of (b := bad XW σ H) (noX_neg d) (pO_mono q (fun r _ q3 v' H' s' h' => q3 v' H' (s1.trans s') (h'.back s1)) fun _ z => z)⟩
theorem e_not {a : E} {x : Expr} {pos : Pos} (ha : PE X x (uB K P cl XW a)) : PE X (.UnaryOp .Not x pos) (uE K P cl XW (.notv a)) := by
  refine PE.weak (pe_not ha) fun σ H Q ⟨Wd, u, ρ, R, p⟩ => ?_
  have p := pO_bind (show pO ((bor a (evE P cl a ρ) ρ).bind fun x => match x with | .bool b => okB (!b) | _ => .stuck) _ _ from p)
  refine ⟨Wd, u, ρ, R, pO_mono p (fun d _ q v H1 s1 h1 => ?_) fun _ z => z⟩
  cases d with
  | bool b => exact ⟨b, h1.bool, q _ _ s1 (.bl _)⟩
  | _ => exact q.elim
theorem e_bi {b : Bi} {es : Es} {ex : Expr} (h : PE X ex (tCB (rBs K (biD b)) (uBs K P cl XW es))) : PE X ex (uE K P cl XW (.bi b es)) := by
  refine PE.weak h fun σ H Q ⟨Wd, u, ρ, R, p⟩ => ?_
  have p := pO_bind (show pO ((evBs P cl es ρ).bind fun ds => biD b ds) _ _ from p)
  refine ⟨Wd, u, ρ, R, pO_mono p (fun ds _ q v H1 s1 h1 => ?_) fun _ z => z⟩
  exact ⟨Mk Wd u, ds, fun m hm => ne_same s1 (R.mdom m hm), h1, post_of (b := bad XW σ H) (noX_bi b ds) (pO_mono q (fun r _ q3 v' H' s' h' => q3 v' H' (s1.trans s') (h'.back s1)) fun _ z => z)⟩
theorem a_nil : PA X [] (uA K P cl XW .nil) := PA.weak pa_nil fun σ H Q ⟨Wd, u, ρ, R, p⟩ => p [] H (Same.refl H) .nil
theorem a_cons {e : E} {es : Es} {x : Expr} {xs : List Expr} (hs : starEach (x :: xs) X.env = (false, eval x X.env) :: starEach xs X.env) (h1 : PE X x (uE K P cl XW e)) (h2 : PA X xs (uA K P cl XW es)) : PA X (x :: xs) (uA K P cl XW (.cons e es)) := by
  refine PA.weak (pa_cons h1 h2 hs) fun σ H Q ⟨Wd, u, ρ, R, p⟩ => ?_
  have p := pO_bind (show pO ((evE P cl e ρ).bind fun w => w.share.bind fun d => (evEs P cl es ρ).bind fun ds => .ok (d :: ds)) _ _ from p)
  refine ⟨Wd, u, ρ, R, pO_mono p (fun r _ q v H1 s1 h1 => ?_) fun _ z => z⟩
  have q := pO_bind q
  cases er : r.share with
  | exc c => exact absurd er (noX_share r c)
  | stuck => rw [er] at q; exact q.elim
  | ok d =>
    rw [er] at q
    have hd := h1.share R.mdom er
    exact ⟨Wd, u, ρ, R.same s1, pO_mono (pO_bind q) (fun ds _ q2 vs H2 s2 h2 => q2 _ H2 (s1.trans s2) (.cons (De.same (msk_ext s2) _ _ hd) h2)) fun c z => bad_same s1 c z⟩
theorem b_nil : PA X [] (uBs K P cl XW .nil) := PA.weak pa_nil fun σ H Q ⟨Wd, u, ρ, R, p⟩ => p [] H (Same.refl H) .nil
theorem b_cons {e : E} {es : Es} {x : Expr} {xs : List Expr} (hs : starEach (x :: xs) X.env = (false, eval x X.env) :: starEach xs X.env) (h1 : PE X x (uB K P cl XW e)) (h2 : PA X xs (uBs K P cl XW es)) : PA X (x :: xs) (uBs K P cl XW (.cons e es)) := by
  refine PA.weak (pa_cons h1 h2 hs) fun σ H Q ⟨Wd, u, ρ, R, p⟩ => ?_
  have p := pO_bind (show pO ((bor e (evE P cl e ρ) ρ).bind fun d => (evBs P cl es ρ).bind fun ds => .ok (d :: ds)) _ _ from p)
  refine ⟨Wd, u, ρ, R, pO_mono p (fun d _ q v H1 s1 h1 => ?_) fun _ z => z⟩
  exact ⟨Wd, u, ρ, R.same s1, pO_mono (pO_bind q) (fun ds _ q2 vs H2 s2 h2 => q2 _ H2 (s1.trans s2) (.cons (h1.same s2) h2)) fun c z => bad_same s1 c z⟩
theorem lenDe {H : Hp} {M : Msk} {vs : List V} {ds : List PyData} (h : DeAll K (msk M H) vs ds) : vs.length = ds.length := deall_len h
end
end Ev
namespace Ev
open PySem PySem.Spec
open PyProof.Rows L2
section
variable {K : PySem.W.Frag} {Wd : Msk} {u : Nat → Option Addr} {ρ : Env} {σ : L2.St} {H H' : Hp}
theorem Rep.setSh (R : Rep K Wd u ρ σ H) {i : Nat} {d : PyData} {v : V} (hd : De K (msk (Mk Wd u) H) v d) : Rep K Wd u (ρ.set i (some (.sh d))) (σ.set i (some v)) H where
  len := by rw [List.length_set, List.length_set]; exact R.len
  wdom := R.wdom
  udom := R.udom
  udis := R.udis
  uinj := R.uinj
  slot := fun j r h => by
    by_cases hj : i = j
    · subst hj
      by_cases hi : i < ρ.length
      · rw [List.getElem?_set_self hi] at h
        cases h
        exact ⟨v, by rw [List.getElem?_set_self (by rw [← R.len]; exact hi)], hd⟩
      · rw [List.getElem?_eq_none (by rw [List.length_set]; omega)] at h; cases h
    · rw [List.getElem?_set_ne hj] at h ⊢
      exact R.slot j r h
theorem Rep.setNone (R : Rep K Wd u ρ σ H) (i : Nat) (x : Option V) : Rep K Wd u (ρ.set i none) (σ.set i x) H where
  len := by rw [List.length_set, List.length_set]; exact R.len
  wdom := R.wdom
  udom := R.udom
  udis := R.udis
  uinj := R.uinj
  slot := fun j r h => by
    by_cases hj : i = j
    · subst hj
      by_cases hi : i < ρ.length
      · rw [List.getElem?_set_self hi] at h; cases h
      · rw [List.getElem?_eq_none (by rw [List.length_set]; omega)] at h; cases h
    · rw [List.getElem?_set_ne hj] at h ⊢
      exact R.slot j r h
theorem Rep.wipe (R : Rep K Wd u ρ σ H) : ∀ vs : List Nat, Rep K Wd u (wipeE ρ vs) (L2.wipe σ vs) H
  | [] => R
  | v :: vs => (Rep.wipe R vs).setNone v none
def upN (u : Nat → Option Addr) (i : Nat) (x : Option Addr) : Nat → Option Addr := fun j => if j = i then x else u j
theorem upN_same {u : Nat → Option Addr} {i : Nat} {x : Option Addr} : upN u i x i = x := by unfold upN; rw [if_pos rfl]
theorem upN_ne {u : Nat → Option Addr} {i j : Nat} {x : Option Addr} (h : j ≠ i) : upN u i x j = u j := by unfold upN; rw [if_neg h]
theorem Rep.setNew (R : Rep K Wd u ρ σ H) {i : Nat} {w : W} {a : Addr} (e : Same H H') (hn : H a = none) (ha : H' a ≠ none) (hd : SD K (Mk Wd (upN u i (some a))) (upN u i (some a)) H' i w (.ref a)) :
    Rep K Wd (upN u i (some a)) (ρ.set i (some w)) (σ.set i (some (.ref a))) H' := by
  have R' := R.same e
  have hM : ∀ b o, ¬ Mk Wd u b → H b = some o → ¬ Mk Wd (upN u i (some a)) b ∧ H' b = some o := fun b o n q => by
    refine ⟨fun z => ?_, e b o q⟩
    rcases z with z | ⟨j, z⟩
    · exact n (.inl z)
    · by_cases hj : j = i
      · subst hj; rw [upN_same] at z; cases z; rw [hn] at q; cases q
      · rw [upN_ne hj] at z; exact n (.inr ⟨j, z⟩)
  refine ⟨by rw [List.length_set, List.length_set]; exact R.len, R'.wdom, fun j b h => ?_, fun j b h => ?_, fun j k b h1 h2 => ?_, fun j r h => ?_⟩
  · by_cases hj : j = i
    · subst hj; rw [upN_same] at h; cases h; exact ha
    · rw [upN_ne hj] at h; exact R'.udom j b h
  · by_cases hj : j = i
    · subst hj; rw [upN_same] at h; cases h; exact fun z => R.wdom a z hn
    · rw [upN_ne hj] at h; exact R'.udis j b h
  · by_cases hj : j = i
    · subst hj
      rw [upN_same] at h1; cases h1
      by_cases hk : k = j
      · exact hk.symm
      · rw [upN_ne hk] at h2; exact absurd hn (R.udom k a h2)
    · rw [upN_ne hj] at h1
      by_cases hk : k = i
      · subst hk; rw [upN_same] at h2; cases h2; exact absurd hn (R.udom j a h1)
      · rw [upN_ne hk] at h2; exact R.uinj j k b h1 h2
  · by_cases hj : i = j
    · subst hj
      by_cases hi : i < ρ.length
      · rw [List.getElem?_set_self hi] at h
        cases h
        exact ⟨.ref a, by rw [List.getElem?_set_self (by rw [← R.len]; exact hi)], hd⟩
      · rw [List.getElem?_eq_none (by rw [List.length_set]; omega)] at h; cases h
    · rw [List.getElem?_set_ne hj] at h ⊢
      obtain ⟨v, h1, h2⟩ := R.slot j r h
      refine ⟨v, h1, ?_⟩
      cases r with
      | sh d => exact De.same (msk_mono hM) _ _ h2
      | nl m =>
        obtain ⟨b, ys, q1, q2, q3, q4⟩ := h2
        exact ⟨b, ys, by rw [upN_ne fun z => hj z.symm]; exact q1, q2, e _ _ q3, DeAll.same (msk_mono hM) _ _ q4⟩
      | nd m =>
        obtain ⟨b, ys, q1, q2, q3, q4⟩ := h2
        exact ⟨b, ys, by rw [upN_ne fun z => hj z.symm]; exact q1, q2, e _ _ q3, q4.same (msk_mono hM)⟩
theorem addM_up {a : Addr} {i : Nat} : Same (msk (addM (Mk Wd u) a) H) (msk (Mk Wd (upN u i (some a))) H) := msk_mono fun b o n q => ⟨fun z => n (by
  rcases z with z | ⟨k, z⟩
  · exact .inl (.inl z)
  · by_cases hk : k = i
    · subst hk; rw [upN_same] at z; cases z; exact .inr rfl
    · rw [upN_ne hk] at z; exact .inl (.inr ⟨k, z⟩)), q⟩
theorem Rep.setNl (R : Rep K Wd u ρ σ H) {i : Nat} {l : List PyData} {a : Addr} {xs : List V} (e : Same H H') (hn : H a = none) (ha : H' a = some (.lst xs)) (hd : DeAll K (msk (addM (Mk Wd u) a) H') xs l) :
    Rep K Wd (upN u i (some a)) (ρ.set i (some (.nl l))) (σ.set i (some (.ref a))) H' :=
  R.setNew e hn (by rw [ha]; exact fun z => nomatch z) ⟨a, xs, upN_same, rfl, ha, DeAll.same addM_up _ _ hd⟩
theorem Rep.setNd (R : Rep K Wd u ρ σ H) {i : Nat} {l : List (List Int × PyData)} {a : Addr} {xs : DXs} (e : Same H H') (hn : H a = none) (ha : H' a = some (DX a xs)) (hd : KvD K (msk (addM (Mk Wd u) a) H') xs l) :
    Rep K Wd (upN u i (some a)) (ρ.set i (some (.nd l))) (σ.set i (some (.ref a))) H' :=
  R.setNew e hn (by rw [ha]; exact fun z => nomatch z) ⟨a, xs, upN_same, rfl, ha, hd.same addM_up⟩
theorem Rep.chg (R : Rep K Wd u ρ σ H) {i : Nat} {l l' : List PyData} {a : Addr} {xs ys : List V} (hr : ρ[i]? = some (some (.nl l))) (hu : u i = some a) (ha : H a = some (.lst xs)) (hd : DeAll K (msk (Mk Wd u) H) ys l') :
    Rep K Wd u (ρ.set i (some (.nl l'))) σ (upd H a (.lst ys)) := by
  have hs : ∀ b o, ¬ Mk Wd u b → H b = some o → ¬ Mk Wd u b ∧ upd H a (.lst ys) b = some o := fun b o n q => ⟨n, by rw [upd_ne fun z => n (.inr ⟨i, by rw [hu, z]⟩)]; exact q⟩
  have hne : ∀ b, H b ≠ none → upd H a (.lst ys) b ≠ none := fun b h => by
    by_cases hb : b = a
    · subst hb; rw [upd_same]; exact fun z => nomatch z
    · rw [upd_ne hb]; exact h
  refine ⟨by rw [List.length_set]; exact R.len, fun b h => hne b (R.wdom b h), fun j b h => hne b (R.udom j b h), R.udis, R.uinj, fun j r h => ?_⟩
  by_cases hj : i = j
  · subst hj
    have hi : i < ρ.length := (List.getElem?_eq_some_iff.mp hr).1
    rw [List.getElem?_set_self hi] at h
    cases h
    obtain ⟨v, h1, b, zs, q1, q2, q3, q4⟩ := R.slot i _ hr
    rw [hu] at q1; cases q1
    subst q2
    exact ⟨_, h1, a, ys, hu, rfl, upd_same, DeAll.same (msk_mono hs) _ _ hd⟩
  · rw [List.getElem?_set_ne hj] at h
    obtain ⟨v, h1, h2⟩ := R.slot j r h
    have hb : ∀ b, u j = some b → b ≠ a := fun b q z => hj (R.uinj i j a hu (by rw [q, z]))
    refine ⟨v, h1, ?_⟩
    cases r with
    | sh d => exact De.same (msk_mono hs) _ _ h2
    | nl m =>
      obtain ⟨b, zs, q1, q2, q3, q4⟩ := h2
      exact ⟨b, zs, q1, q2, by rw [upd_ne (hb b q1)]; exact q3, DeAll.same (msk_mono hs) _ _ q4⟩
    | nd m =>
      obtain ⟨b, zs, q1, q2, q3, q4⟩ := h2
      exact ⟨b, zs, q1, q2, by rw [upd_ne (hb b q1)]; exact q3, q4.same (msk_mono hs)⟩
theorem Rep.chgD (R : Rep K Wd u ρ σ H) {i : Nat} {l l' : List (List Int × PyData)} {a : Addr} {ys : DXs} (hr : ρ[i]? = some (some (.nd l))) (hu : u i = some a) (hd : KvD K (msk (Mk Wd u) H) ys l') :
    Rep K Wd u (ρ.set i (some (.nd l'))) σ (upd H a (DX a ys)) := by
  have hs : ∀ b o, ¬ Mk Wd u b → H b = some o → ¬ Mk Wd u b ∧ upd H a (DX a ys) b = some o := fun b o n q => ⟨n, by rw [upd_ne fun z => n (.inr ⟨i, by rw [hu, z]⟩)]; exact q⟩
  have hne : ∀ b, H b ≠ none → upd H a (DX a ys) b ≠ none := fun b h => by
    by_cases hb : b = a
    · subst hb; rw [upd_same]; exact fun z => nomatch z
    · rw [upd_ne hb]; exact h
  refine ⟨by rw [List.length_set]; exact R.len, fun b h => hne b (R.wdom b h), fun j b h => hne b (R.udom j b h), R.udis, R.uinj, fun j r h => ?_⟩
  by_cases hj : i = j
  · subst hj
    have hi : i < ρ.length := (List.getElem?_eq_some_iff.mp hr).1
    rw [List.getElem?_set_self hi] at h
    cases h
    obtain ⟨v, h1, b, zs, q1, q2, q3, q4⟩ := R.slot i _ hr
    rw [hu] at q1; cases q1
    subst q2
    exact ⟨_, h1, a, ys, hu, rfl, upd_same, hd.same (msk_mono hs)⟩
  · rw [List.getElem?_set_ne hj] at h
    obtain ⟨v, h1, h2⟩ := R.slot j r h
    have hb : ∀ b, u j = some b → b ≠ a := fun b q z => hj (R.uinj i j a hu (by rw [q, z]))
    refine ⟨v, h1, ?_⟩
    cases r with
    | sh d => exact De.same (msk_mono hs) _ _ h2
    | nl m =>
      obtain ⟨b, zs, q1, q2, q3, q4⟩ := h2
      exact ⟨b, zs, q1, q2, by rw [upd_ne (hb b q1)]; exact q3, DeAll.same (msk_mono hs) _ _ q4⟩
    | nd m =>
      obtain ⟨b, zs, q1, q2, q3, q4⟩ := h2
      exact ⟨b, zs, q1, q2, by rw [upd_ne (hb b q1)]; exact q3, q4.same (msk_mono hs)⟩
theorem Rep.chgDH {H' : Hp} (R : Rep K Wd u ρ σ H) {i : Nat} {l l' : List (List Int × PyData)} {a : Addr} {ys : DXs} (hr : ρ[i]? = some (some (.nd l))) (hu : u i = some a) (hs : ∀ b o, b ≠ a → H b = some o → H' b = some o) (ha : H' a = some (DX a ys)) (hd : KvD K (msk (Mk Wd u) H') ys l') :
    Rep K Wd u (ρ.set i (some (.nd l'))) σ H' := by
  have hm : ∀ b o, ¬ Mk Wd u b → H b = some o → ¬ Mk Wd u b ∧ H' b = some o := fun b o n q => ⟨n, hs b o (fun z => n (.inr ⟨i, by rw [hu, z]⟩)) q⟩
  have hne : ∀ b, H b ≠ none → H' b ≠ none := fun b h => by
    by_cases hb : b = a
    · rw [hb, ha]; exact fun z => nomatch z
    · cases e : H b with
      | none => exact absurd e h
      | some o => rw [hs b o hb e]; exact fun z => nomatch z
  refine ⟨by rw [List.length_set]; exact R.len, fun b h => hne b (R.wdom b h), fun j b h => hne b (R.udom j b h), R.udis, R.uinj, fun j r h => ?_⟩
  by_cases hj : i = j
  · subst hj
    have hi : i < ρ.length := (List.getElem?_eq_some_iff.mp hr).1
    rw [List.getElem?_set_self hi] at h
    cases h
    obtain ⟨v, h1, b, zs, q1, q2, q3, q4⟩ := R.slot i _ hr
    rw [hu] at q1; cases q1
    subst q2
    exact ⟨_, h1, a, ys, hu, rfl, ha, hd⟩
  · rw [List.getElem?_set_ne hj] at h
    obtain ⟨v, h1, h2⟩ := R.slot j r h
    have hb : ∀ b, u j = some b → b ≠ a := fun b q z => hj (R.uinj i j a hu (by rw [q, z]))
    refine ⟨v, h1, ?_⟩
    cases r with
    | sh d => exact De.same (msk_mono hm) _ _ h2
    | nl m =>
      obtain ⟨b, zs, q1, q2, q3, q4⟩ := h2
      exact ⟨b, zs, q1, q2, hs _ _ (hb b q1) q3, DeAll.same (msk_mono hm) _ _ q4⟩
    | nd m =>
      obtain ⟨b, zs, q1, q2, q3, q4⟩ := h2
      exact ⟨b, zs, q1, q2, hs _ _ (hb b q1) q3, q4.same (msk_mono hm)⟩
theorem Rep.pub (R : Rep K Wd u ρ σ H) (i : Nat) : ∃ u', Rep K Wd u' (pubE ρ i) σ H ∧ ∀ j b, u' j = some b → u j = some b := by
  unfold pubE
  split
  · rename_i l e
    obtain ⟨v, h1, a, xs, q1, q2, q3, q4⟩ := R.slot i _ e
    subst q2
    have hlt : i < ρ.length := (List.getElem?_eq_some_iff.mp e).1
    have less : ∀ j b, upN u i none j = some b → u j = some b := fun j b h => by
      by_cases hj : j = i
      · subst hj; rw [upN_same] at h; cases h
      · rw [upN_ne hj] at h; exact h
    have lessM : ∀ b, Mk Wd (upN u i none) b → Mk Wd u b := fun b h => h.elim .inl fun ⟨j, z⟩ => .inr ⟨j, less j b z⟩
    have na : ¬ Mk Wd (upN u i none) a := fun h => by
      rcases h with h | ⟨j, h⟩
      · exact R.udis i a q1 h
      · have hj : j ≠ i := fun z => by subst z; rw [upN_same] at h; cases h
        rw [upN_ne hj] at h
        exact hj (R.uinj j i a h q1)
    refine ⟨upN u i none, ⟨by rw [List.length_set]; exact R.len, R.wdom, fun j b h => R.udom j b (less j b h), fun j b h => R.udis j b (less j b h), fun j k b h1 h2 => R.uinj j k b (less j b h1) (less k b h2), fun j r h => ?_⟩, less⟩
    by_cases hj : i = j
    · subst hj
      rw [List.getElem?_set_self hlt] at h
      cases h
      exact ⟨_, h1, .lst (.inl (.inl (msk_some.mpr ⟨na, q3⟩))) (DeAll.same (msk_less lessM) _ _ q4)⟩
    · rw [List.getElem?_set_ne hj] at h
      obtain ⟨v, h1, h2⟩ := R.slot j r h
      refine ⟨v, h1, ?_⟩
      cases r with
      | sh d => exact De.same (msk_less lessM) _ _ h2
      | nl m =>
        obtain ⟨b, zs, w1, w2, w3, w4⟩ := h2
        exact ⟨b, zs, by rw [upN_ne fun z => hj z.symm]; exact w1, w2, w3, DeAll.same (msk_less lessM) _ _ w4⟩
      | nd m =>
        obtain ⟨b, zs, w1, w2, w3, w4⟩ := h2
        exact ⟨b, zs, by rw [upN_ne fun z => hj z.symm]; exact w1, w2, w3, w4.same (msk_less lessM)⟩
  · rename_i l e
    obtain ⟨v, h1, a, xs, q1, q2, q3, q4⟩ := R.slot i _ e
    subst q2
    have hlt : i < ρ.length := (List.getElem?_eq_some_iff.mp e).1
    have less : ∀ j b, upN u i none j = some b → u j = some b := fun j b h => by
      by_cases hj : j = i
      · subst hj; rw [upN_same] at h; cases h
      · rw [upN_ne hj] at h; exact h
    have lessM : ∀ b, Mk Wd (upN u i none) b → Mk Wd u b := fun b h => h.elim .inl fun ⟨j, z⟩ => .inr ⟨j, less j b z⟩
    have na : ¬ Mk Wd (upN u i none) a := fun h => by
      rcases h with h | ⟨j, h⟩
      · exact R.udis i a q1 h
      · have hj : j ≠ i := fun z => by subst z; rw [upN_same] at h; cases h
        rw [upN_ne hj] at h
        exact hj (R.uinj j i a h q1)
    refine ⟨upN u i none, ⟨by rw [List.length_set]; exact R.len, R.wdom, fun j b h => R.udom j b (less j b h), fun j b h => R.udis j b (less j b h), fun j k b h1 h2 => R.uinj j k b (less j b h1) (less k b h2), fun j r h => ?_⟩, less⟩
    by_cases hj : i = j
    · subst hj
      rw [List.getElem?_set_self hlt] at h
      cases h
      exact ⟨_, h1, .dct (msk_some.mpr ⟨na, q3⟩) (q4.same (msk_less lessM)).de⟩
    · rw [List.getElem?_set_ne hj] at h
      obtain ⟨v, h1, h2⟩ := R.slot j r h
      refine ⟨v, h1, ?_⟩
      cases r with
      | sh d => exact De.same (msk_less lessM) _ _ h2
      | nl m =>
        obtain ⟨b, zs, w1, w2, w3, w4⟩ := h2
        exact ⟨b, zs, by rw [upN_ne fun z => hj z.symm]; exact w1, w2, w3, DeAll.same (msk_less lessM) _ _ w4⟩
      | nd m =>
        obtain ⟨b, zs, w1, w2, w3, w4⟩ := h2
        exact ⟨b, zs, by rw [upN_ne fun z => hj z.symm]; exact w1, w2, w3, w4.same (msk_less lessM)⟩
  · exact ⟨u, R, fun _ _ h => h⟩
end
def Stb (br : Bool) (M : Msk) (H1 : Hp) (M2 : Msk) (H2 : Hp) : Prop :=
  (∀ m, M2 m → H2 m ≠ none) ∧ (∀ b o, ¬ M b → H1 b = some o → ¬ M2 b ∧ H2 b = some o) ∧ (br = true → Same H1 H2)
def WalkD (K : PySem.W.Frag) (br : Bool) (M : Msk) (H1 : Hp) (J : It) (items : List PyData) : Prop :=
  ∃ G Y, Walk J items.length G Y ∧ (∀ M2 H2, Stb br M H1 M2 H2 → G H2) ∧
    ∀ i x H2 H3 M2 d, items[i]? = some d → Stb br M H1 M2 H2 → Y i H2 x H3 → Same H2 H3 ∧ De K (msk M2 H3) x d
def DQ (br : Bool) (K : PySem.W.Frag) (M : Msk) (H : Hp) (v : V) (d : PyData) : Prop := if br = true then DB K M H v d else De K (msk M H) v d
section
variable {K : PySem.W.Frag} {br : Bool} {M : Msk} {H : Hp} {v : V}
theorem DQ.db {d : PyData} (h : DQ br K M H v d) : DB K M H v d := by
  unfold DQ at h
  cases br with
  | true => exact h
  | false => exact .inl h
theorem DQ.same {H' : Hp} {d : PyData} (e : Same H H') (h : DQ br K M H v d) : DQ br K M H' v d := by
  unfold DQ at h ⊢
  cases br with
  | true => exact DB.same e h
  | false => exact De.same (msk_ext e) _ _ h
theorem DQ.list {l : List PyData} (h : DQ br K M H v (.list l)) : ∃ a xs, v = .ref a ∧ SqL K H a xs ∧ (∀ M2 H2, Stb br M H M2 H2 → SqL K H2 a xs) ∧ DeAll K (msk M H) xs l := by
  cases br with
  | true =>
    obtain ⟨a, xs, e, h1, h2⟩ := DB.list (show DB K M H v (.list l) from h)
    exact ⟨a, xs, e, h1, fun M2 H2 st => sq_same (st.2.2 rfl) h1, h2⟩
  | false =>
    cases (show De K (msk M H) v (.list l) from h) with
    | lst hs ha => exact ⟨_, _, rfl, sq_same msk_same hs, fun M2 H2 st => sq_same msk_same (sq_same (msk_mono st.2.1) hs), ha⟩
theorem DQ.tuple {l : List PyData} (h : DQ br K M H v (.tuple l)) : ∃ a xs, v = .ref a ∧ SqT K H a xs ∧ (∀ M2 H2, Stb br M H M2 H2 → SqT K H2 a xs) ∧ DeAll K (msk M H) xs l := by
  obtain ⟨a, xs, e, h1, h2, h3⟩ := (DQ.db h).tuple
  exact ⟨a, xs, e, h1, fun M2 H2 st => st_same msk_same (st_same (msk_mono st.2.1) h2.toT), h3⟩
theorem WalkD.of {J : It} {items : List PyData} {xs : List V} {G : Hp → Prop} {Y : Nat → Hp → V → Hp → Prop} (w : Walk J xs.length G Y) (hG : ∀ M2 H2, Stb br M H M2 H2 → G H2) (hd : DeAll K (msk M H) xs items)
    (hY : ∀ i H2 x H3, Y i H2 x H3 → H3 = H2 ∧ xs[i]? = some x) : WalkD K br M H J items := by
  refine ⟨G, Y, by rw [← deall_len hd]; exact w, hG, fun i x H2 H3 M2 d hi st y => ?_⟩
  obtain ⟨rfl, hx⟩ := hY _ _ _ _ y
  obtain ⟨x', h1, h2⟩ := deall_get hd hi
  rw [hx] at h1; cases h1
  exact ⟨Same.refl _, De.same (msk_mono st.2.1) _ _ h2⟩
theorem deall_rev : ∀ {vs : List V} {ds : List PyData}, DeAll K H vs ds → DeAll K H vs.reverse ds.reverse
  | _, _, .nil => .nil
  | _, _, .cons h t => by rw [List.reverse_cons, List.reverse_cons]; exact deall_app (deall_rev t) (deall_one h)
def YPairF (xs ys : Nat → Option V) : Nat → Hp → V → Hp → Prop := fun i H v H' => ∃ T x y ob, ob.dict = none ∧ v = .ref T ∧ H T = none ∧ H' = upd H T (.frz ob (.tup [x, y])) ∧ xs i = some x ∧ ys i = some y
theorem WalkD.pair {J : It} {xs ys : List V} {as bs : List PyData} {n : Nat} {G : Hp → Prop} (w : Walk J n G (YPairF (fun i => xs[i]?) (fun i => ys[i]?))) (hn : n = min xs.length ys.length) (hG : ∀ M2 H2, Stb br M H M2 H2 → G H2)
    (ha : DeAll K (msk M H) xs as) (hb : DeAll K (msk M H) ys bs) : WalkD K br M H J (List.zipWith pairD as bs) := by
  refine ⟨G, _, by rw [List.length_zipWith, ← deall_len ha, ← deall_len hb, ← hn]; exact w, hG, fun i x H2 H3 M2 d hi st y => ?_⟩
  obtain ⟨T, p, q, ob, hob, rfl, hT, rfl, e1, e2⟩ := y
  rw [List.getElem?_zipWith] at hi
  cases ea : as[i]? with
  | none => rw [ea] at hi; cases hi
  | some a' =>
    cases eb : bs[i]? with
    | none => rw [ea, eb] at hi; cases hi
    | some b' =>
      rw [ea, eb] at hi
      cases hi
      obtain ⟨p', h1, h2⟩ := deall_get ha ea
      obtain ⟨q', h3, h4⟩ := deall_get hb eb
      have e1 : xs[i]? = some p := e1
      have e2 : ys[i]? = some q := e2
      rw [e1] at h1; cases h1
      rw [e2] at h3; cases h3
      have hs : Same H2 (upd H2 T (.frz ob (.tup [p, q]))) := same_new hT
      have tr : ∀ {w : V} {z : PyData}, De K (msk M H) w z → De K (msk M2 (upd H2 T (.frz ob (.tup [p, q])))) w z := fun {w z} h => De.same ((msk_mono st.2.1).trans (msk_ext hs)) _ _ h
      exact ⟨hs, .tup (.inl ⟨ob, hob, msk_some.mpr ⟨fun z => st.1 T z hT, upd_same⟩⟩) (.cons (tr h2) (.cons (tr h4) .nil))⟩
def YTrip (xs ys zs : Nat → Option V) : Nat → Hp → V → Hp → Prop := fun i H v H' => ∃ T x y z ob, ob.dict = none ∧ v = .ref T ∧ H T = none ∧ H' = upd H T (.frz ob (.tup [x, y, z])) ∧ xs i = some x ∧ ys i = some y ∧ zs i = some z
theorem zipW3_get : ∀ {as bs cs : List PyData} {i : Nat} {d : PyData}, (zipW3 as bs cs)[i]? = some d → ∃ x y z, d = tripD x y z ∧ as[i]? = some x ∧ bs[i]? = some y ∧ cs[i]? = some z
  | [], _, _, _, _, h => by simp [zipW3] at h
  | _ :: _, [], _, _, _, h => by simp [zipW3] at h
  | _ :: _, _ :: _, [], _, _, h => by simp [zipW3] at h
  | x :: as, y :: bs, z :: cs, 0, d, h => by
    have h : some (tripD x y z) = some d := h
    exact ⟨x, y, z, (Option.some.inj h).symm, rfl, rfl, rfl⟩
  | x :: as, y :: bs, z :: cs, i + 1, d, h => zipW3_get (as := as) (bs := bs) (cs := cs) (i := i) h
theorem zipW3_len : ∀ as bs cs : List PyData, (zipW3 as bs cs).length = min as.length (min bs.length cs.length)
  | [], _, _ => by simp [zipW3]
  | _ :: _, [], _ => by simp [zipW3]
  | _ :: _, _ :: _, [] => by simp [zipW3]
  | x :: as, y :: bs, z :: cs => by
    show (zipW3 as bs cs).length + 1 = min (as.length + 1) (min (bs.length + 1) (cs.length + 1))
    rw [zipW3_len as bs cs]; omega
theorem WalkD.trip {J : It} {xs ys zs : List V} {as bs cs : List PyData} {n : Nat} {G : Hp → Prop} (w : Walk J n G (YTrip (fun i => xs[i]?) (fun i => ys[i]?) (fun i => zs[i]?))) (hn : n = min xs.length (min ys.length zs.length)) (hG : ∀ M2 H2, Stb br M H M2 H2 → G H2)
    (ha : DeAll K (msk M H) xs as) (hb : DeAll K (msk M H) ys bs) (hc : DeAll K (msk M H) zs cs) : WalkD K br M H J (zipW3 as bs cs) := by
  refine ⟨G, _, by rw [zipW3_len, ← deall_len ha, ← deall_len hb, ← deall_len hc, ← hn]; exact w, hG, fun i x H2 H3 M2 d hi st y => ?_⟩
  obtain ⟨T, p, q, r, ob, hob, rfl, hT, rfl, e1, e2, e3⟩ := y
  obtain ⟨a', b', c', rfl, ea, eb, ec⟩ := zipW3_get hi
  obtain ⟨p', h1, h2⟩ := deall_get ha ea
  obtain ⟨q', h3, h4⟩ := deall_get hb eb
  obtain ⟨r', h5, h6⟩ := deall_get hc ec
  have e1 : xs[i]? = some p := e1
  have e2 : ys[i]? = some q := e2
  have e3 : zs[i]? = some r := e3
  rw [e1] at h1; cases h1
  rw [e2] at h3; cases h3
  rw [e3] at h5; cases h5
  have hs : Same H2 (upd H2 T (.frz ob (.tup [p, q, r]))) := same_new hT
  have tr : ∀ {w : V} {z : PyData}, De K (msk M H) w z → De K (msk M2 (upd H2 T (.frz ob (.tup [p, q, r])))) w z := fun {w z} h => De.same ((msk_mono st.2.1).trans (msk_ext hs)) _ _ h
  exact ⟨hs, .tup (.inl ⟨ob, hob, msk_some.mpr ⟨fun z => st.1 T z hT, upd_same⟩⟩) (.cons (tr h2) (.cons (tr h4) (.cons (tr h6) .nil)))⟩
theorem WalkD.range {lo : Int} {n : Nat} : WalkD K br M H (Itr lo n) ((List.range n).map fun k => .int (lo + (k : Nat))) := by
  refine ⟨_, _, by rw [List.length_map, List.length_range]; exact walk_range, fun _ _ _ => trivial, fun i x H2 H3 M2 d hi st y => ?_⟩
  obtain ⟨rfl, rfl⟩ := y
  rw [List.getElem?_map] at hi
  by_cases h : i < n
  · rw [List.getElem?_range h] at hi
    cases hi
    exact ⟨Same.refl _, .int _⟩
  · rw [List.getElem?_eq_none (by rw [List.length_range]; omega)] at hi; cases hi
theorem WalkD.rangeC {lo c : Int} {n : Nat} : WalkD K br M H (Itc lo c n) (rng3D lo c n) := by
  unfold rng3D
  refine ⟨_, _, by rw [List.length_map, List.length_range]; exact walk_rangeC, fun _ _ _ => trivial, fun i x H2 H3 M2 d hi st y => ?_⟩
  obtain ⟨rfl, rfl⟩ := y
  rw [List.getElem?_map] at hi
  by_cases h : i < n
  · rw [List.getElem?_range h] at hi
    cases hi
    exact ⟨Same.refl _, .int _⟩
  · rw [List.getElem?_eq_none (by rw [List.length_range]; omega)] at hi; cases hi
end
end Ev
namespace Ev
open PySem PySem.Spec
open PyProof.Rows L2
def gL : List Nat → TGs
  | [] => gNil
  | i :: is => gCons (gName i) (gL is)
def gT (K : PySem.W.Frag) : Tg → TG
  | .nm i => gName i
  | .tp is => gTup K is.length (gL is)
def Tg.ixs : Tg → List Nat
  | .nm i => [i]
  | .tp is => is
def Agree (vs : List Nat) (σ σ' : L2.St) : Prop := σ'.length = σ.length ∧ ∀ j, j ∉ vs → σ'[j]? = σ[j]?
theorem Agree.refl (vs : List Nat) (σ : L2.St) : Agree vs σ σ := ⟨rfl, fun _ _ => rfl⟩
theorem Agree.trans {vs : List Nat} {a b c : L2.St} (h : Agree vs a b) (k : Agree vs b c) : Agree vs a c := ⟨k.1.trans h.1, fun j n => (k.2 j n).trans (h.2 j n)⟩
theorem Agree.set {vs : List Nat} {σ : L2.St} {i : Nat} {x : Option V} (h : i ∈ vs) : Agree vs σ (σ.set i x) :=
  ⟨by rw [List.length_set], fun j n => List.getElem?_set_ne fun z => n (by rw [← z]; exact h)⟩
theorem wipe_get {σ : L2.St} {j : Nat} : ∀ {vs : List Nat}, (L2.wipe σ vs)[j]? = if j ∈ vs then (σ[j]?).map fun _ => none else σ[j]?
  | [] => by simp [L2.wipe]
  | v :: vs => by
    unfold L2.wipe
    by_cases h : v = j
    · subst h
      rw [if_pos List.mem_cons_self]
      by_cases hl : v < σ.length
      · rw [List.getElem?_set_self (by rw [wipe_length]; exact hl), List.getElem?_eq_getElem hl]; rfl
      · rw [List.getElem?_eq_none (by rw [List.length_set, wipe_length]; omega), List.getElem?_eq_none (by omega)]; rfl
    · rw [List.getElem?_set_ne h, wipe_get]
      by_cases hj : j ∈ vs
      · rw [if_pos hj, if_pos (List.mem_cons_of_mem _ hj)]
      · rw [if_neg hj, if_neg (fun z => (List.mem_cons.mp z).elim (fun q => h q.symm) hj)]
theorem wipe_agree {vs : List Nat} {σ σ' : L2.St} (h : Agree vs σ σ') : L2.wipe σ' vs = L2.wipe σ vs := by
  apply List.ext_getElem?
  intro j
  rw [wipe_get, wipe_get]
  by_cases hj : j ∈ vs
  · rw [if_pos hj, if_pos hj]
    by_cases hl : j < σ.length
    · rw [List.getElem?_eq_getElem hl, List.getElem?_eq_getElem (by rw [h.1]; exact hl)]; rfl
    · rw [List.getElem?_eq_none (show σ.length ≤ j by omega), List.getElem?_eq_none (show σ'.length ≤ j by rw [h.1]; omega)]
  · rw [if_neg hj, if_neg hj, h.2 j hj]
theorem agree_wipe (σ : L2.St) (vs : List Nat) : Agree vs σ (L2.wipe σ vs) := ⟨wipe_length σ vs, fun j n => by rw [wipe_get, if_neg n]⟩
section
variable {K : PySem.W.Frag} {Wd : Msk} {u : Nat → Option Addr}
theorem gL_ok {H : Hp} {Q : L2.St → Hp → Prop} {vs : List Nat} : ∀ (is : List Nat) (l : List PyData) (xs : List V) (ρ : Env) (σ : L2.St), is.length = l.length → (∀ i ∈ is, i ∈ vs) → Rep K Wd u ρ σ H → DeAll K (msk (Mk Wd u) H) xs l →
    (∀ σ', Rep K Wd u ((is.zip l).foldl (fun ρ p => ρ.set p.1 (some (.sh p.2))) ρ) σ' H → Agree vs σ σ' → Q σ' H) → gL is xs σ H Q
  | [], [], _, ρ, σ, _, _, R, h, q => by
    cases h
    exact ⟨rfl, q σ R (Agree.refl vs σ)⟩
  | i :: is, d :: l, _, ρ, σ, hl, hv, R, h, q => by
    cases h with
    | cons h1 h2 =>
      refine ⟨_, _, rfl, ?_⟩
      show gL is _ (σ.set i (some _)) H Q
      exact gL_ok is l _ _ _ (Nat.succ.inj hl) (fun j hj => hv j (List.mem_cons_of_mem _ hj)) (R.setSh h1) h2 fun σ' R' a => q σ' R' ((Agree.set (hv i List.mem_cons_self)).trans a)
  | [], _ :: _, _, _, _, hl, _, _, _, _ => by cases hl
  | _ :: _, [], _, _, _, hl, _, _, _, _ => by cases hl
theorem gT_ok {tg : Tg} {d : PyData} {ρ ρ' : Env} {σ : L2.St} {H : Hp} {x : V} {Q : L2.St → Hp → Prop} {vs : List Nat} (hv : ∀ i ∈ tg.ixs, i ∈ vs) (R : Rep K Wd u ρ σ H) (hd : De K (msk (Mk Wd u) H) x d) (hb : bindTg tg d ρ = some ρ')
    (q : ∀ σ', Rep K Wd u ρ' σ' H → Agree vs σ σ' → Q σ' H) : gT K tg x σ H Q := by
  cases tg with
  | nm i =>
    have hb : (if i < ρ.length then some (ρ.set i (some (.sh d))) else none) = some ρ' := hb
    by_cases hi : i < ρ.length
    · rw [if_pos hi] at hb; cases hb
      exact q _ (R.setSh hd) (Agree.set (hv i (List.mem_singleton.mpr rfl)))
    · rw [if_neg hi] at hb; cases hb
  | tp is =>
    cases d with
    | tuple l =>
      have hb : (if is.length = l.length ∧ is.all (· < ρ.length) then some ((is.zip l).foldl (fun ρ p => ρ.set p.1 (some (.sh p.2))) ρ) else none) = some ρ' := hb
      by_cases hi : is.length = l.length ∧ is.all (· < ρ.length)
      · rw [if_pos hi] at hb; cases hb
        cases hd with
        | tup hs ha => exact ⟨_, _, rfl, st_same msk_same hs.toT, by rw [deall_len ha, hi.1], gL_ok is l _ ρ σ hi.1 hv R ha q⟩
      · rw [if_neg hi] at hb; cases hb
    | _ => cases hb
end
theorem walk_revT {K : PySem.W.Frag} {a : Addr} {xs : List V} : Walk (RT.ItvT K a xs.length) xs.length (fun H => SqT K H a xs) (fun i H x H' => H' = H ∧ xs[xs.length - 1 - i]? = some x) where
  goes := fun i H hi q => ⟨hi, xs, _, q, List.getElem?_eq_getElem (show xs.length - 1 - i < xs.length by omega)⟩
  stops := fun H q => Nat.le_refl _
  yields := fun i H x H' hi q y => ⟨y.1, y.2 xs q⟩
theorem walk_enumM {K : PySem.W.Frag} {a : Addr} {xs : List V} {k : Bool} : Walk (IteM K a k) xs.length (fun H => SqK K H a xs k) (YPairF (fun i => some (.int (i : Nat))) (fun i => xs[i]?)) where
  goes := fun i H hi q => ⟨xs, _, q, List.getElem?_eq_getElem hi⟩
  stops := fun H q => ⟨xs, q, rfl⟩
  yields := fun i H v H' hi q y => by
    obtain ⟨T, x, ob, h0, h1, h2, h3, h4⟩ := y
    exact ⟨T, .int (i : Nat), x, ob, h0, h1, h2, h3, rfl, h4 xs q⟩
theorem walk_zipM {K : PySem.W.Frag} {a b : Addr} {xs ys : List V} {k l : Bool} : Walk (ItzM K a b k l) (min xs.length ys.length) (fun H => SqK K H a xs k ∧ SqK K H b ys l) (YPairF (fun i => xs[i]?) (fun i => ys[i]?)) where
  goes := fun i H hi q => ⟨xs, ys, _, _, q.1, q.2, List.getElem?_eq_getElem (show i < xs.length by omega), List.getElem?_eq_getElem (show i < ys.length by omega)⟩
  stops := fun H q => ⟨xs, ys, q.1, q.2, by omega, by omega, by omega⟩
  yields := fun i H v H' hi q y => by
    obtain ⟨T, x, z, ob, h0, h1, h2, h3, h4, h5⟩ := y
    exact ⟨T, x, z, ob, h0, h1, h2, h3, h4 xs q.1, h5 ys q.2⟩
theorem walk_zipM3 {K : PySem.W.Frag} {a b d : Addr} {xs ys zs : List V} {k l m : Bool} : Walk (ItzM3 K a b d k l m) (min xs.length (min ys.length zs.length)) (fun H => SqK K H a xs k ∧ SqK K H b ys l ∧ SqK K H d zs m) (YTrip (fun i => xs[i]?) (fun i => ys[i]?) (fun i => zs[i]?)) where
  goes := fun i H hi q => ⟨xs, ys, zs, _, _, _, q.1, q.2.1, q.2.2, List.getElem?_eq_getElem (show i < xs.length by omega), List.getElem?_eq_getElem (show i < ys.length by omega), List.getElem?_eq_getElem (show i < zs.length by omega)⟩
  stops := fun H q => ⟨xs, ys, zs, q.1, q.2.1, q.2.2, by omega, by omega, by omega, by omega⟩
  yields := fun i H v H' hi q y => by
    obtain ⟨T, x, z, w, ob, h0, h1, h2, h3, h4, h5, h6⟩ := y
    exact ⟨T, x, z, w, ob, h0, h1, h2, h3, h4 xs q.1, h5 ys q.2.1, h6 zs q.2.2⟩
section
variable (K : PySem.W.Frag) (P : Prg) (cl : Nat → List PyData → Out W) (XW : Nat → L2.St → Hp → Prop) (br : Bool)
def uQ (e : E) : TE := fun σ H Q => ∃ Wd u ρ, Rep K Wd u ρ σ H ∧ (br = true ∨ shE e ρ = true) ∧ pO (bor e (evE P cl e ρ) ρ) (fun d => ∀ v H', Same H H' → DQ br K (Mk Wd u) H' v d → Q v H') (bad XW σ H)
def uI (src : Src) : TI := fun σ H R => ∃ Wd u ρ, Rep K Wd u ρ σ H ∧ (br = true ∨ srcSh src ρ = true) ∧ pO (evI P cl src ρ) (fun items => ∀ J H', Same H H' → WalkD K br (Mk Wd u) H' J items → R J H') (bad XW σ H)
end
section
variable {K : PySem.W.Frag} {P : Prg} {cl : Nat → List PyData → Out W} {XW : Nat → L2.St → Hp → Prop} {X : Cx} {br : Bool}
theorem pe_Q {e : E} {ex : Expr} (h : ∀ i, e = .var i → PE X ex (tVar i)) (g : PE X ex (uE K P cl XW e)) : PE X ex (uQ K P cl XW br e) := by
  cases br with
  | true =>
    have hB : PE X ex (uB K P cl XW e) := by
      by_cases hv : ∃ j, e = .var j
      · obtain ⟨j, rfl⟩ := hv
        exact pe_B (i := j) (x := "") (pos := ⟨0, 0, 0, 0⟩) (fun _ => h j rfl) g fun k z => by cases z; rfl
      · exact PE.weak g fun σ H Q q => uB_of (fun j z => hv ⟨j, z⟩) q
    exact PE.weak hB fun σ H Q ⟨Wd, u, ρ, R, _, p⟩ => ⟨Wd, u, ρ, R, pO_mono p (fun d _ q v H' s hd => q v H' s hd) fun _ z => z⟩
  | false =>
    by_cases hv : ∃ j, e = .var j
    · obtain ⟨j, rfl⟩ := hv
      refine PE.weak (h j rfl) fun σ H Q ⟨Wd, u, ρ, R, sh, p⟩ => ?_
      rcases sh with sh | sh
      · cases sh
      · have sh : isSh ρ j = true := sh
        have p : pO (slotS ρ j) (fun d => ∀ v H', Same H H' → DQ false K (Mk Wd u) H' v d → Q v H') (bad XW σ H) := p
        unfold isSh at sh
        split at sh
        · rename_i d e
          unfold slotS at p
          rw [e] at p
          obtain ⟨v, h1, h2⟩ := R.slot j _ e
          exact ⟨v, h1, p v H (Same.refl H) h2⟩
        · cases sh
    · refine PE.weak g fun σ H Q ⟨Wd, u, ρ, R, _, p⟩ => ?_
      have eb : bor e (evE P cl e ρ) ρ = (evE P cl e ρ).bind W.share := by
        cases e <;> first | rfl | exact absurd ⟨_, rfl⟩ hv
      rw [eb] at p
      refine ⟨Wd, u, ρ, R, pO_mono (pO_bind p) (fun r _ q v H' s d => ?_) fun _ z => z⟩
      cases r with
      | sh x => exact q v H' s (d.share R.mdom rfl)
      | nl x => exact q v H' s (d.share R.mdom rfl)
      | nd x => exact q.elim
theorem PI.weak2 {tg ex : Expr} {t1 t2 t' : TI} (p1 : PI X tg ex t1) (p2 : PI X tg ex t2) (w : ∀ σ H R, t' σ H R → t1 σ H R ∨ t2 σ H R) : PI X tg ex t' :=
  ⟨fun pins s σ H R I h => (w σ H R h).elim (p1.run pins s σ H R I) (p2.run pins s σ H R I)⟩
theorem PI.weak {tg ex : Expr} {t1 t' : TI} (p1 : PI X tg ex t1) (w : ∀ σ H R, t' σ H R → t1 σ H R) : PI X tg ex t' :=
  ⟨fun pins s σ H R I h => p1.run pins s σ H R I (w σ H R h)⟩
theorem noX_seq (d : PyData) : NoX (seqD d) := fun c h => by cases d <;> cases h
theorem noX_rng1 (d : PyData) : NoX (rng1D d) := fun c h => by cases d <;> first | (cases h; done) | (simp only [rng1D] at h; split at h <;> cases h)
theorem noX_rng2 (d e : PyData) : NoX (rng2D d e) := fun c h => by cases d <;> cases e <;> first | (cases h; done) | (simp only [rng2D] at h; split at h <;> cases h)
theorem walk_strD {H : Hp} {M : Msk} {z : Str} : WalkD K br M H (Its z) (z.cps.toList.map fun c => .str ⟨#[c]⟩) := by
  refine ⟨_, _, by rw [List.length_map, Array.length_toList]; exact walk_str, fun _ _ _ => trivial, fun i x H2 H3 M2 d hi st y => ?_⟩
  obtain ⟨rfl, c, hc, rfl⟩ := y
  rw [List.getElem?_map, Array.getElem?_toList, hc] at hi
  cases hi
  exact ⟨Same.refl _, .str _⟩
theorem i_seq {e : E} {tg ex : Expr} (hK : X.K = K) (h : PE X ex (uQ K P cl XW br e)) : PI X tg ex (uI K P cl XW br (.seq e)) := by
  subst hK
  refine PI.weak2 (PI.weak2 (pi_list h) (pi_tup h) (t' := fun σ H R => iList X.K (uQ X.K P cl XW br e) σ H R ∨ iTup X.K (uQ X.K P cl XW br e) σ H R) fun σ H R q => q) (pi_str h) fun σ H R ⟨Wd, u, ρ, R', sh, p⟩ => ?_
  have p := (show pO ((bor e (evE P cl e ρ) ρ).bind seqD) _ _ from p)
  cases eb : bor e (evE P cl e ρ) ρ with
  | exc c => rw [eb] at p; exact .inl (.inl ⟨Wd, u, ρ, R', sh, by rw [eb]; exact p⟩)
  | stuck => rw [eb] at p; exact p.elim
  | ok d =>
    rw [eb] at p
    cases d with
    | list l =>
      refine .inl (.inl ⟨Wd, u, ρ, R', sh, ?_⟩)
      rw [eb]
      intro v H' s hd
      obtain ⟨a, xs, rfl, h1, h2, h3⟩ := hd.list
      exact ⟨a, rfl, ⟨xs, h1⟩, p _ _ s (WalkD.of walk_list h2 h3 fun _ _ _ _ y => y)⟩
    | tuple l =>
      refine .inl (.inr ⟨Wd, u, ρ, R', sh, ?_⟩)
      rw [eb]
      intro v H' s hd
      obtain ⟨a, xs, rfl, h1, h2, h3⟩ := hd.tuple
      exact ⟨a, rfl, ⟨xs, h1⟩, p _ _ s (WalkD.of walk_tup h2 h3 fun _ _ _ _ y => y)⟩
    | str z =>
      refine .inr ⟨Wd, u, ρ, R', sh, ?_⟩
      rw [eb]
      intro v H' s hd
      exact ⟨z, hd.db.str, p _ _ s walk_strD⟩
    | _ => exact p.elim
theorem i_rng1 {a : E} {tg x : Expr} {p pos : Pos} (hg : Gl X "range") (hm : X.mg "range" = none) (hs : starEach [x] X.env = [(false, eval x X.env)]) (h : PE X x (uB K P cl XW a)) : PI X tg (.Call (.Name "range" p) [x] [] pos) (uI K P cl XW br (.rng1 a)) := by
  refine PI.weak (pi_range1 hg hm (pa_cons h pa_nil hs) hs) fun σ H R ⟨Wd, u, ρ, R', sh, p⟩ => ?_
  have p := pO_bind (show pO ((bor a (evE P cl a ρ) ρ).bind rng1D) _ _ from p)
  refine ⟨Wd, u, ρ, R', pO_mono p (fun d _ q v H1 s1 h1 => ?_) fun _ z => z⟩
  cases d with
  | int n =>
    have q : pO (if smallI n = true then Out.ok (rngD 0 n) else .stuck) _ _ := q
    by_cases hn : smallI n = true
    · rw [if_pos hn] at q
      unfold smallI at hn
      rw [Bool.and_eq_true] at hn
      have n1 := of_decide_eq_true hn.1
      have n2 := of_decide_eq_true hn.2
      refine ⟨n, by rw [h1.int], by omega, by omega, q _ _ s1 ?_⟩
      unfold rngD
      exact WalkD.range
    · rw [if_neg hn] at q; exact q.elim
  | _ => exact q.elim
theorem i_rng2 {a b : E} {tg x y : Expr} {p pos : Pos} (hg : Gl X "range") (hm : X.mg "range" = none) (hs : starEach [x, y] X.env = [(false, eval x X.env), (false, eval y X.env)]) (hs2 : starEach [y] X.env = [(false, eval y X.env)]) (h : PE X x (uB K P cl XW a)) (h2 : PE X y (uB K P cl XW b)) :
    PI X tg (.Call (.Name "range" p) [x, y] [] pos) (uI K P cl XW br (.rng2 a b)) := by
  refine PI.weak (pi_range2 hg hm (pa_cons h (pa_cons h2 pa_nil hs2) (by rw [hs, hs2])) hs hs2) fun σ H R ⟨Wd, u, ρ, R', sh, p⟩ => ?_
  have p := pO_bind (show pO ((bor a (evE P cl a ρ) ρ).bind fun x => (bor b (evE P cl b ρ) ρ).bind fun y => rng2D x y) _ _ from p)
  refine ⟨Wd, u, ρ, R', pO_mono p (fun d _ q v H1 s1 h1 => ⟨Wd, u, ρ, R'.same s1, pO_mono (pO_bind q) (fun e _ q w H2 s2 h2 => ?_) fun c z => bad_same s1 c z⟩) fun _ z => z⟩
  cases d with
  | int n =>
    cases e with
    | int m =>
      have q : pO (if (smallI n && smallI m) = true then Out.ok (rngD n (m - n)) else .stuck) _ _ := q
      by_cases hn : (smallI n && smallI m) = true
      · rw [if_pos hn] at q
        rw [Bool.and_eq_true] at hn
        obtain ⟨ha, hb⟩ := hn
        unfold smallI at ha hb
        rw [Bool.and_eq_true] at ha hb
        have n1 := of_decide_eq_true ha.1
        have n2 := of_decide_eq_true ha.2
        have n3 := of_decide_eq_true hb.1
        have n4 := of_decide_eq_true hb.2
        refine ⟨n, m, by rw [(h1.same s2).int, h2.int], ⟨by omega, by omega, by omega, by omega⟩, q _ _ (s1.trans s2) ?_⟩
        unfold rngD
        exact WalkD.range
      · rw [if_neg hn] at q; exact q.elim
    | _ => exact q.elim
  | _ => cases e <;> exact q.elim
theorem i_rng3 {a b c : E} {tg x y z : Expr} {p pos : Pos} (hg : Gl X "range") (hm : X.mg "range" = none) (hs1 : starEach [z] X.env = [(false, eval z X.env)]) (hs2 : starEach [y, z] X.env = (false, eval y X.env) :: starEach [z] X.env) (hs3 : starEach [x, y, z] X.env = (false, eval x X.env) :: starEach [y, z] X.env)
    (h : PE X x (uB K P cl XW a)) (h2 : PE X y (uB K P cl XW b)) (h3 : PE X z (uB K P cl XW c)) :
    PI X tg (.Call (.Name "range" p) [x, y, z] [] pos) (uI K P cl XW br (.rng3 a b c)) := by
  refine PI.weak (pi_range3 hg hm (pa_cons h (pa_cons h2 (pa_cons h3 pa_nil hs1) hs2) hs3) hs3 (by rw [hs2, hs1]; rfl)) fun σ H R ⟨Wd, u, ρ, R', sh, p⟩ => ?_
  have p := pO_bind (show pO ((bor a (evE P cl a ρ) ρ).bind fun x => (bor b (evE P cl b ρ) ρ).bind fun y => (bor c (evE P cl c ρ) ρ).bind fun z => rngE3 x y z) _ _ from p)
  refine ⟨Wd, u, ρ, R', pO_mono p (fun d _ q v H1 s1 h1 => ⟨Wd, u, ρ, R'.same s1, pO_mono (pO_bind q) (fun e _ q w H2 s2 h2 => ⟨Wd, u, ρ, R'.same (s1.trans s2), pO_mono (pO_bind q) (fun f _ q w' H3 s3 h3 => ?_) fun c z => bad_same (s1.trans s2) c z⟩) fun c z => bad_same s1 c z⟩) fun _ z => z⟩
  cases d with
  | int n =>
    cases e with
    | int m =>
      cases f with
      | int k =>
        have q : pO (if (decide (k ≠ 0) && decide (k.natAbs < 1073741824) && Builtin.Range.small n m k && decide (0 ≤ Builtin.Range.rangeSize n m k)) = true then Out.ok (rng3D n k (Builtin.Range.rangeSize n m k).toNat) else .stuck) _ _ := q
        split at q
        · rename_i hn
          rw [Bool.and_eq_true, Bool.and_eq_true, Bool.and_eq_true] at hn
          obtain ⟨⟨⟨c1, c2⟩, c3⟩, c4⟩ := hn
          have c1 := of_decide_eq_true c1
          have c2 := of_decide_eq_true c2
          have c4 := of_decide_eq_true c4
          exact ⟨n, m, k, (Builtin.Range.rangeSize n m k).toNat, by rw [(h1.same (s2.trans s3)).int, (h2.same s3).int, h3.int], ⟨c1, c2, c3, by omega⟩, q _ _ (s1.trans (s2.trans s3)) WalkD.rangeC⟩
        · exact q.elim
      | _ => exact q.elim
    | _ => cases f <;> exact q.elim
  | _ => cases e <;> cases f <;> exact q.elim
theorem i_rev {e : E} {tg x : Expr} {p pos : Pos} (hK : X.K = K) (hg : Gl X "reversed") (hm : X.mg "reversed" = none) (hs : starEach [x] X.env = (false, eval x X.env) :: starEach [] X.env) (h : PE X x (uQ K P cl XW br e)) :
    PI X tg (.Call (.Name "reversed" p) [x] [] pos) (uI K P cl XW br (.rev e)) := by
  subst hK
  refine PI.weak (RT.pi_revA hg hm h hs) fun σ H R ⟨Wd, u, ρ, R', sh, p⟩ => ?_
  have p := pO_bind (show pO ((bor e (evE P cl e ρ) ρ).bind revD) _ _ from p)
  refine ⟨Wd, u, ρ, R', sh, pO_mono p (fun d _ q v H1 s1 h1 => ?_) fun _ z => z⟩
  have rv : ∀ {xs : List V} {J : It} {l : List PyData} {M : Msk} {H : Hp} {G : Hp → Prop}, Walk J xs.length G (fun i H x H' => H' = H ∧ xs[xs.length - 1 - i]? = some x) → (∀ M2 H2, Stb br M H M2 H2 → G H2) → DeAll X.K (msk M H) xs l → WalkD X.K br M H J l.reverse := fun {xs J l M H G} w hG hd => by
    have hl : xs.reverse.length = xs.length := List.length_reverse
    refine WalkD.of (xs := xs.reverse) (by rw [hl]; exact w.mono (Y' := fun i H x H' => H' = H ∧ xs.reverse[i]? = some x) (fun _ h => h) fun i H x H' hi _ y => ⟨y.1, by rw [List.getElem?_reverse hi]; exact y.2⟩) hG (deall_rev hd) fun _ _ _ _ y => y
  cases d with
  | list l =>
    obtain ⟨a, xs, rfl, h1, h2, h3⟩ := h1.list
    exact ⟨a, xs, rfl, .inl ⟨h1, q _ _ s1 (rv walk_rev h2 h3)⟩⟩
  | tuple l =>
    obtain ⟨a, xs, rfl, h1, h2, h3⟩ := h1.tuple
    exact ⟨a, xs, rfl, .inr ⟨h1, q _ _ s1 (rv walk_revT h2 h3)⟩⟩
  | _ => exact q.elim
theorem DQ.itm {br : Bool} {K : PySem.W.Frag} {M : Msk} {H : Hp} {v : V} {d : PyData} {l : List PyData} (h : DQ br K M H v d) (e : itmD d = .ok l) : ∃ a xs k, v = .ref a ∧ SqK K H a xs k ∧ (∀ M2 H2, Stb br M H M2 H2 → SqK K H2 a xs k) ∧ DeAll K (msk M H) xs l := by
  cases d with
  | list m =>
    cases e
    obtain ⟨c, xs, rfl, t1, t2, t3⟩ := h.list
    exact ⟨c, xs, false, rfl, t1, t2, t3⟩
  | tuple m =>
    cases e
    obtain ⟨c, xs, rfl, t1, t2, t3⟩ := h.tuple
    exact ⟨c, xs, true, rfl, t1, t2, t3⟩
  | _ => cases e
theorem noX_itm (d : PyData) : NoX (itmD d) := by intro c h; cases d <;> cases h
theorem zip_itm (x y : PyData) : zipD x y = (itmD x).bind fun a => (itmD y).bind fun b => .ok (List.zipWith pairD a b) := by
  cases x <;> cases y <;> rfl
theorem i_zip {a b : E} {elts : List Expr} {kk : Nat} {tpos : Pos} {x y : Expr} {p pos : Pos} (hK : X.K = K) (hg : Gl X "zip") (hm : X.mg "zip" = none) (hs : starEach [x, y] X.env = (false, eval x X.env) :: starEach [y] X.env) (hs2 : starEach [y] X.env = (false, eval y X.env) :: starEach [] X.env)
    (h : PE X x (uQ K P cl XW br a)) (h2 : PE X y (uQ K P cl XW br b)) : PI X (.Tuple elts kk tpos) (.Call (.Name "zip" p) [x, y] [] pos) (uI K P cl XW br (.zip a b)) := by
  subst hK
  refine PI.weak (pi_zipM hg hm (pa_cons h (pa_cons h2 pa_nil hs2) hs) (by rw [hs]) (by rw [hs2]; rfl)) fun σ H R ⟨Wd, u, ρ, R', sh, p⟩ => ?_
  have sha : br = true ∨ shE a ρ = true := sh.imp id fun z => (Bool.and_eq_true_iff.mp (show (shE a ρ && shE b ρ) = true from z)).1
  have shb : br = true ∨ shE b ρ = true := sh.imp id fun z => (Bool.and_eq_true_iff.mp (show (shE a ρ && shE b ρ) = true from z)).2
  have p := pO_bind (show pO ((bor a (evE P cl a ρ) ρ).bind fun x => (bor b (evE P cl b ρ) ρ).bind fun y => zipD x y) _ _ from p)
  refine ⟨Wd, u, ρ, R', sha, pO_mono p (fun d _ q v H1 s1 h1 => ⟨Wd, u, ρ, R'.same s1, shb, pO_mono (pO_bind q) (fun e _ q w H2 s2 h2 => ?_) fun c z => bad_same s1 c z⟩) fun _ z => z⟩
  have h1 := h1.same s2
  rw [zip_itm] at q
  cases ed : itmD d with
  | exc c => exact absurd ed (noX_itm d c)
  | stuck => rw [ed] at q; exact q.elim
  | ok l =>
    cases ee : itmD e with
    | exc c => exact absurd ee (noX_itm e c)
    | stuck => rw [ed, ee] at q; exact q.elim
    | ok m =>
      rw [ed, ee] at q
      obtain ⟨c, xs, k, rfl, t1, t2, t3⟩ := h1.itm ed
      obtain ⟨d', ys, k', rfl, r1, r2, r3⟩ := h2.itm ee
      exact ⟨c, d', xs, ys, k, k', rfl, t1, r1, q _ _ (s1.trans s2) (WalkD.pair walk_zipM rfl (fun M2 H2 st => ⟨t2 M2 H2 st, r2 M2 H2 st⟩) t3 r3)⟩
theorem walk_zipT {K : PySem.W.Frag} {t : Str} {b : Addr} {ys : List V} {l : Bool} : Walk (ItzT K t b l) (min (t.cps.toList.map fun c => V.str ⟨#[c]⟩).length ys.length) (fun H => SqK K H b ys l) (YPairF (fun i => (t.cps.toList.map fun c => V.str ⟨#[c]⟩)[i]?) (fun i => ys[i]?)) where
  goes := fun i H hi q => by
    rw [List.length_map, Array.length_toList] at hi
    exact ⟨_, ys, _, q, Array.getElem?_eq_getElem (show i < t.cps.size by omega), List.getElem?_eq_getElem (show i < ys.length by omega)⟩
  stops := fun H q => by
    rw [List.length_map, Array.length_toList]
    exact ⟨ys, q, by omega, by omega, by omega⟩
  yields := fun i H v H' hi q y => by
    obtain ⟨T, x, z, ob, h0, h1, h2, h3, h4, h5⟩ := y
    exact ⟨T, x, z, ob, h0, h1, h2, h3, h4, h5 ys q⟩
theorem deall_chars {K : PySem.W.Frag} {H : Hp} : ∀ l : List Nat, DeAll K H (l.map fun c => V.str ⟨#[c]⟩) (l.map fun c => .str ⟨#[c]⟩)
  | [] => .nil
  | _ :: r => .cons (.str _) (deall_chars r)
theorem noX_strI (d : PyData) : NoX (strI d) := by intro c h; cases d <;> cases h
theorem i_zps {a b : E} {elts : List Expr} {kk : Nat} {tpos : Pos} {x y : Expr} {p pos : Pos} (hK : X.K = K) (hg : Gl X "zip") (hm : X.mg "zip" = none) (hs : starEach [x, y] X.env = (false, eval x X.env) :: starEach [y] X.env) (hs2 : starEach [y] X.env = (false, eval y X.env) :: starEach [] X.env)
    (h : PE X x (uQ K P cl XW br a)) (h2 : PE X y (uQ K P cl XW br b)) : PI X (.Tuple elts kk tpos) (.Call (.Name "zip" p) [x, y] [] pos) (uI K P cl XW br (.zps a b)) := by
  subst hK
  refine PI.weak (pi_zipT hg hm (pa_cons h (pa_cons h2 pa_nil hs2) hs) (by rw [hs]) (by rw [hs2]; rfl)) fun σ H R ⟨Wd, u, ρ, R', sh, p⟩ => ?_
  have sha : br = true ∨ shE a ρ = true := sh.imp id fun z => (Bool.and_eq_true_iff.mp (show (shE a ρ && shE b ρ) = true from z)).1
  have shb : br = true ∨ shE b ρ = true := sh.imp id fun z => (Bool.and_eq_true_iff.mp (show (shE a ρ && shE b ρ) = true from z)).2
  have p := pO_bind (show pO ((bor a (evE P cl a ρ) ρ).bind fun x => (bor b (evE P cl b ρ) ρ).bind fun y => zpsD x y) _ _ from p)
  refine ⟨Wd, u, ρ, R', sha, pO_mono p (fun d _ q v H1 s1 h1 => ⟨Wd, u, ρ, R'.same s1, shb, pO_mono (pO_bind q) (fun e _ q w H2 s2 h2 => ?_) fun c z => bad_same s1 c z⟩) fun _ z => z⟩
  unfold zpsD at q
  cases d with
  | str t =>
    cases ee : itmD e with
    | exc c => exact absurd ee (noX_itm e c)
    | stuck => rw [ee] at q; exact q.elim
    | ok m =>
      rw [ee] at q
      obtain ⟨d', ys, k', rfl, r1, r2, r3⟩ := h2.itm ee
      have ev := h1.db.str
      subst ev
      exact ⟨t, d', ys, k', rfl, r1, q _ _ (s1.trans s2) (WalkD.pair walk_zipT rfl (fun M2 H2 st => r2 M2 H2 st) (deall_chars _) r3)⟩
  | _ => exact q.elim
theorem i_zip3 {a b c : E} {elts : List Expr} {kk : Nat} {tpos : Pos} {x y z : Expr} {p pos : Pos} (hK : X.K = K) (hg : Gl X "zip") (hm : X.mg "zip" = none) (hs : starEach [x, y, z] X.env = (false, eval x X.env) :: starEach [y, z] X.env) (hs2 : starEach [y, z] X.env = (false, eval y X.env) :: starEach [z] X.env) (hs3 : starEach [z] X.env = (false, eval z X.env) :: starEach [] X.env)
    (h : PE X x (uQ K P cl XW br a)) (h2 : PE X y (uQ K P cl XW br b)) (h3 : PE X z (uQ K P cl XW br c)) : PI X (.Tuple elts kk tpos) (.Call (.Name "zip" p) [x, y, z] [] pos) (uI K P cl XW br (.zip3 a b c)) := by
  subst hK
  refine PI.weak (pi_zipM3 hg hm (pa_cons h (pa_cons h2 (pa_cons h3 pa_nil hs3) hs2) hs) (by rw [hs]) (by rw [hs2, hs3]; rfl)) fun σ H R ⟨Wd, u, ρ, R', sh, p⟩ => ?_
  have she := sh.imp id fun z => Bool.and_eq_true_iff.mp (show (shE a ρ && (shE b ρ && shE c ρ)) = true from z)
  have sha : br = true ∨ shE a ρ = true := she.imp id fun z => z.1
  have shb : br = true ∨ shE b ρ = true := she.imp id fun z => (Bool.and_eq_true_iff.mp z.2).1
  have shc : br = true ∨ shE c ρ = true := she.imp id fun z => (Bool.and_eq_true_iff.mp z.2).2
  have p := pO_bind (show pO ((bor a (evE P cl a ρ) ρ).bind fun x => (bor b (evE P cl b ρ) ρ).bind fun y => (bor c (evE P cl c ρ) ρ).bind fun z => zip3D x y z) _ _ from p)
  refine ⟨Wd, u, ρ, R', sha, pO_mono p (fun d _ q v H1 s1 h1 => ⟨Wd, u, ρ, R'.same s1, shb, pO_mono (pO_bind q) (fun e _ q w H2 s2 h2 => ⟨Wd, u, ρ, R'.same (s1.trans s2), shc, pO_mono (pO_bind q) (fun f _ q w' H3 s3 h3 => ?_) fun c z => bad_same (s1.trans s2) c z⟩) fun c z => bad_same s1 c z⟩) fun _ z => z⟩
  have h1 := h1.same (s2.trans s3)
  have h2 := h2.same s3
  unfold zip3D at q
  cases ed : itmD d with
  | exc c => exact absurd ed (noX_itm d c)
  | stuck => rw [ed] at q; exact q.elim
  | ok l =>
    cases ee : itmD e with
    | exc c => exact absurd ee (noX_itm e c)
    | stuck => rw [ed, ee] at q; exact q.elim
    | ok m =>
      cases ef : itmD f with
      | exc c => exact absurd ef (noX_itm f c)
      | stuck => rw [ed, ee, ef] at q; exact q.elim
      | ok n =>
        rw [ed, ee, ef] at q
        obtain ⟨c', xs, k, rfl, t1, t2, t3⟩ := h1.itm ed
        obtain ⟨d', ys, k', rfl, r1, r2, r3⟩ := h2.itm ee
        obtain ⟨e', zs, k'', rfl, w1, w2, w3⟩ := h3.itm ef
        exact ⟨c', d', e', xs, ys, zs, k, k', k'', rfl, t1, r1, w1, q _ _ (s1.trans (s2.trans s3)) (WalkD.trip walk_zipM3 rfl (fun M2 H2 st => ⟨t2 M2 H2 st, r2 M2 H2 st, w2 M2 H2 st⟩) t3 r3 w3)⟩
theorem i_enm {a : E} {elts : List Expr} {kk : Nat} {tpos : Pos} {x : Expr} {p pos : Pos} (hK : X.K = K) (hg : Gl X "enumerate") (hm : X.mg "enumerate" = none) (hs : starEach [x] X.env = [(false, eval x X.env)])
    (h : PE X x (uQ K P cl XW br a)) : PI X (.Tuple elts kk tpos) (.Call (.Name "enumerate" p) [x] [] pos) (uI K P cl XW br (.enm a)) := by
  subst hK
  refine PI.weak (pi_enumM hg hm (pa_cons h pa_nil hs) hs) fun σ H R ⟨Wd, u, ρ, R', sh, p⟩ => ?_
  have p := pO_bind (show pO ((bor a (evE P cl a ρ) ρ).bind enmD) _ _ from p)
  refine ⟨Wd, u, ρ, R', sh, pO_mono p (fun d _ q v H1 s1 h1 => ?_) fun _ z => z⟩
  unfold enmD at q
  cases ed : itmD d with
  | exc c => exact absurd ed (noX_itm d c)
  | stuck => rw [ed] at q; exact q.elim
  | ok l =>
    rw [ed] at q
    obtain ⟨c, xs, k, rfl, t1, t2, t3⟩ := h1.itm ed
    refine ⟨c, xs, k, rfl, t1, q _ _ s1 ?_⟩
    refine WalkD.pair (xs := (List.range l.length).map fun k => V.int (k : Nat)) (n := xs.length) (walk_enumM.mono (fun _ h => h) fun i H x H' hi hG y => ?_) ?_ t2 ?_ t3
    · obtain ⟨T, p, q, ob, e0, e1, e2, e3, e4, e5⟩ := y
      refine ⟨T, p, q, ob, e0, e1, e2, e3, ?_, e5⟩
      have e4 : p = .int (i : Nat) := (Option.some.inj e4).symm
      subst e4
      show ((List.range l.length).map fun k => V.int (k : Nat))[i]? = _
      rw [List.getElem?_map, List.getElem?_range (by rw [← deall_len t3]; exact hi)]; rfl
    · rw [List.length_map, List.length_range, deall_len t3]; omega
    · generalize List.range l.length = r
      induction r with
      | nil => exact .nil
      | cons k r ih => exact .cons (.int _) ih
end
end Ev
namespace Ev
open PySem PySem.Spec
open PyProof.Rows L2
def XF : Nat → L2.St → Hp → Prop := fun _ _ _ => False
section
variable {K : PySem.W.Frag} {P : Prg} {cl : Nat → List PyData → Out W} {XW : Nat → L2.St → Hp → Prop} {X : Cx}
theorem Rep.addW {Wd : Msk} {u : Nat → Option Addr} {ρ : Env} {σ : L2.St} {H H' : Hp} {D : Addr} (R : Rep K Wd u ρ σ H) (hD : H D = none) (e : Same H H') (hD' : H' D ≠ none) : Rep K (addM Wd D) u ρ σ H' := by
  have hM : ∀ b o, ¬ Mk Wd u b → H b = some o → ¬ Mk (addM Wd D) u b ∧ H' b = some o := fun b o n q => by
    refine ⟨fun z => ?_, e b o q⟩
    rcases z with (z | z) | z
    · exact n (.inl z)
    · rw [z, hD] at q; cases q
    · exact n (.inr z)
  refine ⟨R.len, fun a h => ?_, fun i a h => ne_same e (R.udom i a h), fun i a h z => ?_, R.uinj, fun i r h => ?_⟩
  · rcases h with h | h
    · exact ne_same e (R.wdom a h)
    · rw [h]; exact hD'
  · rcases z with z | z
    · exact R.udis i a h z
    · rw [z] at h; exact R.udom i D h hD
  · obtain ⟨v, h1, h2⟩ := R.slot i r h
    refine ⟨v, h1, ?_⟩
    cases r with
    | sh d => exact De.same (msk_mono hM) _ _ h2
    | nl m =>
      obtain ⟨b, ys, q1, q2, q3, q4⟩ := h2
      exact ⟨b, ys, q1, q2, e _ _ q3, DeAll.same (msk_mono hM) _ _ q4⟩
    | nd m =>
      obtain ⟨b, ys, q1, q2, q3, q4⟩ := h2
      exact ⟨b, ys, q1, q2, e _ _ q3, q4.same (msk_mono hM)⟩
theorem lcLoop_nx (f : PyData → Out (Option PyData)) : ∀ l, NoX (lcLoop f l)
  | [] => fun c h => by cases h
  | x :: xs => fun c h => by
    unfold lcLoop at h
    split at h
    · cases e : lcLoop f xs with
      | ok q => rw [e] at h; cases h
      | exc c' => exact lcLoop_nx f xs c' e
      | stuck => rw [e] at h; cases h
    · cases h
theorem e_lc {src : Src} {tg : Tg} {own : List (Str × Nat)} {c : T} {elt : E} {el tx it : Expr} {ifs : List Expr} {scope : Scope} {pos : Pos} (hK : X.K = K) (hc : X.calm = true) (hN : X.N.Nodup) (hv : ∀ i ∈ tg.ixs, i ∈ own.map (·.2))
    (hi : PI X tx it (uI K P cl XW true src)) (ok : BlkOk X.N X.env.scope scope own)
    (hg : ∀ (s : Shared) (H : Hp) (C : Addr) (cl' : List (Str × Addr)) (fp : List Addr), PG (X.blk s H scope (compEnvC scope cl' C X.env) fp) tx (gT K tg))
    (ht : ∀ (s : Shared) (H : Hp) (C : Addr) (cl' : List (Str × Addr)) (fp : List Addr), PTs (X.blk s H scope (compEnvC scope cl' C X.env) fp) ifs (uT K P cl XF c))
    (he : ∀ (s : Shared) (H : Hp) (C : Addr) (cl' : List (Str × Addr)) (fp : List Addr), PE (X.blk s H scope (compEnvC scope cl' C X.env) fp) el (uE K P cl XF elt))
    : ∀ σ H Q, uE K P cl XW (.lc src tg own c elt) σ H Q → tLc (uI K P cl XW true src) (gT K tg) (uT K P cl XF c) (uE K P cl XF elt) (own.map (·.2)) σ H Q := by
  intro σ H Q ⟨Wd, u, ρ, R, p⟩
  generalize hf : lcTurn tg own ρ (fun ρ' => evT P cl c ρ') (fun ρ' => evE P cl elt ρ') = f
  have p := pO_bind (show pO ((evI P cl src ρ).bind fun items => (lcLoop (lcTurn tg own ρ (fun ρ' => evT P cl c ρ') (fun ρ' => evE P cl elt ρ')) items).bind fun l => if lenOk l.length = true then (Out.ok (W.nl l) : Out W) else Out.stuck) _ _ from p)
  rw [hf] at p
  refine ⟨Wd, u, ρ, R, .inl rfl, pO_mono p (fun items _ q J H1 s1 w D hD => ?_) fun _ z => z⟩
  obtain ⟨G, Y, w, hG, hY⟩ := w
  have hsd : Same H1 (upd H1 D (.lst [])) := same_new hD
  have R1 := R.same s1
  -- the invariant
  refine lc_it w (fun i Hc => ∃ acc done, Hc D = some (.lst acc) ∧ Same H1 Hc ∧ DeAll K (msk (addM (Mk Wd u) D) Hc) acc done ∧
      pO ((lcLoop f (items.drop i)).bind fun q => if lenOk (done ++ q).length = true then .ok (W.nl (done ++ q)) else .stuck) (fun r => ∀ v H', Same H H' → DWr K (Mk Wd u) H H' r v → Q v H') (bad XW σ H))
    ⟨[], [], upd_same, hsd, .nil, by rw [List.drop_zero]; exact q⟩ (fun i Hc hle ⟨acc, done, h1, h2, h3, h4⟩ => hG (Mk (addM Wd D) u) Hc ?_) (fun i x Hc Hc' hlt ⟨acc, done, h1, h2, h3, h4⟩ y => ?_) fun Hc ⟨acc, done, h1, h2, h3, h4⟩ => ?_
  · refine ⟨(R1.addW hD h2 (by rw [h1]; exact fun z => nomatch z)).mdom, fun b o n e => ⟨fun z => ?_, h2 b o e⟩, fun _ => h2⟩
    rcases z with (z | z) | z
    · exact n (.inl z)
    · rw [z, hD] at e; cases e
    · exact n (.inr z)
  · -- one turn
    have Rc := R1.addW hD h2 (show Hc D ≠ none by rw [h1]; exact fun z => nomatch z)
    have st : Stb true (Mk Wd u) H1 (Mk (addM Wd D) u) Hc := by
      refine ⟨Rc.mdom, fun b o n e => ⟨fun z => ?_, h2 b o e⟩, fun _ => h2⟩
      rcases z with (z | z) | z
      · exact n (.inl z)
      · rw [z, hD] at e; cases e
      · exact n (.inr z)
    have hdi : items[i]? = some items[i] := List.getElem?_eq_getElem hlt
    obtain ⟨sy, hx⟩ := hY i x Hc Hc' _ _ hdi st y
    have hdrop : items.drop i = items[i] :: items.drop (i + 1) := List.drop_eq_getElem_cons hlt
    rw [hdrop] at h4
    have h4 := pO_bind h4
    have unf : lcLoop f (items[i] :: items.drop (i + 1)) = match f items[i] with
      | .ok r => (lcLoop f (items.drop (i + 1))).bind fun q => .ok (match r with | some d => d :: q | none => q)
      | _ => .stuck := rfl
    rw [unf] at h4
    cases ef : f items[i] with
    | exc c => rw [ef] at h4; exact h4.elim
    | stuck => rw [ef] at h4; exact h4.elim
    | ok r =>
      rw [ef] at h4
      have h4 := pO_bind h4
      have ef2 := ef
      rw [← hf] at ef2
      have ef2 : (match bindTg tg items[i] (wipeE ρ (own.map (·.2))) with
        | none => (.stuck : Out (Option PyData))
        | some ρ' => (evT P cl c ρ').bind fun t => if t then (evE P cl elt ρ').bind fun w => w.share.bind fun d => .ok (some d) else .ok none) = .ok r := ef2
      cases eb : bindTg tg items[i] (wipeE ρ (own.map (·.2))) with
      | none => rw [eb] at ef2; cases ef2
      | some ρ' =>
        rw [eb] at ef2
        have ef2 : ((evT P cl c ρ').bind fun t => if t then (evE P cl elt ρ').bind fun w => w.share.bind fun d => .ok (some d) else .ok none) = .ok r := ef2
        refine gT_ok (vs := own.map (·.2)) hv ((Rc.same sy).wipe _) hx eb fun σ' R' ag => ⟨(wipe_agree ag).trans (wipe_agree (agree_wipe σ _)), ?_⟩
        refine ⟨addM Wd D, u, ρ', R', ?_⟩
        cases et : evT P cl c ρ' with
        | exc c => rw [et] at ef2; cases ef2
        | stuck => rw [et] at ef2; cases ef2
        | ok t =>
          rw [et] at ef2
          have ef2 : (if t then (evE P cl elt ρ').bind fun w => w.share.bind fun d => .ok (some d) else .ok none) = .ok r := ef2
          intro H3 s3
          have s13 : Same H1 H3 := h2.trans (sy.trans s3)
          have D3 : H3 D = some (.lst acc) := s3 _ _ (sy _ _ h1)
          cases t with
          | false =>
            rw [if_neg Bool.false_ne_true] at ef2
            cases ef2
            show ∃ acc done, H3 D = some (.lst acc) ∧ _
            exact ⟨acc, done, D3, s13, DeAll.same (msk_ext (sy.trans s3)) _ _ h3, by
              cases el : lcLoop f (items.drop (i + 1)) with
              | exc c => exact absurd el (lcLoop_nx f _ c)
              | stuck => rw [el] at h4; exact h4.elim
              | ok q => rw [el] at h4; exact h4⟩
          | true =>
            rw [if_pos rfl] at ef2
            show uE K P cl XF elt σ' H3 _
            refine ⟨addM Wd D, u, ρ', R'.same s3, ?_⟩
            cases ee : evE P cl elt ρ' with
            | exc c => rw [ee] at ef2; cases ef2
            | stuck => rw [ee] at ef2; cases ef2
            | ok w =>
              rw [ee] at ef2
              have ef2 : (w.share.bind fun d => .ok (some d)) = .ok r := ef2
              cases es : w.share with
              | exc c => exact absurd es (noX_share w c)
              | stuck => rw [es] at ef2; cases ef2
              | ok d =>
                rw [es] at ef2
                cases ef2
                intro v H4 s4 hw
                have hd := hw.share (R'.same s3).mdom es
                cases el : lcLoop f (items.drop (i + 1)) with
                | exc c => exact absurd el (lcLoop_nx f _ c)
                | stuck => rw [el] at h4; exact h4.elim
                | ok q =>
                  rw [el] at h4
                  have h4 : pO (if lenOk (done ++ d :: q).length = true then Out.ok (W.nl (done ++ d :: q)) else .stuck) _ _ := h4
                  by_cases hl : lenOk (done ++ d :: q).length = true
                  · rw [if_pos hl] at h4
                    have la := deall_len h3
                    have hl2 := lenOk_le hl
                    rw [List.length_append, List.length_cons] at hl2
                    have D4 : H4 D = some (.lst acc) := s4 _ _ D3
                    have s14 : Same H1 H4 := s13.trans s4
                    have h1n : ∀ b o, H1 b = some o → b ≠ D := fun b o e z => by rw [z, hD] at e; cases e
                    refine ⟨acc, D4, by omega, acc ++ [v], done ++ [d], upd_same, fun b o e => ?_, ?_, ?_⟩
                    · rw [upd_ne (h1n b o e)]; exact s14 b o e
                    · have t5 : Same (msk (addM (Mk Wd u) D) H4) (msk (addM (Mk Wd u) D) (upd H4 D (.lst (acc ++ [v])))) := msk_mono fun b o n e => ⟨n, by rw [upd_ne fun z => n (.inr z)]; exact e⟩
                      refine deall_app (DeAll.same ((msk_ext ((sy.trans s3).trans s4)).trans t5) _ _ h3) (deall_one (De.same ((msk_less fun b z => ?_).trans t5) _ _ hd))
                      rcases z with (z | z) | z
                      · exact .inl (.inl z)
                      · exact .inr z
                      · exact .inl (.inr z)
                    · have ea : done ++ [d] ++ q = done ++ d :: q := by rw [List.append_assoc]; rfl
                      show pO (if lenOk (done ++ [d] ++ q).length = true then Out.ok (W.nl (done ++ [d] ++ q)) else Out.stuck) _ _
                      rw [ea, if_pos hl]
                      exact h4
                  · rw [if_neg hl] at h4; exact h4.elim
  · -- the end
    rw [List.drop_length] at h4
    have h4 : pO (if lenOk (done ++ []).length = true then Out.ok (W.nl (done ++ [])) else .stuck) _ _ := h4
    rw [List.append_nil] at h4
    by_cases hl : lenOk done.length = true
    · rw [if_pos hl] at h4
      exact h4 _ _ (s1.trans h2) ⟨D, acc, rfl, s1.free hD, h1, h3⟩
    · rw [if_neg hl] at h4; exact h4.elim
theorem it_gen {J : It} {n : Nat} {G : Hp → Prop} {Y : Nat → Hp → V → Hp → Prop} (w : Walk J n G Y) {H0 : Hp} {Qd : Hp → Prop} (Pv : Nat → Hp → Prop) (Bd : (Hp → Prop) → V → Hp → Prop) (h0 : Pv 0 H0) (hG : ∀ i H, i ≤ n → Pv i H → G H)
    (hs : ∀ i x H H', i < n → Pv i H → Y i H x H' → Bd (Pv (i + 1)) x H') (hd : ∀ H, Pv n H → Qd H) :
    ∃ W : Nat → Nat → Hp → Prop, (∃ m, W 0 m H0) ∧ ∀ i m H, W i m H → (J.stop i H ∧ Qd H) ∨ (J.go i H ∧ ∃ Nx : Hp → Prop, (∀ H', Nx H' → ∃ m', m' < m ∧ W (i + 1) m' H') ∧ ∀ x H', J.yld i H x H' → Bd Nx x H') := by
  refine ⟨fun i m H => m = n - i ∧ i ≤ n ∧ Pv i H, ⟨n, by simp, Nat.zero_le _, h0⟩, ?_⟩
  rintro i m H ⟨rfl, hi, p⟩
  have q := hG i H hi p
  by_cases lt : i < n
  · exact .inr ⟨w.goes i H lt q, Pv (i + 1), fun H' p' => ⟨n - (i + 1), by omega, rfl, lt, p'⟩, fun x H' y => hs i x H H' lt p (w.yields i H x H' lt q y)⟩
  · have e : i = n := by omega
    subst e
    exact .inl ⟨w.stops H q, hd H p⟩
theorem Rep.chW {Wd : Msk} {u : Nat → Option Addr} {ρ : Env} {σ : L2.St} {H H' : Hp} {D : Addr} (R : Rep K (addM Wd D) u ρ σ H) (e : ∀ b o, b ≠ D → H b = some o → H' b = some o) (hD' : H' D ≠ none) : Rep K (addM Wd D) u ρ σ H' := by
  have nD : ∀ i a, u i = some a → a ≠ D := fun i a h z => R.udis i a h (.inr z)
  have ne : ∀ b, H b ≠ none → H' b ≠ none := fun b h => by
    by_cases hb : b = D
    · rw [hb]; exact hD'
    · cases q : H b with
      | none => exact absurd q h
      | some o => rw [e b o hb q]; exact fun z => nomatch z
  have hM : ∀ b o, ¬ Mk (addM Wd D) u b → H b = some o → ¬ Mk (addM Wd D) u b ∧ H' b = some o := fun b o n q => ⟨n, e b o (fun z => n (.inl (.inr z))) q⟩
  refine ⟨R.len, fun a h => ne a (R.wdom a h), fun i a h => ne a (R.udom i a h), R.udis, R.uinj, fun i r h => ?_⟩
  obtain ⟨v, h1, h2⟩ := R.slot i r h
  refine ⟨v, h1, ?_⟩
  cases r with
  | sh d => exact De.same (msk_mono hM) _ _ h2
  | nl m =>
    obtain ⟨b, ys, q1, q2, q3, q4⟩ := h2
    exact ⟨b, ys, q1, q2, e _ _ (nD i b q1) q3, DeAll.same (msk_mono hM) _ _ q4⟩
  | nd m =>
    obtain ⟨b, ys, q1, q2, q3, q4⟩ := h2
    exact ⟨b, ys, q1, q2, e _ _ (nD i b q1) q3, q4.same (msk_mono hM)⟩
theorem lc2Loop_nx (f : PyData → Out (List PyData)) : ∀ l, NoX (lc2Loop f l)
  | [] => fun c h => by cases h
  | x :: xs => fun c h => by
    unfold lc2Loop at h
    split at h
    · cases e : lc2Loop f xs with
      | ok q => rw [e] at h; cases h
      | exc c' => exact lc2Loop_nx f xs c' e
      | stuck => rw [e] at h; cases h
    · cases h
def tYesB : TT := fun _ H Q => Q true H
theorem pts_yes {X : Cx} : PTs X [] tYesB := ⟨fun pins s σ H Q I p => pts_nil.run pins s σ H Q I p⟩
theorem e_lc2 {src src2 : Src} {tg tg2 : Tg} {own own2 : List (Str × Nat)} {elt : E} (hv : ∀ i ∈ tg.ixs, i ∈ own.map (·.2)) (hv2 : ∀ i ∈ tg2.ixs, i ∈ own2.map (·.2)) (h21 : ∀ i ∈ own2.map (·.2), i ∈ own.map (·.2))
    : ∀ σ H Q, uE K P cl XW (.lc2 src tg src2 tg2 own own2 elt) σ H Q → tLc2 (uI K P cl XW true src) (gT K tg) tYesB (uI K P cl XF false src2) (gT K tg2) tYesB (uE K P cl XF elt) (own.map (·.2)) (own2.map (·.2)) σ H Q := by
  intro σ H Q ⟨Wd, u, ρ, R, p⟩
  generalize hf : lc2Turn tg own ρ (srcSh src2) (fun ρ' => evI P cl src2 ρ') tg2 own2 (fun ρ' => evE P cl elt ρ') = f
  have p := pO_bind (show pO ((evI P cl src ρ).bind fun items => (lc2Loop (lc2Turn tg own ρ (srcSh src2) (fun ρ' => evI P cl src2 ρ') tg2 own2 (fun ρ' => evE P cl elt ρ')) items).bind fun l => if lenOk l.length = true then (Out.ok (W.nl l) : Out W) else Out.stuck) _ _ from p)
  rw [hf] at p
  refine ⟨Wd, u, ρ, R, .inl rfl, pO_mono p (fun items _ q J H1 s1 w D hD => ?_) fun _ z => z⟩
  obtain ⟨G, Y, w, hG, hY⟩ := w
  have R1 := R.same s1
  have h1n : ∀ b o, H1 b = some o → b ≠ D := fun b o e z => by rw [z, hD] at e; cases e
  refine it_gen w (fun i Hc => ∃ acc done, Hc D = some (.lst acc) ∧ Same H1 Hc ∧ DeAll K (msk (addM (Mk Wd u) D) Hc) acc done ∧
      pO ((lc2Loop f (items.drop i)).bind fun q => if lenOk (done ++ q).length = true then .ok (W.nl (done ++ q)) else .stuck) (fun r => ∀ v H', Same H H' → DWr K (Mk Wd u) H H' r v → Q v H') (bad XW σ H))
    (fun Nx x H' => gT K tg x (wipe σ (own.map (·.2))) H' fun σ2 H2 => wipe σ2 (own.map (·.2)) = wipe σ (own.map (·.2)) ∧ tYesB σ2 H2 fun b H3 => if b = true then uI K P cl XF false src2 σ2 H3 fun J1 H4 => ∃ W1 : Nat → Nat → Hp → Prop, (∃ m, W1 0 m H4) ∧ ∀ j k H, W1 j k H →
      (J1.stop j H ∧ Nx H) ∨ (J1.go j H ∧ ∃ Nx1 : Hp → Prop, (∀ H', Nx1 H' → ∃ k', k' < k ∧ W1 (j + 1) k' H') ∧ ∀ x H', J1.yld j H x H' → gT K tg2 x (wipe σ2 (own2.map (·.2))) H' fun σ3 H5 => wipe σ3 (own2.map (·.2)) = wipe σ2 (own2.map (·.2)) ∧ tYesB σ3 H5 fun b H6 =>
        if b = true then uE K P cl XF elt σ3 H6 fun y H7 => ∃ acc, H7 D = some (.lst acc) ∧ acc.length < sizeLine ∧ Nx1 (upd H7 D (.lst (acc ++ [y]))) else Nx1 H6) else Nx H3)
    ⟨[], [], upd_same, same_new hD, .nil, by rw [List.drop_zero]; exact q⟩ (fun i Hc hle ⟨acc, done, h1, h2, h3, h4⟩ => hG (Mk (addM Wd D) u) Hc ?_) (fun i x Hc Hc' hlt ⟨acc, done, h1, h2, h3, h4⟩ y => ?_) fun Hc ⟨acc, done, h1, h2, h3, h4⟩ => ?_
  · refine ⟨(R1.addW hD h2 (by rw [h1]; exact fun z => nomatch z)).mdom, fun b o n e => ⟨fun z => ?_, h2 b o e⟩, fun _ => h2⟩
    rcases z with (z | z) | z
    · exact n (.inl z)
    · rw [z, hD] at e; cases e
    · exact n (.inr z)
  · -- one turn of the outer loop
    have Rc := R1.addW hD h2 (show Hc D ≠ none by rw [h1]; exact fun z => nomatch z)
    have st : Stb true (Mk Wd u) H1 (Mk (addM Wd D) u) Hc := by
      refine ⟨Rc.mdom, fun b o n e => ⟨fun z => ?_, h2 b o e⟩, fun _ => h2⟩
      rcases z with (z | z) | z
      · exact n (.inl z)
      · rw [z, hD] at e; cases e
      · exact n (.inr z)
    have hdi : items[i]? = some items[i] := List.getElem?_eq_getElem hlt
    obtain ⟨sy, hx⟩ := hY i x Hc Hc' _ _ hdi st y
    have hdrop : items.drop i = items[i] :: items.drop (i + 1) := List.drop_eq_getElem_cons hlt
    rw [hdrop] at h4
    have h4 := pO_bind h4
    have unf : lc2Loop f (items[i] :: items.drop (i + 1)) = match f items[i] with
      | .ok l => (lc2Loop f (items.drop (i + 1))).bind fun q => .ok (l ++ q)
      | _ => .stuck := rfl
    rw [unf] at h4
    cases ef : f items[i] with
    | exc c => rw [ef] at h4; exact h4.elim
    | stuck => rw [ef] at h4; exact h4.elim
    | ok l0 =>
      rw [ef] at h4
      have h4 := pO_bind h4
      have ef2 := ef
      rw [← hf] at ef2
      have ef2 : (match bindTg tg items[i] (wipeE ρ (own.map (·.2))) with
        | none => (.stuck : Out (List PyData))
        | some ρ' => if srcSh src2 ρ' then (match evI P cl src2 ρ' with
          | .ok its => lcLoop (lcTurn tg2 own2 ρ' (fun _ => .ok true) (fun ρ' => evE P cl elt ρ')) its
          | _ => .stuck) else .stuck) = .ok l0 := ef2
      cases eb : bindTg tg items[i] (wipeE ρ (own.map (·.2))) with
      | none => rw [eb] at ef2; cases ef2
      | some ρ' =>
        rw [eb] at ef2
        have ef2 : (if srcSh src2 ρ' then (match evI P cl src2 ρ' with
          | .ok its => lcLoop (lcTurn tg2 own2 ρ' (fun _ => .ok true) (fun ρ' => evE P cl elt ρ')) its
          | _ => .stuck) else .stuck) = .ok l0 := ef2
        have hsh : srcSh src2 ρ' = true := by
          by_cases hsh : srcSh src2 ρ' = true
          · exact hsh
          · rw [if_neg hsh] at ef2; cases ef2
        rw [if_pos hsh] at ef2
        refine gT_ok (vs := own.map (·.2)) hv ((Rc.same sy).wipe _) hx eb fun σ' R' ag => ⟨(wipe_agree ag).trans (wipe_agree (agree_wipe σ _)), ?_⟩
        unfold tYesB
        dsimp only
        rw [if_pos rfl]
        refine ⟨addM Wd D, u, ρ', R', .inr hsh, ?_⟩
        cases ei : evI P cl src2 ρ' with
        | exc c => rw [ei] at ef2; cases ef2
        | stuck => rw [ei] at ef2; cases ef2
        | ok its =>
          rw [ei] at ef2
          generalize hg : lcTurn tg2 own2 ρ' (fun _ => .ok true) (fun ρ' => evE P cl elt ρ') = g at ef2
          have ef2 : lcLoop g its = .ok l0 := ef2
          intro J1 H4 s4 w1
          obtain ⟨G1, Y1, w1, hG1, hY1⟩ := w1
          have D4 : H4 D = some (.lst acc) := s4 _ _ (sy _ _ h1)
          have s14 : Same H1 H4 := h2.trans (sy.trans s4)
          have R4 := R'.same s4
          refine it_gen w1 (fun j Hd => ∃ acc done, Hd D = some (.lst acc) ∧ (∀ b o, b ≠ D → H4 b = some o → Hd b = some o) ∧ DeAll K (msk (addM (Mk Wd u) D) Hd) acc done ∧
              pO ((lcLoop g (its.drop j)).bind fun l => (lc2Loop f (items.drop (i + 1))).bind fun q => if lenOk (done ++ (l ++ q)).length = true then .ok (W.nl (done ++ (l ++ q))) else .stuck) (fun r => ∀ v H', Same H H' → DWr K (Mk Wd u) H H' r v → Q v H') (bad XW σ H))
            (fun Nx1 x H' => gT K tg2 x (wipe σ' (own2.map (·.2))) H' fun σ3 H5 => wipe σ3 (own2.map (·.2)) = wipe σ' (own2.map (·.2)) ∧ tYesB σ3 H5 fun b H6 =>
              if b = true then uE K P cl XF elt σ3 H6 fun y H7 => ∃ acc, H7 D = some (.lst acc) ∧ acc.length < sizeLine ∧ Nx1 (upd H7 D (.lst (acc ++ [y]))) else Nx1 H6)
            ⟨acc, done, D4, fun b o _ e => e, DeAll.same (msk_ext (sy.trans s4)) _ _ h3, ?_⟩ (fun j Hd hle ⟨acc, done, k1, k2, k3, k4⟩ => hG1 (Mk (addM Wd D) u) Hd ?_) (fun j x2 Hd Hd' hlt2 ⟨acc, done, k1, k2, k3, k4⟩ y2 => ?_) fun Hd ⟨acc, done, k1, k2, k3, k4⟩ => ?_
          · rw [List.drop_zero, ef2]
            show pO ((lc2Loop f (items.drop (i + 1))).bind fun q => if lenOk (done ++ (l0 ++ q)).length = true then .ok (W.nl (done ++ (l0 ++ q))) else .stuck) _ _
            cases el : lc2Loop f (items.drop (i + 1)) with
            | exc c => exact absurd el (lc2Loop_nx f _ c)
            | stuck => rw [el] at h4; exact h4.elim
            | ok q => rw [el] at h4; exact h4
          · exact ⟨(R4.chW k2 (by rw [k1]; exact fun z => nomatch z)).mdom, fun b o n e => ⟨n, k2 b o (fun z => n (.inl (.inr z))) e⟩, fun z => by cases z⟩
          · -- one turn of the inner loop
            have Rd := R4.chW k2 (show Hd D ≠ none by rw [k1]; exact fun z => nomatch z)
            have st2 : Stb false (Mk (addM Wd D) u) H4 (Mk (addM Wd D) u) Hd := ⟨Rd.mdom, fun b o n e => ⟨n, k2 b o (fun z => n (.inl (.inr z))) e⟩, fun z => by cases z⟩
            have hdi2 : its[j]? = some its[j] := List.getElem?_eq_getElem hlt2
            obtain ⟨sy2, hx2⟩ := hY1 j x2 Hd Hd' _ _ hdi2 st2 y2
            have hdrop2 : its.drop j = its[j] :: its.drop (j + 1) := List.drop_eq_getElem_cons hlt2
            rw [hdrop2] at k4
            have k4 := pO_bind k4
            have unf2 : lcLoop g (its[j] :: its.drop (j + 1)) = match g its[j] with
              | .ok r => (lcLoop g (its.drop (j + 1))).bind fun q => .ok (match r with | some d => d :: q | none => q)
              | _ => .stuck := rfl
            rw [unf2] at k4
            cases eg : g its[j] with
            | exc c => rw [eg] at k4; exact k4.elim
            | stuck => rw [eg] at k4; exact k4.elim
            | ok r =>
              rw [eg] at k4
              have k4 := pO_bind k4
              have eg2 := eg
              rw [← hg] at eg2
              have eg2 : (match bindTg tg2 its[j] (wipeE ρ' (own2.map (·.2))) with
                | none => (.stuck : Out (Option PyData))
                | some ρ2 => (evE P cl elt ρ2).bind fun w => w.share.bind fun d => .ok (some d)) = .ok r := eg2
              cases eb2 : bindTg tg2 its[j] (wipeE ρ' (own2.map (·.2))) with
              | none => rw [eb2] at eg2; cases eg2
              | some ρ2 =>
                rw [eb2] at eg2
                have eg2 : ((evE P cl elt ρ2).bind fun w => w.share.bind fun d => .ok (some d)) = .ok r := eg2
                refine gT_ok (vs := own2.map (·.2)) hv2 ((Rd.same sy2).wipe _) hx2 eb2 fun σ3 R3 ag2 => ⟨(wipe_agree ag2).trans (wipe_agree (agree_wipe σ' _)), ?_⟩
                unfold tYesB
                dsimp only
                rw [if_pos rfl]
                refine ⟨addM Wd D, u, ρ2, R3, ?_⟩
                cases ee : evE P cl elt ρ2 with
                | exc c => rw [ee] at eg2; cases eg2
                | stuck => rw [ee] at eg2; cases eg2
                | ok w =>
                  rw [ee] at eg2
                  have eg2 : (w.share.bind fun d => .ok (some d)) = .ok r := eg2
                  cases es : w.share with
                  | exc c => exact absurd es (noX_share w c)
                  | stuck => rw [es] at eg2; cases eg2
                  | ok d =>
                    rw [es] at eg2
                    cases eg2
                    intro v H7 s7 hw
                    have hd := hw.share R3.mdom es
                    have D7 : H7 D = some (.lst acc) := s7 _ _ (sy2 _ _ k1)
                    have k5 : ∀ q, (lcLoop g (its.drop (j + 1))) = .ok q → ∃ q2, lc2Loop f (items.drop (i + 1)) = .ok q2 ∧ lenOk (done ++ ((d :: q) ++ q2)).length = true := fun q eq => by
                      rw [eq] at k4
                      have k4 : pO ((lc2Loop f (items.drop (i + 1))).bind fun q2 => if lenOk (done ++ ((d :: q) ++ q2)).length = true then .ok (W.nl (done ++ ((d :: q) ++ q2))) else .stuck) _ _ := k4
                      cases e2 : lc2Loop f (items.drop (i + 1)) with
                      | exc c => exact absurd e2 (lc2Loop_nx f _ c)
                      | stuck => rw [e2] at k4; exact k4.elim
                      | ok q2 =>
                        refine ⟨q2, rfl, ?_⟩
                        rw [e2] at k4
                        by_cases hl : lenOk (done ++ ((d :: q) ++ q2)).length = true
                        · exact hl
                        · have k4 : pO (if lenOk (done ++ ((d :: q) ++ q2)).length = true then Out.ok (W.nl (done ++ ((d :: q) ++ q2))) else .stuck) _ _ := k4
                          rw [if_neg hl] at k4; exact k4.elim
                    cases el : lcLoop g (its.drop (j + 1)) with
                    | exc c => exact absurd el (lcLoop_nx g _ c)
                    | stuck => rw [el] at k4; exact k4.elim
                    | ok q =>
                      obtain ⟨q2, e2, hl⟩ := k5 q el
                      have la := deall_len k3
                      have hl2 := lenOk_le hl
                      rw [List.length_append, List.length_append, List.length_cons] at hl2
                      refine ⟨acc, D7, by omega, acc ++ [v], done ++ [d], upd_same, fun b o hb e => ?_, ?_, ?_⟩
                      · rw [upd_ne hb]; exact s7 _ _ (sy2 _ _ (k2 b o hb e))
                      · have t5 : Same (msk (addM (Mk Wd u) D) H7) (msk (addM (Mk Wd u) D) (upd H7 D (.lst (acc ++ [v])))) := msk_mono fun b o n e => ⟨n, by rw [upd_ne fun z => n (.inr z)]; exact e⟩
                        refine deall_app (DeAll.same ((msk_ext (sy2.trans s7)).trans t5) _ _ k3) (deall_one (De.same ((msk_less fun b z => ?_).trans t5) _ _ hd))
                        rcases z with (z | z) | z
                        · exact .inl (.inl z)
                        · exact .inr z
                        · exact .inl (.inr z)
                      · rw [el] at k4
                        have k4 : pO ((lc2Loop f (items.drop (i + 1))).bind fun q2 => if lenOk (done ++ ((d :: q) ++ q2)).length = true then .ok (W.nl (done ++ ((d :: q) ++ q2))) else .stuck) _ _ := k4
                        rw [e2] at k4
                        show pO ((lc2Loop f (items.drop (i + 1))).bind fun q2 => if lenOk (done ++ [d] ++ (q ++ q2)).length = true then .ok (W.nl (done ++ [d] ++ (q ++ q2))) else .stuck) _ _
                        rw [e2]
                        have ea : done ++ [d] ++ (q ++ q2) = done ++ ((d :: q) ++ q2) := by simp [List.append_assoc]
                        show pO (if lenOk (done ++ [d] ++ (q ++ q2)).length = true then Out.ok (W.nl (done ++ [d] ++ (q ++ q2))) else Out.stuck) _ _
                        rw [ea]
                        exact k4
          · -- the inner loop's end
            rw [List.drop_length] at k4
            refine ⟨acc, done, k1, fun b o e => k2 b o (h1n b o e) (s14 b o e), k3, ?_⟩
            exact k4
  · -- the end
    rw [List.drop_length] at h4
    have h4 : pO (if lenOk (done ++ []).length = true then Out.ok (W.nl (done ++ [])) else .stuck) _ _ := h4
    rw [List.append_nil] at h4
    by_cases hl : lenOk done.length = true
    · rw [if_pos hl] at h4
      exact h4 _ _ (s1.trans h2) ⟨D, acc, rfl, s1.free hD, h1, h3⟩
    · rw [if_neg hl] at h4; exact h4.elim
end
end Ev
namespace Ev
open PySem PySem.Spec
open PyProof.Rows L2
def XIs (P : Prg) (mg : Str → Option Value) (c : Nat) (cls : Value) : Prop := ∃ x C, P.excs[c]? = some x ∧ mg x = some (.ref C) ∧ cls = .ref C
def spD (K : PySem.W.Frag) (P : Prg) (mg : Str → Option Value) (cl : Nat → List PyData → Out W) (f n : Nat) : Sp := fun vs H Q E => vs.length = n ∧ ∃ Wd ds, (∀ a, Wd a → H a ≠ none) ∧ DeAll K (msk Wd H) vs ds ∧
  pO (cl f ds) (fun r => ∀ v H', Same H H' → DWr K Wd H H' r v → Q v H') fun c => ∀ H' cls d, Same H H' → XIs P mg c cls → E cls d H'
def spM (K : PySem.W.Frag) (P : Prg) (mg : Str → Option Value) (cl : Nat → List PyData → Out W) (f n : Nat) : Sp := fun vs H Q E => vs.length = n ∧ ∃ Wd a xs kvs vs' ds, vs = .ref a :: vs' ∧ (∀ b, Wd b → H b ≠ none) ∧ ¬ Wd a ∧ H a = some (DX a xs) ∧ KvD K (msk (addM Wd a) H) xs kvs ∧ DeAll K (msk (addM Wd a) H) vs' ds ∧
  pO (cl f (toD kvs :: ds)) (fun r => match r with
    | .nd kvs' => ∀ xs' H', (∀ b o, b ≠ a → H b = some o → H' b = some o) → H' a = some (DX a xs') → KvD K (msk (addM Wd a) H') xs' kvs' → Q .non H'
    | _ => False) fun c => ∀ H' cls d, Same H H' → XIs P mg c cls → E cls d H'
section
variable {K : PySem.W.Frag} {P : Prg} {cl : Nat → List PyData → Out W} {XW : Nat → L2.St → Hp → Prop} {X : Cx}
theorem e_cst {c : Const} {j : Nat} {pos : Pos} : PE X (.Constant c j pos) (uE K P cl XW (.cst c)) := by
  cases c with
  | none => exact PE.weak pe_non fun σ H Q ⟨Wd, u, ρ, R, p⟩ => p _ H (Same.refl H) .non
  | bool b => exact PE.weak pe_bl fun σ H Q ⟨Wd, u, ρ, R, p⟩ => p _ H (Same.refl H) (.bl b)
  | int b => exact PE.weak pe_int fun σ H Q ⟨Wd, u, ρ, R, p⟩ => p _ H (Same.refl H) (.int b)
  | str b => exact PE.weak pe_str fun σ H Q ⟨Wd, u, ρ, R, p⟩ => p _ H (Same.refl H) (.str b)
  | _ => exact ⟨fun pins s σ H Q I ⟨Wd, u, ρ, R, p⟩ => p.elim⟩
theorem de_empty {H : Hp} {v : V} {d : PyData} (M : Msk) (h : De K (fun _ => none) v d) : De K (msk M H) v d := De.same (fun _ _ z => by cases z) _ _ h
theorem e_glob {i : Nat} {x : Str} {pos : Pos} (hg : Gl X x) (hd : (x == ("__debug__" : Str)) = false) (hc : ∀ d, P.consts[i]? = some (x, d) → ∃ u v, X.mg x = some u ∧ L2.RelV v u ∧ De K (fun _ => none) v d) (hx : ∃ d, P.consts[i]? = some (x, d)) :
    PE X (.Name x pos) (uE K P cl XW (.glob i)) := by
  obtain ⟨d, e⟩ := hx
  obtain ⟨w, v, h1, h2, h3⟩ := hc d e
  refine PE.weak (pe_glob hg h1 h2 hd) fun σ H Q ⟨Wd, u, ρ, R, p⟩ => ?_
  have p : pO (match P.consts[i]? with | some (_, d) => .ok (.sh d) | none => .stuck) (fun r => ∀ v H', Same H H' → DWr K (Mk Wd u) H H' r v → Q v H') (bad XW σ H) := p
  rw [e] at p
  exact p v H (Same.refl H) (de_empty _ h3)
theorem e_cmpV {o : COp} {a b : E} {x y : Expr} {pos : Pos} (hu : X.A.units + 65 < cLine) (hK : X.K = K) (hm : behindInMarks (copOf o) y = false) (ha : PE X x (uB K P cl XW a)) (hb : PE X y (uB K P cl XW b)) : PE X (.Compare x [copOf o] [y] pos) (uE K P cl XW (.cmp o a b)) := by
  subst hK
  exact PE.weak (pe_cmpR (cop_ok hu o) ha hb hm) (e_cmp (pos := pos) hu rfl ha hb)
theorem cmp_bool {o : COp} {x y : PyData} {r : W} (h : cmpD o x y = .ok r) : ∃ b, r = .sh (.bool b) := by
  unfold cmpD at h
  split at h <;> first | (cases h; done) | (cases h; exact ⟨_, rfl⟩) | (split at h <;> first | (cases h; exact ⟨_, rfl⟩) | cases h)
theorem bind_ok {α β : Type} {o : Out α} {f : α → Out β} {r : β} (h : o.bind f = .ok r) : ∃ a, o = .ok a ∧ f a = .ok r := by
  cases o with
  | ok a => exact ⟨a, rfl, h⟩
  | exc c => cases h
  | stuck => cases h
theorem evCmp_bool {o : COp} {a b : E} {ρ : Env} {r : W} (h : evE P cl (.cmp o a b) ρ = .ok r) : ∃ b, r = .sh (.bool b) := by
  obtain ⟨x, _, h⟩ := bind_ok (show ((bor a (evE P cl a ρ) ρ).bind fun x => (bor b (evE P cl b ρ) ρ).bind fun y => cmpD o x y) = .ok r from h)
  obtain ⟨y, _, h⟩ := bind_ok h
  exact cmp_bool h
theorem t_bool {e : E} {σ : L2.St} {H : Hp} {Q : Bool → Hp → Prop} (hv : ∀ i, e ≠ .var i) (hb : ∀ ρ r, evE P cl e ρ = .ok r → ∃ b, r = .sh (.bool b)) (h : uT K P cl XW (.val e) σ H Q) : uE K P cl XW e σ H (fun x H' => ∃ k, x = .bl k ∧ Q k H') := by
  obtain ⟨Wd, u, ρ, R, p⟩ := h
  have eb : bor e (evE P cl e ρ) ρ = (evE P cl e ρ).bind W.share := by
    cases e <;> first | rfl | exact absurd rfl (hv _)
  have p := (show pO ((bor e (evE P cl e ρ) ρ).bind truth) _ _ from p)
  rw [eb] at p
  refine ⟨Wd, u, ρ, R, ?_⟩
  cases ee : evE P cl e ρ with
  | exc c => rw [ee] at p; exact p
  | stuck => rw [ee] at p; exact p.elim
  | ok r =>
    rw [ee] at p
    obtain ⟨b, rfl⟩ := hb ρ r ee
    intro v H' s d
    cases (show De K _ v (.bool b) from d)
    exact ⟨b, rfl, p H' s⟩
theorem t_cmp {o : COp} {a b : E} {x y : Expr} {pos : Pos} (hu : X.A.units + 65 < cLine) (hK : X.K = K) (hm : behindInMarks (copOf o) y = false) (ha : PE X x (uB K P cl XW a)) (hb : PE X y (uB K P cl XW b)) : PT X (.Compare x [copOf o] [y] pos) (uT K P cl XW (.val (.cmp o a b))) := by
  subst hK
  exact PT.weak (pt_cmpR (cop_ok hu o) ha hb hm) fun σ H Q q => e_cmp (pos := pos) hu rfl ha hb σ H _ (t_bool (fun _ z => nomatch z) (fun _ _ => evCmp_bool) q)
theorem chn_red {o o' : COp} {a b c : E} : ∀ σ H Q, uE K P cl XW (.chn o o' a b c) σ H Q → tChain (rB K (cmpD o)) (rB K (cmpD o')) (uB K P cl XW a) (uB K P cl XW b) (uB K P cl XW c) σ H Q := by
  intro σ H Q ⟨Wd, u, ρ, R, p⟩
  have p := pO_bind (show pO ((bor a (evE P cl a ρ) ρ).bind fun x => (bor b (evE P cl b ρ) ρ).bind fun y => (cmpD o x y).bind fun r => match r with
    | .sh (.bool true) => (bor c (evE P cl c ρ) ρ).bind fun z => cmpD o' y z
    | .sh (.bool false) => okB false
    | _ => .stuck) _ _ from p)
  refine ⟨Wd, u, ρ, R, pO_mono p (fun d _ q v H1 s1 h1 => ⟨Wd, u, ρ, R.same s1, pO_mono (pO_bind q) (fun e _ q2 w H2 s2 h2 => ?_) fun c z => bad_same s1 c z⟩) fun _ z => z⟩
  have hM2 : ∀ m, Mk Wd u m → H2 m ≠ none := fun m hm => ne_same (s1.trans s2) (R.mdom m hm)
  refine ⟨Mk Wd u, d, e, hM2, h1.same s2, h2, ?_⟩
  cases ec : cmpD o d e with
  | exc c => exact absurd ec (noX_cmp o d e c)
  | stuck => rw [ec] at q2; exact q2.elim
  | ok r =>
    rw [ec] at q2
    obtain ⟨k, rfl⟩ := cmp_bool ec
    intro v' H3 s3 h3
    cases (show De K _ v' (.bool k) from h3)
    refine ⟨k, rfl, ?_⟩
    cases k with
    | false =>
      rw [if_neg Bool.false_ne_true]
      exact q2 _ H3 ((s1.trans s2).trans s3) (.bl false)
    | true =>
      rw [if_pos rfl]
      refine ⟨Wd, u, ρ, R.same ((s1.trans s2).trans s3), pO_mono (pO_bind (show pO ((bor c (evE P cl c ρ) ρ).bind fun z => cmpD o' e z) _ _ from q2)) (fun f _ q3 w' H4 s4 h4 => ?_) fun c z => bad_same ((s1.trans s2).trans s3) c z⟩
      exact ⟨Mk Wd u, e, f, fun m hm => ne_same (s3.trans s4) (hM2 m hm), h2.same (s3.trans s4), h4, post_of (b := bad XW σ H) (noX_cmp o' e f) (pO_mono q3 (fun r _ q4 v5 H5 s5 h5 => q4 v5 H5 (((s1.trans s2).trans s3).trans (s4.trans s5)) (h5.back (((s1.trans s2).trans s3).trans s4))) fun _ z => z)⟩
theorem e_chn {o o' : COp} {a b c : E} {x y z : Expr} {pos : Pos} (hu : X.A.units + 65 < cLine) (hK : X.K = K) (hm : lastMarks [copOf o, copOf o'] [y, z] = false) (ha : PE X x (uB K P cl XW a)) (hb : PE X y (uB K P cl XW b)) (hc : PE X z (uB K P cl XW c)) : PE X (.Compare x [copOf o, copOf o'] [y, z] pos) (uE K P cl XW (.chn o o' a b c)) := by
  subst hK
  exact PE.weak (pe_chain (cop_ok hu o) (cop_ok hu o') ha hb hc hm) chn_red
theorem evChn_bool {o o' : COp} {a b c : E} {ρ : Env} {r : W} (h : evE P cl (.chn o o' a b c) ρ = .ok r) : ∃ b, r = .sh (.bool b) := by
  obtain ⟨x, _, h⟩ := bind_ok (show ((bor a (evE P cl a ρ) ρ).bind fun x => (bor b (evE P cl b ρ) ρ).bind fun y => (cmpD o x y).bind fun r => match r with
    | .sh (.bool true) => (bor c (evE P cl c ρ) ρ).bind fun z => cmpD o' y z
    | .sh (.bool false) => okB false
    | _ => .stuck) = .ok r from h)
  obtain ⟨y, _, h⟩ := bind_ok h
  obtain ⟨w, _, h⟩ := bind_ok h
  split at h
  · obtain ⟨z, _, h⟩ := bind_ok h
    exact cmp_bool h
  · cases h; exact ⟨_, rfl⟩
  · cases h
theorem t_chn {o o' : COp} {a b c : E} {x y z : Expr} {pos : Pos} (hu : X.A.units + 65 < cLine) (hK : X.K = K) (hm : lastMarks [copOf o, copOf o'] [y, z] = false) (ha : PE X x (uB K P cl XW a)) (hb : PE X y (uB K P cl XW b)) (hc : PE X z (uB K P cl XW c)) : PT X (.Compare x [copOf o, copOf o'] [y, z] pos) (uT K P cl XW (.val (.chn o o' a b c))) := by
  subst hK
  exact PT.weak (pt_chain (cop_ok hu o) (cop_ok hu o') ha hb hc hm) fun σ H Q q => chn_red σ H _ (t_bool (fun _ z => nomatch z) (fun _ _ => evChn_bool) q)
theorem t_val {e : E} {x : Expr} (hK : X.K = K) (h : PE X x (uB K P cl XW e)) (he : ∀ whole, isTrue x X.env whole = (do let v ← whole; standAt x.pos; holding [v] (truthy v))) : PT X x (uT K P cl XW (.val e)) := by
  subst hK
  refine PT.weak (pt_truth h he) fun σ H Q ⟨Wd, u, ρ, R, p⟩ => ?_
  have p := pO_bind (show pO ((bor e (evE P cl e ρ) ρ).bind truth) _ _ from p)
  refine ⟨Wd, u, ρ, R, pO_mono p (fun d _ q v H1 s1 h1 => ?_) fun _ z => z⟩
  cases et : truth d with
  | exc c => exact absurd et (noX_truth d c)
  | stuck => rw [et] at q; exact q.elim
  | ok b => rw [et] at q; exact ⟨b, tru_of h1 et, q H1 s1⟩
theorem t_not {t : T} {x : Expr} {pos : Pos} (h : PT X x (uT K P cl XW t)) : PT X (.UnaryOp .Not x pos) (uT K P cl XW (.nt t)) := by
  refine PT.weak (pt_not h) fun σ H Q ⟨Wd, u, ρ, R, p⟩ => ?_
  have p := pO_bind (show pO ((evT P cl t ρ).bind fun b => .ok (!b)) _ _ from p)
  exact ⟨Wd, u, ρ, R, pO_mono p (fun b _ q H' s => q H' s) fun _ z => z⟩
theorem w_and1 {t : T} {x : Expr} {pos : Pos} (h : PT X x (uT K P cl XW t)) : PW X (.BoolOp .And [x] pos) (uAll K P cl XW (.one t)) := PW.weak (pw_and1 h) fun σ H Q q => q
theorem w_or1 {t : T} {x : Expr} {pos : Pos} (h : PT X x (uT K P cl XW t)) : PW X (.BoolOp .Or [x] pos) (uAny K P cl XW (.one t)) := PW.weak (pw_or1 h) fun σ H Q q => q
theorem w_and {t : T} {ts : Ts} {x y : Expr} {r : List Expr} {pos : Pos} (h : PT X x (uT K P cl XW t)) (h2 : PW X (.BoolOp .And (y :: r) pos) (uAll K P cl XW ts)) : PW X (.BoolOp .And (x :: y :: r) pos) (uAll K P cl XW (.cons t ts)) := by
  refine PW.weak (pw_and h h2) fun σ H Q ⟨Wd, u, ρ, R, p⟩ => ?_
  have p := pO_bind (show pO ((evT P cl t ρ).bind fun b => if b then evAll P cl ts ρ else .ok false) _ _ from p)
  refine ⟨Wd, u, ρ, R, pO_mono p (fun b _ q H1 s1 => ?_) fun _ z => z⟩
  cases b with
  | false =>
    rw [if_neg Bool.false_ne_true]
    exact q H1 s1
  | true =>
    rw [if_pos rfl]
    exact ⟨Wd, u, ρ, R.same s1, pO_mono (show pO (evAll P cl ts ρ) _ _ from q) (fun b _ q2 H2 s2 => q2 H2 (s1.trans s2)) fun c z => bad_same s1 c z⟩
theorem w_or {t : T} {ts : Ts} {x y : Expr} {r : List Expr} {pos : Pos} (h : PT X x (uT K P cl XW t)) (h2 : PW X (.BoolOp .Or (y :: r) pos) (uAny K P cl XW ts)) : PW X (.BoolOp .Or (x :: y :: r) pos) (uAny K P cl XW (.cons t ts)) := by
  refine PW.weak (pw_or h h2) fun σ H Q ⟨Wd, u, ρ, R, p⟩ => ?_
  have p := pO_bind (show pO ((evT P cl t ρ).bind fun b => if b then .ok true else evAny P cl ts ρ) _ _ from p)
  refine ⟨Wd, u, ρ, R, pO_mono p (fun b _ q H1 s1 => ?_) fun _ z => z⟩
  cases b with
  | true =>
    rw [if_pos rfl]
    exact q H1 s1
  | false =>
    rw [if_neg Bool.false_ne_true]
    exact ⟨Wd, u, ρ, R.same s1, pO_mono (show pO (evAny P cl ts ρ) _ _ from q) (fun b _ q2 H2 s2 => q2 H2 (s1.trans s2)) fun c z => bad_same s1 c z⟩
theorem v_and1 {e : E} {x : Expr} {pos : Pos} (h : PE X x (uE K P cl XW e)) : PE X (.BoolOp .And [x] pos) (uAndV K P cl XW (.cons e .nil)) := PE.weak (pe_one h) fun σ H Q q => q
theorem v_or1 {e : E} {x : Expr} {pos : Pos} (h : PE X x (uE K P cl XW e)) : PE X (.BoolOp .Or [x] pos) (uOrV K P cl XW (.cons e .nil)) := PE.weak (pe_one h) fun σ H Q q => q
theorem v_and {e e2 : E} {es : Es} {x y : Expr} {r : List Expr} {pos : Pos} (h : PE X x (uB K P cl XW e)) (h2 : PE X (.BoolOp .And (y :: r) pos) (uAndV K P cl XW (.cons e2 es))) : PE X (.BoolOp .And (x :: y :: r) pos) (uAndV K P cl XW (.cons e (.cons e2 es))) := by
  refine PE.weak (pe_and h h2) fun σ H Q ⟨Wd, u, ρ, R, p⟩ => ?_
  have p := pO_bind (show pO ((bor e (evE P cl e ρ) ρ).bind fun x => match x with
    | .bool true => evAnd P cl (.cons e2 es) ρ
    | .bool false => okB false
    | _ => .stuck) _ _ from p)
  refine ⟨Wd, u, ρ, R, pO_mono p (fun d _ q v H1 s1 h1 => ?_) fun _ z => z⟩
  cases d with
  | bool b =>
    refine ⟨b, h1.bool, ?_⟩
    cases b with
    | false =>
      rw [if_neg Bool.false_ne_true]
      exact q _ H1 s1 (.bl false)
    | true =>
      rw [if_pos rfl]
      exact ⟨Wd, u, ρ, R.same s1, pO_mono (show pO (evAnd P cl (.cons e2 es) ρ) _ _ from q) (fun r _ q2 v H2 s2 h2 => q2 v H2 (s1.trans s2) (h2.back s1)) fun c z => bad_same s1 c z⟩
  | _ => exact q.elim
theorem v_or {e e2 : E} {es : Es} {x y : Expr} {r : List Expr} {pos : Pos} (h : PE X x (uB K P cl XW e)) (h2 : PE X (.BoolOp .Or (y :: r) pos) (uOrV K P cl XW (.cons e2 es))) : PE X (.BoolOp .Or (x :: y :: r) pos) (uOrV K P cl XW (.cons e (.cons e2 es))) := by
  refine PE.weak (pe_or h h2) fun σ H Q ⟨Wd, u, ρ, R, p⟩ => ?_
  have p := pO_bind (show pO ((bor e (evE P cl e ρ) ρ).bind fun x => match x with
    | .bool true => okB true
    | .bool false => evOr P cl (.cons e2 es) ρ
    | _ => .stuck) _ _ from p)
  refine ⟨Wd, u, ρ, R, pO_mono p (fun d _ q v H1 s1 h1 => ?_) fun _ z => z⟩
  cases d with
  | bool b =>
    refine ⟨b, h1.bool, ?_⟩
    cases b with
    | true =>
      rw [if_pos rfl]
      exact q _ H1 s1 (.bl true)
    | false =>
      rw [if_neg Bool.false_ne_true]
      exact ⟨Wd, u, ρ, R.same s1, pO_mono (show pO (evOr P cl (.cons e2 es) ρ) _ _ from q) (fun r _ q2 v H2 s2 h2 => q2 v H2 (s1.trans s2) (h2.back s1)) fun c z => bad_same s1 c z⟩
  | _ => exact q.elim
theorem e_ite {c : T} {a b : E} {z x y : Expr} {pos : Pos} (hc : PT X z (uT K P cl XW c)) (ha : PE X x (uE K P cl XW a)) (hb : PE X y (uE K P cl XW b)) : PE X (.IfExp z x y pos) (uE K P cl XW (.ite c a b)) := by
  refine PE.weak (pe_ifExp hc ha hb) fun σ H Q ⟨Wd, u, ρ, R, p⟩ => ?_
  have p := pO_bind (show pO ((evT P cl c ρ).bind fun x => if x then evE P cl a ρ else evE P cl b ρ) _ _ from p)
  refine ⟨Wd, u, ρ, R, pO_mono p (fun k _ q H1 s1 => ?_) fun _ z => z⟩
  cases k with
  | true =>
    rw [if_pos rfl]
    exact ⟨Wd, u, ρ, R.same s1, pO_mono (show pO (evE P cl a ρ) _ _ from q) (fun r _ q2 v H2 s2 h2 => q2 v H2 (s1.trans s2) (h2.back s1)) fun c z => bad_same s1 c z⟩
  | false =>
    rw [if_neg Bool.false_ne_true]
    exact ⟨Wd, u, ρ, R.same s1, pO_mono (show pO (evE P cl b ρ) _ _ from q) (fun r _ q2 v H2 s2 h2 => q2 v H2 (s1.trans s2) (h2.back s1)) fun c z => bad_same s1 c z⟩
def Es.len : Es → Nat
  | .nil => 0
  | .cons _ es => es.len + 1
theorem evEs_len {ρ : Env} : ∀ {es : Es} {ds : List PyData}, evEs P cl es ρ = .ok ds → ds.length = es.len
  | .nil, _, h => by cases h; rfl
  | .cons e es, _, h => by
    obtain ⟨w, _, h⟩ := bind_ok (show ((evE P cl e ρ).bind fun w => w.share.bind fun d => (evEs P cl es ρ).bind fun ds => .ok (d :: ds)) = _ from h)
    obtain ⟨d, _, h⟩ := bind_ok h
    obtain ⟨ds, h2, h⟩ := bind_ok h
    cases h
    rw [List.length_cons, evEs_len h2]; rfl
theorem e_tup {es : Es} {xs : List Expr} {k : Nat} {pos : Pos} (hl : es.len ≤ 1000) (h : PA X xs (uA K P cl XW es)) : PE X (.Tuple xs k pos) (uE K P cl XW (.tup es)) := by
  refine PE.weak (pe_tupF h) fun σ H Q ⟨Wd, u, ρ, R, p⟩ => ?_
  have p := pO_bind (show pO ((evEs P cl es ρ).bind fun ds => .ok (W.sh (.tuple ds))) _ _ from p)
  refine ⟨Wd, u, ρ, R, pO_mono p (fun ds ed q vs H1 s1 h1 => ?_) fun _ z => z⟩
  refine ⟨by rw [deall_len h1, evEs_len ed]; exact Nat.le_of_lt (small1000 hl), fun p o hp ho => ?_⟩
  refine q _ _ (s1.trans (same_new hp)) (.tup (.inl ⟨o, ho, msk_some.mpr ⟨fun z => ?_, upd_same⟩⟩) (DeAll.same (msk_ext (same_new hp)) _ _ h1))
  exact ne_same s1 (R.mdom p z) hp
theorem newL {M : Msk} {H : Hp} {p : Addr} {xs : List V} {l : List PyData} (hp : H p = none) (h : DeAll K (msk M H) xs l) : DWr K M H (upd H p (.lst xs)) (.nl l) (.ref p) :=
  ⟨p, xs, rfl, hp, upd_same, DeAll.same (msk_mono fun b o n e => ⟨fun z => z.elim n fun q => (by rw [q, hp] at e; cases e), same_new hp b o e⟩) _ _ h⟩
theorem e_lst {es : Es} {xs : List Expr} {pos : Pos} (hl : es.len ≤ 1000) (h : PA X xs (uA K P cl XW es)) : PE X (.List xs pos) (uE K P cl XW (.lst es)) := by
  refine PE.weak (pe_lst h) fun σ H Q ⟨Wd, u, ρ, R, p⟩ => ?_
  have p := pO_bind (show pO ((evEs P cl es ρ).bind fun ds => .ok (W.nl ds)) _ _ from p)
  refine ⟨Wd, u, ρ, R, pO_mono p (fun ds ed q vs H1 s1 h1 => ?_) fun _ z => z⟩
  exact ⟨by rw [deall_len h1, evEs_len ed]; exact Nat.le_of_lt (small1000 hl), fun p hp => q _ _ (s1.trans (same_new hp)) ((newL hp h1).back s1)⟩
theorem e_edc {pos : Pos} : PE X (.Dict [] [] pos) (uE K P cl XW .edc) := by
  refine PE.weak pe_dnewX fun σ H Q ⟨Wd, u, ρ, R, p⟩ q hq => ?_
  exact p _ _ (same_new hq) (.dct (msk_some.mpr ⟨fun z => R.mdom q z hq, upd_same⟩) .nil)
theorem e_ndc {pos : Pos} : PE X (.Dict [] [] pos) (uE K P cl XW .ndc) := by
  refine PE.weak pe_dnewX fun σ H Q ⟨Wd, u, ρ, R, p⟩ q hq => ?_
  exact p _ _ (same_new hq) ⟨q, [], rfl, hq, upd_same, .nil⟩
theorem e_dd {k e : E} {ke ve : Expr} {pos : Pos} (hu : X.A.units + 1 < cLine) (hK : X.K = K) (hk : PE X ke (uE K P cl XW k)) (hv : PE X ve (uE K P cl XW e)) : PE X (.Dict [some ke] [ve] pos) (uE K P cl XW (.dd k e)) := by
  subst hK
  refine PE.weak (pe_ddX hu hk hv) fun σ H Q ⟨Wd, u, ρ, R, p⟩ D hD => ?_
  have p := pO_bind (show pO ((evE P cl k ρ).bind fun w => w.share.bind fun kd => (evE P cl e ρ).bind fun w' => w'.share.bind fun d => ddD kd d) _ _ from p)
  have sD : Same H (upd H D (DX D [])) := same_new hD
  have R' : Rep X.K (addM Wd D) u ρ σ (upd H D (DX D [])) := R.addW hD sD (by rw [upd_same]; exact fun z => nomatch z)
  refine ⟨_, u, ρ, R', pO_mono p (fun w _ q y H2 s1 hw => ?_) fun c z => bad_same sD c z⟩
  cases es : w.share with
  | exc c => exact absurd es (noX_share w c)
  | stuck => rw [es] at q; exact q.elim
  | ok kd =>
    rw [es] at q
    have hkd := hw.share R'.mdom es
    have q := pO_bind (show pO ((evE P cl e ρ).bind fun w' => w'.share.bind fun d => ddD kd d) _ _ from q)
    refine ⟨_, u, ρ, R'.same s1, pO_mono q (fun w' _ q v H3 s2 hw' => ?_) fun c z => bad_same (sD.trans s1) c z⟩
    cases es' : w'.share with
    | exc c => exact absurd es' (noX_share w' c)
    | stuck => rw [es'] at q; exact q.elim
    | ok d =>
      rw [es'] at q
      have hd := hw'.share (R'.same s1).mdom es'
      have q : pO (match keyI kd with
        | some ns => (.ok (.sh (toD [(ns, d)])) : Out W)
        | none => .stuck) _ _ := q
      cases ek : keyI kd with
      | none => rw [ek] at q; exact q.elim
      | some ns =>
        rw [ek] at q
        obtain ⟨b, rfl, hb1, hb2⟩ := key_db (.inl hkd) ek
        have hH3 : H3 D = some (DX D []) := s2 _ _ (s1 _ _ upd_same)
        have nD : ¬ Mk Wd u D := fun z => R.mdom D z hD
        have up : Same (msk (Mk (addM Wd D) u) H3) (msk (Mk Wd u) (upd H3 D (DX D [(ns, b, v)]))) := msk_mono fun b' o n z => ⟨fun y => n (y.imp .inl id), by rw [upd_ne fun y => n (.inl (.inr y))]; exact z⟩
        refine ⟨b, ns, rfl, hH3, st_same s2 hb1, q _ _ (fun b' o z => ?_) (.dct (msk_some.mpr ⟨nD, upd_same⟩) (.cons (sd_same up (sd_same (msk_ext s2) hb2)) (De.same up _ _ hd) .nil))⟩
        rw [upd_ne (ne_of_none z hD)]
        exact s2 _ _ (s1 _ _ (by rw [upd_ne (ne_of_none z hD)]; exact z))
theorem e_get {i : Nat} {k d : E} {o e f : Expr} {apos cpos : Pos} (hu : X.A.units + 1 < cLine) (hK : X.K = K) (ho : PE X o (uB K P cl XW (.var i))) (he : PE X e (uE K P cl XW k)) (hf : PE X f (uE K P cl XW d)) (m : M2 X o "get" apos e f cpos) :
    PE X (.Call (.Attribute o "get" apos) [e, f] [] cpos) (uE K P cl XW (.me .get (.var i) (.cons k (.cons d .nil)))) := by
  subst hK
  refine PE.weak (pe_get2X hu ho he hf m) fun σ H Q ⟨Wd, u, ρ, R, p⟩ => ?_
  have p := pO_bind (show pO ((bor (.var i) (evE P cl (.var i) ρ) ρ).bind fun x => (meOk .get x).bind fun _ => (evEs P cl (.cons k (.cons d .nil)) ρ).bind fun ds => meD .get x ds) _ _ from p)
  refine ⟨Wd, u, ρ, R, pO_mono p (fun x _ q v H1 s1 h1 => ?_) fun _ z => z⟩
  cases x with
  | dict l =>
    obtain ⟨a, xs, rfl, ha, hk⟩ := h1.dict
    have q : pO ((evEs P cl (.cons k (.cons d .nil)) ρ).bind fun ds => meD .get (.dict l) ds) (fun r => ∀ v H', Same H H' → DWr X.K (Mk Wd u) H H' r v → Q v H') (bad XW σ H) := q
    refine ⟨a, xs, rfl, ha, Wd, u, ρ, R.same s1, ?_⟩
    have ev : evEs P cl (.cons k (.cons d .nil)) ρ = (evE P cl k ρ).bind fun w => w.share.bind fun kd => ((evE P cl d ρ).bind fun w' => w'.share.bind fun dd => .ok [dd]).bind fun ds => .ok (kd :: ds) := by
      simp only [evEs]
      rfl
    rw [ev] at q
    cases ek : evE P cl k ρ with
    | stuck => rw [ek] at q; exact q.elim
    | exc c => rw [ek] at q; exact bad_same s1 c q
    | ok w =>
      rw [ek] at q
      intro v2 H2 s2 hw
      cases es : w.share with
      | exc c => exact absurd es (noX_share w c)
      | stuck =>
        have q : pO ((w.share.bind fun kd => ((evE P cl d ρ).bind fun w' => w'.share.bind fun dd => .ok [dd]).bind fun ds => .ok (kd :: ds)).bind fun ds => meD .get (.dict l) ds) _ _ := q
        rw [es] at q
        exact q.elim
      | ok kd =>
        have q : pO ((w.share.bind fun kd => ((evE P cl d ρ).bind fun w' => w'.share.bind fun dd => .ok [dd]).bind fun ds => .ok (kd :: ds)).bind fun ds => meD .get (.dict l) ds) (fun r => ∀ v H', Same H H' → DWr X.K (Mk Wd u) H H' r v → Q v H') (bad XW σ H) := q
        rw [es] at q
        have hkd := hw.share (R.same s1).mdom es
        refine ⟨Wd, u, ρ, R.same (s1.trans s2), ?_⟩
        cases ed : evE P cl d ρ with
        | stuck => rw [ed] at q; exact q.elim
        | exc c => rw [ed] at q; exact bad_same (s1.trans s2) c q
        | ok w' =>
          rw [ed] at q
          intro v3 H3 s3 hw'
          cases es' : w'.share with
          | exc c => exact absurd es' (noX_share w' c)
          | stuck =>
            have q : pO (((w'.share.bind fun dd => .ok [dd]).bind fun ds => .ok (kd :: ds)).bind fun ds => meD .get (.dict l) ds) (fun r => ∀ v H', Same H H' → DWr X.K (Mk Wd u) H H' r v → Q v H') (bad XW σ H) := q
            rw [es'] at q
            exact q.elim
          | ok dd =>
            have q : pO (((w'.share.bind fun dd => .ok [dd]).bind fun ds => .ok (kd :: ds)).bind fun ds => meD .get (.dict l) ds) (fun r => ∀ v H', Same H H' → DWr X.K (Mk Wd u) H H' r v → Q v H') (bad XW σ H) := q
            rw [es'] at q
            have hdd := hw'.share (R.same (s1.trans s2)).mdom es'
            have q : pO (match keyI kd with | some ns => (.ok (.sh ((kvGet l ns).getD dd)) : Out W) | none => .stuck) (fun r => ∀ v H', Same H H' → DWr X.K (Mk Wd u) H H' r v → Q v H') (bad XW σ H) := q
            cases eq : keyI kd with
            | none => rw [eq] at q; exact q.elim
            | some ns =>
              rw [eq] at q
              obtain ⟨b, rfl, hb, _⟩ := key_db (.inl hkd) eq
              have hk3 := hk.same (msk_ext (s2.trans s3))
              refine ⟨ns, b, xs, rfl, s3 _ _ (s2 _ _ ha), hk3.full, st_same s3 hb, ?_⟩
              refine q _ _ ((s1.trans s2).trans s3) ?_
              show De X.K (msk (Mk Wd u) H3) _ _
              cases eg : kvGet l ns with
              | none => rw [kv_none hk3 eg]; exact hdd
              | some d' =>
                obtain ⟨p', hp', hd'⟩ := kv_some hk3 eg
                rw [hp']
                exact hd'
  | _ => exact q.elim
def uO (K : PySem.W.Frag) (P : Prg) (cl : Nat → List PyData → Out W) (XW : Nat → L2.St → Hp → Prop) (e : E) : TO := fun σ H Q => ∃ Wd u ρ, Rep K Wd u ρ σ H ∧ pO (bnd e (bor e (evE P cl e ρ) ρ)) (fun o => ∀ H', Same H H' → Q o H') (bad XW σ H)
theorem PO.weak {e : Option Expr} {t t' : TO} (h : PO X e t) (w : ∀ σ H Q, t' σ H Q → t σ H Q) : PO X e t' := ⟨fun pins s σ H Q I q => h.run pins s σ H Q I (w σ H Q q)⟩
theorem o_none : PO X none (uO K P cl XW .nul) := PO.weak po_none fun σ H Q ⟨Wd, u, ρ, R, p⟩ => p H (Same.refl H)
theorem o_some {e : E} {x : Expr} (hn : e ≠ .nul) (h : PE X x (uB K P cl XW e)) : PO X (some x) (uO K P cl XW e) := by
  refine PO.weak (po_some h) fun σ H Q ⟨Wd, u, ρ, R, p⟩ => ?_
  have eb : bnd e (bor e (evE P cl e ρ) ρ) = (bor e (evE P cl e ρ) ρ).bind intOf := by
    cases e <;> first | rfl | exact absurd rfl hn
  rw [eb] at p
  refine ⟨Wd, u, ρ, R, pO_mono (pO_bind p) (fun d _ q v H1 s1 h1 => ?_) fun _ z => z⟩
  cases d with
  | int i => exact ⟨i, h1.int, q H1 s1⟩
  | _ => exact q.elim
theorem e_sl {a lo hi : E} {x : Expr} {l h : Option Expr} {p2 pos : Pos} (hK : X.K = K) (ha : PE X x (uB K P cl XW a)) (hl : PO X l (uO K P cl XW lo)) (hh : PO X h (uO K P cl XW hi)) : PE X (.Subscript x (.Slice l h none p2) pos) (uE K P cl XW (.sl a lo hi)) := by
  subst hK
  refine PE.weak (pe_slice sl_ok ha hl hh) fun σ H Q ⟨Wd, u, ρ, R, p⟩ => ?_
  have p := pO_bind (show pO ((bor a (evE P cl a ρ) ρ).bind fun x => (bnd lo (bor lo (evE P cl lo ρ) ρ)).bind fun y => (bnd hi (bor hi (evE P cl hi ρ) ρ)).bind fun z => slD x y z) _ _ from p)
  refine ⟨Wd, u, ρ, R, pO_mono p (fun d _ q v H1 s1 h1 => ⟨Wd, u, ρ, R.same s1, pO_mono (pO_bind q) (fun y _ q H2 s2 => ⟨Wd, u, ρ, R.same (s1.trans s2), pO_mono (pO_bind q) (fun z _ q H3 s3 => ?_) fun c z => bad_same (s1.trans s2) c z⟩) fun c z => bad_same s1 c z⟩) fun _ z => z⟩
  have s13 := s1.trans (s2.trans s3)
  refine ⟨Mk Wd u, d, fun m hm => ne_same s13 (R.mdom m hm), h1.same (s2.trans s3), ?_⟩
  cases d with
  | list l => exact fun v' H' s' h' => q v' H' (s13.trans s') (h'.back s13)
  | tuple l => exact fun v' H' s' h' => q v' H' (s13.trans s') (h'.back s13)
  | str w0 =>
    by_cases c : lenOk w0.length = true
    · have q' : pO (if lenOk w0.length then Out.ok (W.sh (.str (cutS w0 y z))) else Out.stuck) _ _ := q
      rw [if_pos c] at q'
      show Post _ _ _ (if lenOk w0.length then Out.ok (W.sh (.str (cutS w0 y z))) else Out.stuck) _
      rw [if_pos c]
      exact fun v' H' s' h' => q' v' H' (s13.trans s') (h'.back s13)
    · have q' : pO (if lenOk w0.length then Out.ok (W.sh (.str (cutS w0 y z))) else Out.stuck) _ _ := q
      rw [if_neg c] at q'
      exact q'.elim
  | _ => exact q.elim
def rCountD (K : PySem.W.Frag) : V → List V → Hp → VK → Prop := fun x xs H Q => ∃ (a : Addr) (y : V) (d : PyData) (ds : List PyData), x = V.ref a ∧ xs = [y] ∧ Dp K H (V.ref a) (.list ds) ∧ Dp K H y d ∧
  SeqAt.shaped (.list ds) = true ∧ SeqAt.shaped d = true ∧ Q (.int (ds.countP fun z => PyData.eqv z d : Nat)) H
theorem mt_countD (hu : X.A.units + 65 < cLine) : MtR X "list.count" (rCountD X.K) := by
  intro pins s σ H x xs v us Q I rx rxs h
  obtain ⟨a, y, d, ds, rfl, rfl, hl, hy, sl, sd, q⟩ := h
  cases rx
  cases rxs with
  | cons ry rt =>
    rename_i uy ut
    cases rt
    obtain ⟨bs, r1⟩ := Dp.reads I d y uy hy ry
    have hxs : PyData.canLayAll0 ds = true := SeqAt.canLay_of_shaped sl
    have hroom : X.A.units + 1 + min (PyData.depthAll ds) d.depth < cLine := room_in_shaped sd hu
    cases hl with
    | lst hs ha =>
      obtain ⟨its, rv, ⟨⟨cls, dd, data, sls⟩, n, ho, hc, hdn, hdt⟩, hlen⟩ := I.list hs
      simp only at hc hdt
      subst hc hdt
      obtain ⟨as, h4⟩ := Dp.readsAll I ds _ its ha rv
      have hmap : its.map (SeqAt.readOf s.heap) = ds := SeqAt.readsAll_map ds its as hxs h4
      refine call_meets PySem.F.slot_list_count ⟨_, ho, rfl⟩ PySem.F.entry_list_count (PySem.F.args_list_count_2 _ _)
        (SeqAt.list_countAt a its.toArray n dd sls uy (fun u => PyData.eqv (SeqAt.readOf s.heap u) d)) ⟨ho, SeqAt.items_eqAt (vs := its.toArray) (show ReadsAll s.heap its.toArray.toList ds as from h4) r1 hxs (SeqAt.canLay_of_shaped sd) hroom, ?_⟩
      have e : its.toArray.toList.countP (fun u => PyData.eqv (SeqAt.readOf s.heap u) d) = ds.countP fun z => PyData.eqv z d := by
        rw [← hmap, List.countP_map]; rfl
      rw [e]
      exact ⟨.int _, H, I.tok _, ⟨_, rfl⟩, q⟩
theorem find_at {l : List PyData} {f : PyData → Bool} {j : Nat} (h : l.findIdx? f = some j) : ∃ z, l[j]? = some z ∧ f z = true ∧ ∀ (m : Nat) (z' : PyData), m < j → l[m]? = some z' → f z' = false := by
  obtain ⟨hj, h1, h2⟩ := List.findIdx?_eq_some_iff_getElem.mp h
  refine ⟨l[j], List.getElem?_eq_getElem hj, h1, fun m z' hm e => ?_⟩
  have hml : m < l.length := by omega
  rw [List.getElem?_eq_getElem hml] at e
  cases e
  have := h2 m hm
  exact Bool.eq_false_iff.mpr this
theorem e_lix {a b : E} {x y : Expr} {apos pos : Pos} (hu : X.A.units + 65 < cLine) (hK : X.K = K) (ha : PE X x (uB K P cl XW a)) (hb : PE X y (uB K P cl XW b)) (hst : starEach [y] X.env = (false, eval y X.env) :: starEach [] X.env) (hbase : attributeBase x "index" X.env (eval x X.env) = eval x X.env) (hl : (apos.endLine == pos.line) = true) :
    PE X (.Call (.Attribute x "index" apos) [y] [] pos) (uE K P cl XW (.lix a b)) := by
  subst hK
  refine PE.weak (pe_bm PySem.F.plainAttrs_list PySem.F.slot_list_index PySem.F.type_list_index (mt_indexD hu) ha (pa_cons hb pa_nil hst) hbase (by rw [hst]; rfl) hl hst rfl) fun σ H Q ⟨Wd, u, ρ, R, p⟩ => ?_
  have p := pO_bind (show pO ((bor a (evE P cl a ρ) ρ).bind fun x => (lsO x).bind fun _ => (bor b (evE P cl b ρ) ρ).bind fun y => lixD x y) _ _ from p)
  refine ⟨Wd, u, ρ, R, pO_mono p (fun d _ q v H1 s1 h1 => ?_) fun _ z => z⟩
  cases d with
  | list l =>
    obtain ⟨c, xs, rfl, t1, t3⟩ := h1.list
    have q : pO ((bor b (evE P cl b ρ) ρ).bind fun y => lixD (.list l) y) _ _ := q
    refine ⟨.inl ⟨rfl, xs, t1⟩, Wd, u, ρ, R.same s1, pO_mono (pO_bind q) (fun e _ q2 w H2 s2 h2 => ?_) fun c z => bad_same s1 c z⟩
    have q2 : pO (if (shapedD (.list l) && noD (.list l) && (shapedD e && noD e)) = true then (match l.findIdx? (fun z => PyData.eqv z e) with | some j => okI (j : Nat) | none => .stuck) else .stuck) _ _ := q2
    by_cases hl : (shapedD (.list l) && noD (.list l) && (shapedD e && noD e)) = true
    · rw [if_pos hl] at q2
      rw [Bool.and_eq_true, Bool.and_eq_true, Bool.and_eq_true] at hl
      cases hj : l.findIdx? (fun z => PyData.eqv z e) with
      | none => rw [hj] at q2; exact q2.elim
      | some j =>
        rw [hj] at q2
        obtain ⟨z, g1, g2, g3⟩ := find_at hj
        exact ⟨c, w, e, l, j, z, rfl, rfl, De.dp _ _ hl.1.2 (h1.same s2).full, De.dp _ _ hl.2.2 h2.full, hl.1.1, hl.2.1, g1, g2, g3, q2 _ _ (s1.trans s2) (.int _)⟩
    · rw [if_neg hl] at q2; exact q2.elim
  | _ => exact q.elim
theorem e_lct {a b : E} {x y : Expr} {apos pos : Pos} (hu : X.A.units + 65 < cLine) (hK : X.K = K) (ha : PE X x (uB K P cl XW a)) (hb : PE X y (uB K P cl XW b)) (hst : starEach [y] X.env = (false, eval y X.env) :: starEach [] X.env) (hbase : attributeBase x "count" X.env (eval x X.env) = eval x X.env) (hl : (apos.endLine == pos.line) = true) :
    PE X (.Call (.Attribute x "count" apos) [y] [] pos) (uE K P cl XW (.lct a b)) := by
  subst hK
  refine PE.weak (pe_bm PySem.F.plainAttrs_list PySem.F.slot_list_count PySem.F.type_list_count (mt_countD hu) ha (pa_cons hb pa_nil hst) hbase (by rw [hst]; rfl) hl hst rfl) fun σ H Q ⟨Wd, u, ρ, R, p⟩ => ?_
  have p := pO_bind (show pO ((bor a (evE P cl a ρ) ρ).bind fun x => (lsO x).bind fun _ => (bor b (evE P cl b ρ) ρ).bind fun y => lctD x y) _ _ from p)
  refine ⟨Wd, u, ρ, R, pO_mono p (fun d _ q v H1 s1 h1 => ?_) fun _ z => z⟩
  cases d with
  | list l =>
    obtain ⟨c, xs, rfl, t1, t3⟩ := h1.list
    have q : pO ((bor b (evE P cl b ρ) ρ).bind fun y => lctD (.list l) y) _ _ := q
    refine ⟨.inl ⟨rfl, xs, t1⟩, Wd, u, ρ, R.same s1, pO_mono (pO_bind q) (fun e _ q2 w H2 s2 h2 => ?_) fun c z => bad_same s1 c z⟩
    have q2 : pO (if (shapedD (.list l) && noD (.list l) && (shapedD e && noD e)) = true then okI (l.countP (fun z => PyData.eqv z e) : Nat) else .stuck) _ _ := q2
    by_cases hl : (shapedD (.list l) && noD (.list l) && (shapedD e && noD e)) = true
    · rw [if_pos hl] at q2
      rw [Bool.and_eq_true, Bool.and_eq_true, Bool.and_eq_true] at hl
      exact ⟨c, w, e, l, rfl, rfl, De.dp _ _ hl.1.2 (h1.same s2).full, De.dp _ _ hl.2.2 h2.full, hl.1.1, hl.2.1, q2 _ _ (s1.trans s2) (.int _)⟩
    · rw [if_neg hl] at q2; exact q2.elim
  | _ => exact q.elim
theorem uB_mono {e : E} {σ : L2.St} {H : Hp} {Q Q' : V → Hp → Prop} (h : uB K P cl XW e σ H Q) (g : ∀ v H', Q v H' → Q' v H') : uB K P cl XW e σ H Q' := by
  obtain ⟨Wd, u, ρ, R, p⟩ := h
  exact ⟨Wd, u, ρ, R, pO_mono p (fun d _ q v H' s hd => g v H' (q v H' s hd)) fun _ z => z⟩
def prtL (z m : Str) : List V := [.str (Txt.partition z m).1, .str (Txt.partition z m).2.1, .str (Txt.partition z m).2.2]
theorem mt_prt : MtR X "str.partition" (fun x xs H Q => ∃ z m, x = .str z ∧ xs = [.str m] ∧ (m.length == 0) = false ∧ z.length ≤ sizeLine ∧ NewT H (prtL z m) Q) := by
  intro pins st σ H x xs v us Q I rx rs q
  obtain ⟨z, m, rfl, rfl, hm, hz, q⟩ := q
  obtain ⟨tz, rfl⟩ := rx
  obtain ⟨v1, rfl, r1⟩ : ∃ v1, us = [v1] ∧ RelV (.str m) v1 := by
    cases rs with
    | cons r1 r2 => cases r2; exact ⟨_, rfl, r1⟩
  obtain ⟨tm, rfl⟩ := r1
  have lay : ∀ (x1 x2 x3 : Str) (t1 t2 t3 : Tok) (n : Nat), NewT H [.str x1, .str x2, .str x3] Q → EP X pins σ Q (.ref st.heap.objs.size) { st with toks := n, heap := st.heap.push { cls := .type "tuple", data := .seq [Value.str x1 t1, .str x2 t2, .str x3 t3].toArray } } := fun x1 x2 x3 t1 t2 t3 n w =>
    Inv.newT (s := { st with toks := n }) (xs := [.str x1, .str x2, .str x3]) (its := [.str x1 t1, .str x2 t2, .str x3 t3]) (I.tok n) (by show 3 ≤ sizeLine; decide) (.cons ⟨t1, rfl⟩ (.cons ⟨t2, rfl⟩ (.cons ⟨t3, rfl⟩ .nil))) w
  refine call_meets F.slot_str_partition (typeIs_str _ _ _) F.entry_str_partition (F.args_str_partition_2 _ _) (meets_str_partition z m tz tm hm hz) ?_
  unfold prtL Txt.partition at q
  revert q
  cases Builtin.Str.occurrences z m 0 z.length 1 with
  | nil => exact fun w => lay _ _ _ _ _ _ _ w
  | cons j r => exact fun w => lay _ _ _ _ _ _ _ w
theorem deall_strs' {H : Hp} : ∀ l : List Str, DeAll K H (l.map V.str) (l.map .str)
  | [] => .nil
  | _ :: r => .cons (.str _) (deall_strs' r)
def meN : Me → Str
  | .join => "join" | .removeprefix => "removeprefix" | .partition => "partition" | .startswith => "startswith" | .split => "split" | .count => "count" | .get => "get"
theorem e_mth {m : Me} {a b : E} {x y : Expr} {apos pos : Pos} (hK : X.K = K) (ha : PE X x (uB K P cl XW a)) (hb : PE X y (uB K P cl XW b)) (hst : starEach [y] X.env = [(false, eval y X.env)]) (hbase : ∀ n, attributeBase x n X.env (eval x X.env) = eval x X.env) (hl : (apos.endLine == pos.line) = true) (hm : m ≠ .get ∧ m ≠ .count) :
    PE X (.Call (.Attribute x (meN m) apos) [y] [] pos) (uE K P cl XW (.mth m a b)) := by
  subst hK
  have key : ∀ σ H Q, uE X.K P cl XW (.mth m a b) σ H Q → uB X.K P cl XW a σ H fun v H1 => (∃ s, v = .str s) ∧ uB X.K P cl XW b σ H1 fun w H2 => ∃ s, v = .str s ∧ ∃ d, (∃ Wd u ρ, Rep X.K Wd u ρ σ H2 ∧ DB X.K (Mk Wd u) H2 w d ∧ pO (mthD m (.str s) d) (fun r => ∀ v' H', Same H2 H' → DWr X.K (Mk Wd u) H2 H' r v' → Q v' H') (bad XW σ H2)) := fun σ H Q ⟨Wd, u, ρ, R, p⟩ => by
    have p := pO_bind (show pO ((bor a (evE P cl a ρ) ρ).bind fun x => (strU x).bind fun _ => (bor b (evE P cl b ρ) ρ).bind fun y => mthD m x y) _ _ from p)
    refine ⟨Wd, u, ρ, R, pO_mono p (fun d _ q v H1 s1 h1 => ?_) fun _ z => z⟩
    cases d with
    | str s =>
      have ev := h1.str
      subst ev
      have q : pO ((bor b (evE P cl b ρ) ρ).bind fun y => mthD m (.str s) y) _ _ := q
      refine ⟨⟨s, rfl⟩, Wd, u, ρ, R.same s1, pO_mono (pO_bind q) (fun e _ q2 w H2 s2 h2 => ?_) fun c z => bad_same s1 c z⟩
      exact ⟨s, rfl, e, Wd, u, ρ, (R.same s1).same s2, h2, pO_mono q2 (fun r _ q3 v' H' s3 h3 => q3 v' H' (s1.trans (s2.trans s3)) (h3.back (s1.trans s2))) fun c z => bad_same (s1.trans s2) c z⟩
    | _ => exact q.elim
  cases m with
  | join =>
    refine PE.weak (pe_join ha hb hst (hbase _) hl) fun σ H Q q => uB_mono (key σ H Q q) fun v H1 ⟨e1, q1⟩ => ⟨e1, uB_mono q1 fun w H2 ⟨s, e2, d, Wd, u, ρ, R, hd, q2⟩ => ?_⟩
    cases d with
    | list l =>
      obtain ⟨c, xs, rfl, t1, t3⟩ := hd.list
      have q2 : pO (match strsL l with
        | some ys => if (ys.map (·.length)).sum + ys.length * s.length ≤ 16777216 then Out.ok (W.sh (.str (Txt.join s ys))) else Out.stuck
        | none => Out.stuck) _ _ := q2
      cases es : strsL l with
      | none => rw [es] at q2; exact q2.elim
      | some ys =>
        rw [es] at q2
        have q2 : pO (if (ys.map (·.length)).sum + ys.length * s.length ≤ 16777216 then Out.ok (W.sh (.str (Txt.join s ys))) else Out.stuck) _ _ := q2
        by_cases z : (ys.map (·.length)).sum + ys.length * s.length ≤ 16777216
        · rw [if_pos z] at q2
          obtain ⟨g1, _⟩ := strs_de t3 es
          subst g1
          exact ⟨s, c, ys, e2, rfl, .inl t1, z, q2 _ _ (fun _ _ e => e) (.str _)⟩
        · rw [if_neg z] at q2; exact q2.elim
    | _ => exact q2.elim
  | removeprefix =>
    refine PE.weak (pe_m1 PySem.F.slot_str_removeprefix PySem.F.type_str_removeprefix mt_removeprefix ha hb hst (hbase _) hl) fun σ H Q q => uB_mono (key σ H Q q) fun v H1 ⟨e1, q1⟩ => ⟨e1, uB_mono q1 fun w H2 ⟨s, e2, d, Wd, u, ρ, R, hd, q2⟩ => ?_⟩
    cases d with
    | str p =>
      have ev := hd.str
      subst ev
      have q2 : pO (if lenOk s.length then Out.ok (W.sh (.str (Txt.removeprefix s p))) else Out.stuck) _ _ := q2
      by_cases z : lenOk s.length = true
      · rw [if_pos z] at q2
        exact ⟨s, p, e2, rfl, lenOk_le z, q2 _ _ (fun _ _ e => e) (.str _)⟩
      · rw [if_neg z] at q2; exact q2.elim
    | _ => exact q2.elim
  | startswith =>
    refine PE.weak (pe_m1 PySem.F.slot_str_startswith PySem.F.type_str_startswith mt_startswith ha hb hst (hbase _) hl) fun σ H Q q => uB_mono (key σ H Q q) fun v H1 ⟨e1, q1⟩ => ⟨e1, uB_mono q1 fun w H2 ⟨s, e2, d, Wd, u, ρ, R, hd, q2⟩ => ?_⟩
    cases d with
    | str p =>
      have ev := hd.str
      subst ev
      exact ⟨s, p, e2, rfl, q2 _ _ (fun _ _ e => e) (.bl _)⟩
    | _ => exact q2.elim
  | split =>
    refine PE.weak (pe_split ha hb hst (hbase _) hl) fun σ H Q q => uB_mono (key σ H Q q) fun v H1 ⟨e1, q1⟩ => ⟨e1, uB_mono q1 fun w H2 ⟨s, e2, d, Wd, u, ρ, R, hd, q2⟩ => ?_⟩
    cases d with
    | str p =>
      have ev := hd.str
      subst ev
      have q2 : pO (if lenOk (s.length + 2) && !(p.length == 0) then Out.ok (W.nl ((Txt.split s p).map .str)) else Out.stuck) _ _ := q2
      by_cases z : (lenOk (s.length + 2) && !(p.length == 0)) = true
      · rw [if_pos z] at q2
        obtain ⟨z1, z2⟩ := Bool.and_eq_true_iff.mp z
        exact ⟨s, p, e2, rfl, by simpa using z2, lenOk_le z1, fun c hc => q2 _ _ (same_new hc) (newL hc (deall_strs' _))⟩
      · rw [if_neg z] at q2; exact q2.elim
    | _ => exact q2.elim
  | partition =>
    refine PE.weak (pe_m1 PySem.F.slot_str_partition PySem.F.type_str_partition mt_prt ha hb hst (hbase _) hl) fun σ H Q q => uB_mono (key σ H Q q) fun v H1 ⟨e1, q1⟩ => ⟨e1, uB_mono q1 fun w H2 ⟨s, e2, d, Wd, u, ρ, R, hd, q2⟩ => ?_⟩
    cases d with
    | str p =>
      have ev := hd.str
      subst ev
      have q2 : pO (if lenOk s.length && !(p.length == 0) then Out.ok (W.sh (.tuple [.str (Txt.partition s p).1, .str (Txt.partition s p).2.1, .str (Txt.partition s p).2.2])) else Out.stuck) _ _ := q2
      by_cases z : (lenOk s.length && !(p.length == 0)) = true
      · rw [if_pos z] at q2
        obtain ⟨z1, z2⟩ := Bool.and_eq_true_iff.mp z
        refine ⟨s, p, e2, rfl, by simpa using z2, lenOk_le z1, fun c o hc ho => q2 _ _ (same_new hc) ?_⟩
        exact .tup (.inl ⟨o, ho, msk_some.mpr ⟨fun n => R.mdom c n hc, upd_same⟩⟩) (.cons (.str _) (.cons (.str _) (.cons (.str _) .nil)))
      · rw [if_neg z] at q2; exact q2.elim
    | _ => exact q2.elim
  | count => exact absurd rfl hm.2
  | get => exact absurd rfl hm.1
theorem e_rsl {a : E} {x : Expr} {k : Nat} {p1 p2 p3 pos : Pos} (hK : X.K = K) (ha : PE X x (uB K P cl XW a)) : PE X (.Subscript x (.Slice none none (some (.UnaryOp .USub (.Constant (.int 1) k p1) p2)) p3) pos) (uE K P cl XW (.rsl a)) := by
  subst hK
  refine PE.weak (pe_revA ha) fun σ H Q ⟨Wd, u, ρ, R, p⟩ => ?_
  have p := pO_bind (show pO ((bor a (evE P cl a ρ) ρ).bind revS) _ _ from p)
  refine ⟨Wd, u, ρ, R, pO_mono p (fun d _ q v H1 s1 h1 => ?_) fun _ z => z⟩
  cases d with
  | list l =>
    obtain ⟨b, xs, rfl, t1, t3⟩ := h1.list
    exact ⟨b, xs, rfl, .inl ⟨t1, fun p hp => q _ _ (s1.trans (same_new hp)) ((newL hp (deall_rev t3)).back s1)⟩⟩
  | tuple l =>
    obtain ⟨b, xs, rfl, t1, t2, t3⟩ := h1.tuple
    have hM : ∀ m, Mk Wd u m → H1 m ≠ none := fun m hm => ne_same s1 (R.mdom m hm)
    refine ⟨b, xs, rfl, .inr ⟨t1, ?_⟩⟩
    exact Post.newT (K := X.K) (M := Mk Wd u) (l := l.reverse) hM (fun v' H' s' h' => q v' H' (s1.trans s') (h'.back s1)) (deall_rev t3)
  | _ => exact q.elim
theorem e_stp {i k k2 : Nat} {a : E} {x : Expr} {p1 p2 p3 pos : Pos} (hK : X.K = K) (ha : PE X x (uB K P cl XW a)) : PE X (.Subscript x (.Slice (some (.Constant (.int (i : Int)) k p1)) none (some (.Constant (.int 2) k2 p2)) p3) pos) (uE K P cl XW (.stp i a)) := by
  subst hK
  refine PE.weak (pe_stp ha) fun σ H Q ⟨Wd, u, ρ, R, p⟩ => ?_
  have p := pO_bind (show pO ((bor a (evE P cl a ρ) ρ).bind (stpD i)) _ _ from p)
  refine ⟨Wd, u, ρ, R, pO_mono p (fun d _ q v H1 s1 h1 => ?_) fun _ z => z⟩
  cases d with
  | list l =>
    obtain ⟨b, xs, rfl, t1, t3⟩ := h1.list
    exact ⟨b, xs, rfl, t1, fun p hp => q _ _ (s1.trans (same_new hp)) ((newL hp (deall_evr (deall_drop i t3))).back s1)⟩
  | _ => exact q.elim
theorem e_mxd {a d : E} {x y : Expr} {p kp pos : Pos} (hc : X.calm = true) (hK : X.K = K) (hg : Gl X "max") (hm : X.mg "max" = none) (ha : PE X x (uB K P cl XW a)) (hd : PE X y (uB K P cl XW d)) (hs : starEach [x] X.env = (false, eval x X.env) :: starEach [] X.env) : PE X (.Call (.Name "max" p) [x] [⟨some "default", y, kp⟩] pos) (uE K P cl XW (.mxd a d)) := by
  subst hK
  refine PE.weak (pe_callBK (ks := [Str.ofString "default"]) (cr_maxK hc) hg hm (by decide +kernel) (pa_cons ha pa_nil hs) (pk_cons hd pk_nil) (he := by rw [hs]; rfl) (hpl := by rw [hs]; rfl)) fun σ H Q ⟨Wd, u, ρ, R, p⟩ => ?_
  have p := pO_bind (show pO ((bor a (evE P cl a ρ) ρ).bind fun x => (bor d (evE P cl d ρ) ρ).bind fun y => mxdD x y) _ _ from p)
  refine ⟨Wd, u, ρ, R, pO_mono p (fun d1 _ q v H1 s1 h1 => ?_) fun _ z => z⟩
  refine ⟨Wd, u, ρ, R.same s1, pO_mono (pO_bind q) (fun e _ q2 w' H2 s2 h2 => ?_) fun c z => bad_same s1 c z⟩
  cases d1 with
  | list l =>
    cases e with
    | int i =>
      obtain ⟨b, xs, rfl, t1, t3⟩ := h1.list
      obtain rfl := h2.int
      have q2 : pO (match intsOf l with | some ns => if ns = [] then okI i else okI (maxL ns) | none => .stuck) _ _ := q2
      split at q2
      · rename_i ns en
        rw [intsOf_eq en] at t3
        rw [deall_ints t3] at t1
        refine ⟨b, ns, _, rfl, rfl, sq_same s2 t1, fun h0 => ?_, fun h0 => ?_⟩
        · rw [if_pos h0] at q2
          exact q2 _ H2 (s1.trans s2) (.int _)
        · rw [if_neg (fun z => by rw [z] at h0; cases h0)] at q2
          exact q2 _ H2 (s1.trans s2) (.int _)
      · exact q2.elim
    | _ => exact q2.elim
  | _ => cases e <;> exact q2.elim
theorem e_isi {t : Ty} {a : E} {x ty : Expr} {p pos : Pos} {p2 : Pos} (hK : X.K = K) (hg : Gl X "isinstance") (hm : X.mg "isinstance" = none) (hs : starEach [x, .Name (Str.ofString (tyN t)) p2] X.env = (false, eval x X.env) :: starEach [.Name (Str.ofString (tyN t)) p2] X.env)
    (ha : PE X x (uB K P cl XW a)) (ht : PE X (.Name (Str.ofString (tyN t)) p2) (tC (.ty (tyN t)))) : PE X (.Call (.Name "isinstance" p) [x, .Name (Str.ofString (tyN t)) p2] [] pos) (uE K P cl XW (.isi t a)) := by
  subst hK
  have hc : CallR X (.builtin "isinstance") (fun xs H Q => ∃ M v d, xs = [v, .ty (tyN t)] ∧ DB X.K M H v d ∧ Q (.bl (tyD t d)) H) := by
    intro pins s σ H xs us Q I r h
    obtain ⟨M, v, d, rfl, hd, q⟩ := h
    exact isi_ok I r hd q
  refine PE.weak (pe_callB hc hg hm (by decide +kernel) (pa_cons ha (pa_cons ht pa_nil) hs) (by decide) (by decide) hs) fun σ H Q ⟨Wd, u, ρ, R, p⟩ => ?_
  have p := pO_bind (show pO ((bor a (evE P cl a ρ) ρ).bind fun x => okB (tyD t x)) _ _ from p)
  exact ⟨Wd, u, ρ, R, pO_mono p (fun d _ q v H1 s1 h1 => ⟨Mk Wd u, v, d, rfl, h1, q _ H1 s1 (.bl _)⟩) fun _ z => z⟩
theorem e_call {f k : Nat} {es : Es} {x : Str} {xs : List Expr} {a : Expr} {A : Addr} {fd : FuncData} {ps : List Str} {p pos : Pos} (hK : X.K = K) (F : FnOk X.prog X.w X.K X.mg X.base (L2.CX X.prog X.w) k A fd ps (spD K P X.mg cl f ps.length)) (hr : Room k X.A) (hg : Gl X x) (hm : X.mg x = some (.ref A)) (hk : PySem.W.keepIn X.K (.ref A) = true)
    (hb : Binds X.K fd ps []) (tk : Takes X (fun cls d σ H => ∃ c, XIs P X.mg c cls ∧ XW c σ H)) (hdb : (x == ("__debug__" : Str)) = false) (hl : es.len = ps.length) (h : PA X (a :: xs) (uA K P cl XW es))
    (he : starEach (a :: xs) X.env = (false, eval a X.env) :: starEach xs X.env) (hpl : (backTo pos (starEach xs X.env)).any (·.1) = false) : PE X (.Call (.Name x p) (a :: xs) [] pos) (uE K P cl XW (.call f es)) := by
  refine PE.weak (pe_callSD F hr hg hm hk hb .nil (fun σ => passAt tk σ) h hdb he hpl) fun σ H Q ⟨Wd, u, ρ, R, p⟩ => ?_
  have p := pO_bind (show pO ((evEs P cl es ρ).bind fun ds => cl f ds) _ _ from p)
  refine ⟨Wd, u, ρ, R, pO_mono p (fun ds ed q vs H1 s1 h1 => ?_) fun _ z => z⟩
  show spD K P X.mg cl f ps.length (vs ++ []) H1 Q _
  rw [List.append_nil]
  refine ⟨by rw [deall_len h1, evEs_len ed, hl], Mk Wd u, ds, fun m hm => ne_same s1 (R.mdom m hm), h1, pO_mono q (fun r _ q2 v H' s' h' => q2 v H' (s1.trans s') (h'.back s1)) fun c z H' cls d s' hx => ?_⟩
  exact ⟨c, hx, z H' (s1.trans s')⟩
theorem e_call0 {f k : Nat} {x : Str} {A : Addr} {fd : FuncData} {ps : List Str} {p pos : Pos} (hK : X.K = K) (F : FnOk X.prog X.w X.K X.mg X.base (L2.CX X.prog X.w) k A fd ps (spD K P X.mg cl f ps.length)) (hr : Room k X.A) (hg : Gl X x) (hm : X.mg x = some (.ref A)) (hk : PySem.W.keepIn X.K (.ref A) = true)
    (hb : Binds X.K fd ps []) (hdb : (x == ("__debug__" : Str)) = false) (hl : 0 = ps.length) : PE X (.Call (.Name x p) [] [] pos) (uE K P cl XW (.call0 f)) := by
  refine PE.weak (pe_call0 F hr hg hm hk hb .nil (passL (X := X)) hdb) fun σ H Q ⟨Wd, u, ρ, R, p⟩ => ?_
  have p : pO (match cl f [] with | .ok r => .ok r | _ => .stuck) (fun r => ∀ v H', Same H H' → DWr K (Mk Wd u) H H' r v → Q v H') (bad XW σ H) := p
  refine ⟨hl, Mk Wd u, [], R.mdom, .nil, ?_⟩
  cases e : cl f [] with
  | ok r => rw [e] at p; exact p
  | exc c => rw [e] at p; exact p.elim
  | stuck => rw [e] at p; exact p.elim
def uN (K : PySem.W.Frag) (P : Prg) (cl : Nat → List PyData → Out W) (XW : Nat → L2.St → Hp → Prop) (e : E) : TE := fun σ H Q => ∃ Wd u ρ, Rep K Wd u ρ σ H ∧ pO (borN e (evE P cl e ρ) ρ) (fun l => ∀ v H' a xs, Same H H' → v = .ref a → SqL K H' a xs → DeAll K (msk (Mk Wd u) H') xs l → Q v H') (bad XW σ H)
theorem pe_N {e : E} {ex : Expr} (h : ∀ i, e = .var i → PE X ex (tVar i)) (g : PE X ex (uE K P cl XW e)) : PE X ex (uN K P cl XW e) := by
  by_cases hv : ∃ j, e = .var j
  · obtain ⟨j, rfl⟩ := hv
    refine PE.weak (h j rfl) fun σ H Q ⟨Wd, u, ρ, R, p⟩ => ?_
    have p : pO (match ρ[j]? with | some (some (.nl l)) => (.ok l : Out (List PyData)) | some (some (.sh (.list l))) => .ok l | _ => .stuck) (fun l => ∀ v H' a xs, Same H H' → v = .ref a → SqL K H' a xs → DeAll K (msk (Mk Wd u) H') xs l → Q v H') (bad XW σ H) := p
    split at p
    · rename_i l e
      obtain ⟨v, h1, a, xs, q1, q2, q3, q4⟩ := R.slot j _ e
      exact ⟨v, h1, p v H a xs (Same.refl H) q2 (.inl (Rd.of q3)) q4⟩
    · rename_i l e
      obtain ⟨v, h1, q1⟩ := R.slot j _ e
      obtain ⟨a, xs, rfl, q2, q3⟩ := DB.list (.inl q1)
      exact ⟨_, h1, p _ H a xs (Same.refl H) rfl q2 q3⟩
    · exact p.elim
  · refine PE.weak g fun σ H Q ⟨Wd, u, ρ, R, p⟩ => ?_
    have eb : borN e (evE P cl e ρ) ρ = (evE P cl e ρ).bind fun w => match w with | .nl l => (.ok l : Out (List PyData)) | .sh (.list l) => .ok l | _ => .stuck := by
      cases e <;> first | rfl | exact absurd ⟨_, rfl⟩ hv
    rw [eb] at p
    refine ⟨Wd, u, ρ, R, pO_mono (pO_bind p) (fun r _ q v H' s d => ?_) fun _ z => z⟩
    cases r with
    | nl l =>
      obtain ⟨a, xs, h1, h2, h3, h4⟩ := d
      exact q v H' a xs s h1 (.inl (Rd.of h3)) (DeAll.same (msk_less fun b z => .inl z) _ _ h4)
    | sh x =>
      cases x with
      | list l =>
        obtain ⟨a, xs, rfl, q2, q3⟩ := DB.list (.inl (show De K (msk (Mk Wd u) H') v (.list l) from d))
        exact q _ H' a xs s rfl q2 q3
      | _ => exact q.elim
    | nd x => exact q.elim
theorem e_cat {a b : E} {x y : Expr} {pos : Pos} (hK : X.K = K) (ha : PE X x (uN K P cl XW a)) (hb : PE X y (uN K P cl XW b)) : PE X (.BinOp x .Add y pos) (uE K P cl XW (.cat a b)) := by
  subst hK
  refine PE.weak (pe_op op_catL ha hb) fun σ H Q ⟨Wd, u, ρ, R, p⟩ => ?_
  have p := pO_bind (show pO ((borN a (evE P cl a ρ) ρ).bind fun x => (borN b (evE P cl b ρ) ρ).bind fun y => catD x y) _ _ from p)
  refine ⟨Wd, u, ρ, R, pO_mono p (fun l _ q v H1 c xs s1 e1 e2 e3 => ⟨Wd, u, ρ, R.same s1, pO_mono (pO_bind q) (fun m _ q2 w H2 d ys s2 f1 f2 f3 => ?_) fun c z => bad_same s1 c z⟩) fun _ z => z⟩
  have q2 : pO (if lenOk (l.length + m.length) = true then Out.ok (W.nl (l ++ m)) else .stuck) _ _ := q2
  by_cases hl : lenOk (l.length + m.length) = true
  · rw [if_pos hl] at q2
    have l1 := deall_len e3
    have l2 := deall_len f3
    have l3 := lenOk_le hl
    exact ⟨c, d, xs, ys, e1, f1, sq_same s2 e2, f2, by omega, fun p hp => q2 _ _ ((s1.trans s2).trans (same_new hp)) ((newL hp (deall_app (DeAll.same (msk_ext s2) _ _ e3) f3)).back (s1.trans s2))⟩
  · rw [if_neg hl] at q2; exact q2.elim
theorem e_repl {a b : E} {x y : Expr} {pos : Pos} (ha : PE X x (uE K P cl XW a)) (hb : PE X y (uB K P cl XW b)) : PE X (.BinOp x .Mult y pos) (uE K P cl XW (.repl a b)) := by
  refine PE.weak (pe_op op_rep ha hb) fun σ H Q ⟨Wd, u, ρ, R, p⟩ => ?_
  have p := pO_bind (show pO ((evE P cl a ρ).bind fun w => (bor b (evE P cl b ρ) ρ).bind fun y => replD w y) _ _ from p)
  refine ⟨Wd, u, ρ, R, pO_mono p (fun w _ q v H1 s1 h1 => ⟨Wd, u, ρ, R.same s1, pO_mono (pO_bind q) (fun e _ q2 w' H2 s2 h2 => ?_) fun c z => bad_same s1 c z⟩) fun _ z => z⟩
  cases w with
  | nl l =>
    cases e with
    | int n =>
      have q2 : pO (if (decide (n.natAbs < 1000000) && lenOk (l.length * n.toNat)) = true then Out.ok (W.nl (List.replicate n.toNat l).flatten) else .stuck) _ _ := q2
      split at q2
      · rename_i hn
        rw [Bool.and_eq_true] at hn
        have n1 := of_decide_eq_true hn.1
        have n2 := lenOk_le hn.2
        obtain ⟨c, xs, rfl, c1, c2, c3⟩ := h1
        have hl := deall_len c3
        have c3' : DeAll K (msk (Mk Wd u) H2) xs l := DeAll.same ((msk_ext s2).trans (msk_less fun b z => .inl z)) _ _ c3
        have rep : ∀ m : Nat, DeAll K (msk (Mk Wd u) H2) (List.replicate m xs).flatten (List.replicate m l).flatten := fun m => by
          induction m with
          | zero => exact .nil
          | succ m ih => rw [List.replicate_succ, List.replicate_succ, List.flatten_cons, List.flatten_cons]; exact deall_app c3' ih
        refine ⟨c, n, xs, rfl, h2.int, s2 _ _ c2, by omega, by omega, by rw [hl]; exact n2, fun r hr => q2 _ _ ((s1.trans s2).trans (same_new hr)) ((newL hr (rep _)).back (s1.trans s2))⟩
      · exact q2.elim
    | _ => exact q2.elim
  | _ => exact q2.elim
end
end Ev
namespace Ev
open PySem PySem.Spec
open PyProof.Rows L2
def noU : Nat → Option Addr := fun _ => none
def RW (K : PySem.W.Frag) (Wd : Msk) (u : Nat → Option Addr) (H H' : Hp) (r : W) (v : V) : Prop :=
  match r with
  | .sh d => De K (msk Wd H') v d
  | .nl l => ∃ a xs, v = .ref a ∧ ((∃ j, u j = some a) ∨ H a = none) ∧ H' a = some (.lst xs) ∧ DeAll K (msk (addM Wd a) H') xs l
  | .nd kvs => ∃ a kv, v = .ref a ∧ ((∃ j, u j = some a) ∨ H a = none) ∧ H' a = some (DX a kv) ∧ KvD K (msk (addM Wd a) H') kv kvs
section
variable (K : PySem.W.Frag) (XW : Nat → L2.St → Hp → Prop)
def pS (r : Res) (D : Ends) (Wd : Msk) (u : Nat → Option Addr) (H : Hp) : Prop := match r with
  | .nx ρ' => ∀ u' σ' H', Rep K Wd u' ρ' σ' H' → Tr u H u' H' → D.nx σ' H'
  | .brk ρ' => ∀ u' σ' H', Rep K Wd u' ρ' σ' H' → Tr u H u' H' → D.bk σ' H'
  | .cnt ρ' => ∀ u' σ' H', Rep K Wd u' ρ' σ' H' → Tr u H u' H' → D.ct σ' H'
  | .ret r => ∀ v H', Tr u H noU H' → RW K Wd u H H' r v → D.rt v H'
  | .exc c ρ' => ∀ u' σ' H', Rep K Wd u' ρ' σ' H' → Tr u H u' H' → XW c σ' H'
  | .stuck => False
end
section
variable {K : PySem.W.Frag} {P : Prg} {cl : Nat → List PyData → Out W} {XW : Nat → L2.St → Hp → Prop} {X : Cx} {fu : Nat}
theorem RW.back {Wd : Msk} {u u1 : Nat → Option Addr} {H H1 H' : Hp} {r : W} {v : V} (t : Tr u H u1 H1) (h : RW K Wd u1 H1 H' r v) : RW K Wd u H H' r v := by
  have old : ∀ a, ((∃ j, u1 j = some a) ∨ H1 a = none) → ((∃ j, u j = some a) ∨ H a = none) := fun a z => by
    rcases z with ⟨j, z⟩ | z
    · exact t.new j a z
    · by_cases q : H a = none
      · exact .inr q
      · exact absurd z (t.dom a q)
  cases r with
  | sh d => exact h
  | nl l =>
    obtain ⟨a, xs, e, h1, h2, h3⟩ := h
    exact ⟨a, xs, e, old a h1, h2, h3⟩
  | nd l =>
    obtain ⟨a, xs, e, h1, h2, h3⟩ := h
    exact ⟨a, xs, e, old a h1, h2, h3⟩
theorem pS_tr {r : Res} {D : Ends} {Wd : Msk} {u u1 : Nat → Option Addr} {H H1 : Hp} (t : Tr u H u1 H1) (h : pS K XW r D Wd u H) : pS K XW r D Wd u1 H1 := by
  cases r with
  | nx ρ' => exact fun u' σ' H' R t' => h u' σ' H' R (t.trans t')
  | brk ρ' => exact fun u' σ' H' R t' => h u' σ' H' R (t.trans t')
  | cnt ρ' => exact fun u' σ' H' R t' => h u' σ' H' R (t.trans t')
  | ret r => exact fun v H' t' w => h v H' (t.trans t') (w.back t)
  | exc c ρ' => exact fun u' σ' H' R t' => h u' σ' H' R (t.trans t')
  | stuck => exact h
theorem pS_res {α : Type} {o : Out α} {f : α → Res} {D : Ends} {Wd : Msk} {u : Nat → Option Addr} {ρ : Env} {σ : L2.St} {H : Hp} (R : Rep K Wd u ρ σ H) (h : pS K XW (o.res ρ f) D Wd u H) : pO o (fun a => pS K XW (f a) D Wd u H) (bad XW σ H) := by
  cases o with
  | ok a => exact h
  | exc c => exact fun H' s => h u σ H' (R.same s) (Tr.same s)
  | stuck => exact h
def uS (K : PySem.W.Frag) (P : Prg) (cl : Nat → List PyData → Out W) (XW : Nat → L2.St → Hp → Prop) (fu : Nat) (s : S) : TS := fun D σ H => ∃ Wd u ρ, Rep K Wd u ρ σ H ∧ pS K XW (evS P cl fu s ρ) D Wd u H
def uBk (K : PySem.W.Frag) (P : Prg) (cl : Nat → List PyData → Out W) (XW : Nat → L2.St → Hp → Prop) (fu : Nat) (b : B) : TS := fun D σ H => ∃ Wd u ρ, Rep K Wd u ρ σ H ∧ pS K XW (evBk P cl fu b ρ) D Wd u H
theorem PS.weak {st : Stmt} {t t' : TS} (h : PS X st t) (w : ∀ D σ H, t' D σ H → t D σ H) : PS X st t' := ⟨fun pins s σ H D I q => h.run pins s σ H D I (w D σ H q)⟩
theorem PSs.weak {st : List Stmt} {t t' : TS} (h : PSs X st t) (w : ∀ D σ H, t' D σ H → t D σ H) : PSs X st t' := ⟨fun pins s σ H D I q => h.run pins s σ H D I (w D σ H q)⟩
theorem b_nil' : PSs X [] (uBk K P cl XW fu .nil) := PSs.weak pss_nil fun D σ H ⟨Wd, u, ρ, R, p⟩ => p u σ H R (Tr.refl u H)
theorem b_cons' {s : S} {b : B} {st : Stmt} {rest : List Stmt} (h1 : PS X st (uS K P cl XW fu s)) (h2 : PSs X rest (uBk K P cl XW fu b)) : PSs X (st :: rest) (uBk K P cl XW fu (.cons s b)) := by
  refine PSs.weak (pss_cons h1 h2) fun D σ H ⟨Wd, u, ρ, R, p⟩ => ⟨Wd, u, ρ, R, ?_⟩
  have p : pS K XW (match evS P cl fu s ρ with | .nx ρ' => evBk P cl fu b ρ' | r => r) D Wd u H := p
  cases e : evS P cl fu s ρ with
  | nx ρ' =>
    rw [e] at p
    exact fun u' σ' H' R' t => ⟨Wd, u', ρ', R', pS_tr t p⟩
  | brk ρ' => rw [e] at p; exact p
  | cnt ρ' => rw [e] at p; exact p
  | ret r => rw [e] at p; exact p
  | exc c ρ' => rw [e] at p; exact p
  | stuck => rw [e] at p; exact p
theorem b_pub {i : Nat} {b : B} {st : List Stmt} (h : PSs X st (uBk K P cl XW fu b)) : PSs X st (uBk K P cl XW fu (.pub i b)) := by
  refine PSs.weak h fun D σ H ⟨Wd, u, ρ, R, p⟩ => ?_
  obtain ⟨u', R', less⟩ := R.pub i
  exact ⟨Wd, u', pubE ρ i, R', pS_tr ⟨fun b o n e => e, fun b h => h, fun j b h => .inl ⟨j, less j b h⟩⟩ (show pS K XW (evBk P cl fu b (pubE ρ i)) D Wd u H from p)⟩
theorem set_ok {Wd : Msk} {u : Nat → Option Addr} {ρ : Env} {σ : L2.St} {H H1 : Hp} {i : Nat} {r : W} {v : V} {D : Ends} (R : Rep K Wd u ρ σ H) (s1 : Same H H1) (h : DWr K (Mk Wd u) H H1 r v) (q : pS K XW (setR ρ i r) D Wd u H) : gName i v σ H1 D.nx := by
  unfold setR at q
  by_cases hi : i < ρ.length
  · rw [if_pos hi] at q
    show D.nx (σ.set i (some v)) H1
    cases r with
    | sh d => exact q u _ H1 ((R.same s1).setSh h) (Tr.same s1)
    | nl l =>
      obtain ⟨a, xs, rfl, h1, h2, h3⟩ := h
      refine q _ _ H1 (R.setNl s1 h1 h2 h3) ⟨fun b o n e => s1 b o e, fun b z => ne_same s1 z, fun j b z => ?_⟩
      by_cases hj : j = i
      · subst hj; rw [upN_same] at z; cases z; exact .inr h1
      · rw [upN_ne hj] at z; exact .inl ⟨j, z⟩
    | nd l =>
      obtain ⟨a, xs, rfl, h1, h2, h3⟩ := h
      refine q _ _ H1 (R.setNd s1 h1 h2 h3) ⟨fun b o n e => s1 b o e, fun b z => ne_same s1 z, fun j b z => ?_⟩
      by_cases hj : j = i
      · subst hj; rw [upN_same] at z; cases z; exact .inr h1
      · rw [upN_ne hj] at z; exact .inl ⟨j, z⟩
  · rw [if_neg hi] at q; exact q.elim
theorem s_asg {i : Nat} {e : E} {st : Stmt} {te : TE} (h : PS X st (tAsg te (gName i))) (w : ∀ σ H Q, uE K P cl XW e σ H Q → te σ H Q) : PS X st (uS K P cl XW fu (.asg i e)) := by
  refine PS.weak h fun D σ H ⟨Wd, u, ρ, R, p⟩ => w σ H _ ⟨Wd, u, ρ, R, ?_⟩
  exact pO_mono (pS_res R (show pS K XW ((evE P cl e ρ).res ρ fun w => setR ρ i w) D Wd u H from p)) (fun r _ q v H1 s1 h1 => set_ok R s1 h1 q) fun _ z => z
theorem s_tasg {is : List Nat} {e : E} {st : Stmt} {ex : Expr} (h : PS X st (tAsg (uQ K P cl XW true e) (gT K (.tp is)))) (hn : noD (.tuple []) = true) : PS X st (uS K P cl XW fu (.tasg is e)) := by
  refine PS.weak h fun D σ H ⟨Wd, u, ρ, R, p⟩ => ⟨Wd, u, ρ, R, .inl rfl, ?_⟩
  refine pO_mono (pS_res R (show pS K XW ((bor e (evE P cl e ρ) ρ).res ρ fun d => match bindTg (.tp is) d ρ with | some ρ' => .nx ρ' | none => .stuck) D Wd u H from p)) (fun d _ q v H1 s1 h1 => ?_) fun _ z => z
  cases eb : bindTg (.tp is) d ρ with
  | none => rw [eb] at q; exact q.elim
  | some ρ' =>
    rw [eb] at q
    cases d with
    | tuple l =>
      have hd : De K (msk (Mk Wd u) H1) v (.tuple l) := by
        rcases (show DB K (Mk Wd u) H1 v (.tuple l) from h1) with h | ⟨a, xs, l', _, e2, _⟩ | ⟨a, xs, l', _, e2, _⟩
        · exact h
        · cases e2
        · cases e2
      exact gT_ok (vs := is) (fun _ h => h) (R.same s1) hd eb fun σ' R' _ => q u σ' H1 R' (Tr.same s1)
    | _ => cases eb
theorem s_par {i j : Nat} {a b : E} {st : Stmt} {xs : List Expr} (h : PS X st (tPar i j (uA K P cl XW (.cons a (.cons b .nil))))) : PS X st (uS K P cl XW fu (.par i j a b)) := by
  refine PS.weak h fun D σ H ⟨Wd, u, ρ, R, p⟩ => ⟨Wd, u, ρ, R, ?_⟩
  have p : pS K XW ((evE P cl a ρ).res ρ fun w => w.share.res ρ fun d => (evE P cl b ρ).res ρ fun w' => w'.share.res ρ fun d' =>
      if i < ρ.length ∧ j < ρ.length then .nx ((ρ.set i (some (.sh d))).set j (some (.sh d'))) else .stuck) D Wd u H := p
  show pO ((evE P cl a ρ).bind fun w => w.share.bind fun d => ((evE P cl b ρ).bind fun w' => w'.share.bind fun d' => .ok [d']).bind fun ds => .ok (d :: ds)) _ _
  cases ea : evE P cl a ρ with
  | stuck => rw [ea] at p; exact p.elim
  | exc c => rw [ea] at p; exact fun H' s => p u σ H' (R.same s) (Tr.same s)
  | ok w =>
    rw [ea] at p
    have p : pS K XW (w.share.res ρ fun d => (evE P cl b ρ).res ρ fun w' => w'.share.res ρ fun d' =>
      if i < ρ.length ∧ j < ρ.length then .nx ((ρ.set i (some (.sh d))).set j (some (.sh d'))) else .stuck) D Wd u H := p
    show pO (w.share.bind fun d => ((evE P cl b ρ).bind fun w' => w'.share.bind fun d' => .ok [d']).bind fun ds => .ok (d :: ds)) _ _
    cases es : w.share with
    | stuck => rw [es] at p; exact p.elim
    | exc c => exact absurd es (noX_share w c)
    | ok d =>
      rw [es] at p
      have p : pS K XW ((evE P cl b ρ).res ρ fun w' => w'.share.res ρ fun d' =>
        if i < ρ.length ∧ j < ρ.length then .nx ((ρ.set i (some (.sh d))).set j (some (.sh d'))) else .stuck) D Wd u H := p
      show pO (((evE P cl b ρ).bind fun w' => w'.share.bind fun d' => .ok [d']).bind fun ds => .ok (d :: ds)) _ _
      cases eb : evE P cl b ρ with
      | stuck => rw [eb] at p; exact p.elim
      | exc c => rw [eb] at p; exact fun H' s => p u σ H' (R.same s) (Tr.same s)
      | ok w' =>
        rw [eb] at p
        have p : pS K XW (w'.share.res ρ fun d' => if i < ρ.length ∧ j < ρ.length then .nx ((ρ.set i (some (.sh d))).set j (some (.sh d'))) else .stuck) D Wd u H := p
        show pO ((w'.share.bind fun d' => .ok [d']).bind fun ds => .ok (d :: ds)) _ _
        cases es' : w'.share with
        | stuck => rw [es'] at p; exact p.elim
        | exc c => exact absurd es' (noX_share w' c)
        | ok d' =>
          rw [es'] at p
          have p : pS K XW (if i < ρ.length ∧ j < ρ.length then .nx ((ρ.set i (some (.sh d))).set j (some (.sh d'))) else .stuck) D Wd u H := p
          intro vs H1 s1 hd
          by_cases hi : i < ρ.length ∧ j < ρ.length
          · rw [if_pos hi] at p
            cases hd with
            | cons h1 h2 =>
              cases h2 with
              | cons h2 h3 =>
                cases h3
                exact ⟨_, _, rfl, p u _ H1 (((R.same s1).setSh h1).setSh h2) (Tr.same s1)⟩
          · rw [if_neg hi] at p; exact p.elim
theorem noX_aug (o : BOp) (x y : PyData) : NoX (augD o x y) := by
  intro c h
  unfold augD at h
  split at h
  · exact noX_op o _ _ c h
  · exact noX_op o _ _ c h
  · cases h
theorem s_aug {i : Nat} {o : BOp} {e : E} {st : Stmt} {t : TIp} (h : PS X st (tAug i (uB K P cl XW e) t)) (ht : ∀ M d d' x y H Q, (∀ a, M a → H a ≠ none) → DB K M H x d → DB K M H y d' → Post K M H (augD o d d') Q → t x y H Q) : PS X st (uS K P cl XW fu (.aug i o e)) := by
  refine PS.weak h fun D σ H ⟨Wd, u, ρ, R, p⟩ => ?_
  have p : pS K XW ((slotS ρ i).res ρ fun x => (bor e (evE P cl e ρ) ρ).res ρ fun y => (augD o x y).res ρ fun w => setR ρ i w) D Wd u H := p
  unfold slotS at p
  cases er : ρ[i]? with
  | none => rw [er] at p; exact p.elim
  | some q =>
    cases q with
    | none => rw [er] at p; exact p.elim
    | some r =>
      rw [er] at p
      obtain ⟨v, h1, h2⟩ := R.slot i r er
      have p : pS K XW (r.view.res ρ fun x => (bor e (evE P cl e ρ) ρ).res ρ fun y => (augD o x y).res ρ fun w => setR ρ i w) D Wd u H := p
      cases es : r.view with
      | exc c => cases r <;> cases es
      | stuck => rw [es] at p; exact p.elim
      | ok d =>
        rw [es] at p
        have hd : DB K (Mk Wd u) H v d := by
          cases r with
          | sh x => cases es; exact .inl h2
          | nl l =>
            cases es
            obtain ⟨a, xs, _, hv, ha, hd⟩ := h2
            exact .inr (.inl ⟨a, xs, l, hv, rfl, .inl (.inl ha), hd⟩)
          | nd l =>
            cases es
            obtain ⟨a, xs, _, hv, ha, hd⟩ := h2
            exact .inr (.inr ⟨a, xs, l, hv, rfl, ha, hd⟩)
        have p := pS_res R (show pS K XW ((bor e (evE P cl e ρ) ρ).res ρ fun y => (augD o d y).res ρ fun w => setR ρ i w) D Wd u H from p)
        refine ⟨v, h1, Wd, u, ρ, R, pO_mono p (fun d' _ q w H1 s1 h1 => ?_) fun _ z => z⟩
        refine ht (Mk Wd u) d d' v w H1 _ (fun m hm => ne_same s1 (R.mdom m hm)) (hd.same s1) h1 ?_
        have fin : ∀ {o' : Out W}, NoX o' → pS K XW (o'.res ρ fun w => setR ρ i w) D Wd u H → Post K (Mk Wd u) H1 o' (fun z H2 => D.nx (σ.set i (some z)) H2) := fun {o'} n q => by
          cases o' with
          | ok r => exact fun v' H' s' h' => set_ok R (s1.trans s') (h'.back s1) q
          | exc c => exact absurd rfl (n c)
          | stuck => exact q.elim
        exact fin (noX_aug o d d') q
theorem ip_ok {o : BOp} {op : Operator} (ho : (o = .add ∧ op = .Add) ∨ (o = .sub ∧ op = .Sub) ∨ (o = .mul ∧ op = .Mult)) :
    PIp X op (fun x y H Q => ∃ M d d', (∀ a, M a → H a ≠ none) ∧ DB K M H x d ∧ DB K M H y d' ∧ Post K M H (augD o d d') Q) := by
  intro pins s σ H x y v u Q I r1 r2 h
  obtain ⟨M, d, d', hM, hd, hd', post⟩ := h
  cases d with
  | int a =>
    cases d' with
    | int b =>
      obtain rfl := hd.int
      obtain rfl := hd'.int
      obtain ⟨t, rfl⟩ := r1
      obtain ⟨t', rfl⟩ := r2
      rcases ho with ⟨rfl, rfl⟩ | ⟨rfl, rfl⟩ | ⟨rfl, rfl⟩
      · exact wpAny_iadd_int ⟨.int _, H, I.tok _, ⟨_, rfl⟩, Post.int post⟩
      · exact PyProof.Rows.isub_int ⟨.int _, H, I.tok _, ⟨_, rfl⟩, Post.int post⟩
      · obtain ⟨hl, post⟩ := post_if post rfl
        refine PyProof.Rows.imul_int ⟨.int _, H, I.tok _, ⟨_, rfl⟩, Post.int post⟩ ?_
        unfold mulOk at hl
        rw [Bool.or_eq_true, Bool.or_eq_true] at hl
        rcases hl with (h | h) | h
        · have := of_decide_eq_true h
          exact .of_left (intBits_le_64 (by omega) (by omega))
        · have := of_decide_eq_true h
          exact .of_right (intBits_le_64 (by omega) (by omega))
        · have h2 : a.natAbs.log2 + b.natAbs.log2 < 1000000 := of_decide_eq_true h
          exact CMulW.ok h2
    | _ => exact post.elim
  | str a =>
    cases d' with
    | str b =>
      obtain rfl := hd.str
      obtain rfl := hd'.str
      obtain ⟨t, rfl⟩ := r1
      obtain ⟨t', rfl⟩ := r2
      rcases ho with ⟨rfl, rfl⟩ | ⟨rfl, rfl⟩ | ⟨rfl, rfl⟩
      · obtain ⟨hl, post⟩ := post_if post rfl
        exact PyProof.Rows.iadd_str (fun t' tk => ⟨.str _, H, I.tok _, ⟨_, rfl⟩, Post.str post⟩) (lenOk_le hl)
      · exact post.elim
      · exact post.elim
    | _ => exact post.elim
  | _ => cases d' <;> exact post.elim
theorem s_ifs {c : T} {a b : B} {x : Expr} {sa sb : List Stmt} {pos : Pos} (hc : PT X x (uT K P cl XW c)) (ha : PSs X sa (uBk K P cl XW fu a)) (hb : PSs X sb (uBk K P cl XW fu b)) : PS X (.If x sa sb pos) (uS K P cl XW fu (.ifs c a b)) := by
  refine PS.weak (ps_if hc ha hb) fun D σ H ⟨Wd, u, ρ, R, p⟩ => ⟨Wd, u, ρ, R, ?_⟩
  refine pO_mono (pS_res R (show pS K XW ((evT P cl c ρ).res ρ fun t => if t then evBk P cl fu a ρ else evBk P cl fu b ρ) D Wd u H from p)) (fun k _ q H1 s1 => ?_) fun _ z => z
  cases k with
  | true =>
    rw [if_pos rfl]
    exact ⟨Wd, u, ρ, R.same s1, pS_tr (Tr.same s1) (show pS K XW (evBk P cl fu a ρ) D Wd u H from q)⟩
  | false =>
    rw [if_neg Bool.false_ne_true]
    exact ⟨Wd, u, ρ, R.same s1, pS_tr (Tr.same s1) (show pS K XW (evBk P cl fu b ρ) D Wd u H from q)⟩
theorem s_ret {e : E} {ex : Expr} {pos : Pos} (hv : ∀ i, e = .var i → PE X ex (tVar i)) (h : PE X ex (uE K P cl XW e)) : PS X (.Return (some ex) pos) (uS K P cl XW fu (.ret e)) := by
  have out : ∀ {Wd : Msk} {u : Nat → Option Addr} {H H1 : Hp} {r : W} {v : V}, DWr K (Mk Wd u) H H1 r v → RW K Wd u H H1 r v := fun {Wd u H H1 r v} h => by
    cases r with
    | sh d => exact De.same (msk_less fun b z => .inl z) _ _ h
    | nl l =>
      obtain ⟨a, xs, e, h1, h2, h3⟩ := h
      exact ⟨a, xs, e, .inr h1, h2, DeAll.same (msk_less fun b z => z.imp .inl id) _ _ h3⟩
    | nd l =>
      obtain ⟨a, xs, e, h1, h2, h3⟩ := h
      exact ⟨a, xs, e, .inr h1, h2, h3.same (msk_less fun b z => z.imp .inl id)⟩
  have trE : ∀ {u : Nat → Option Addr} {H H1 : Hp}, Same H H1 → Tr u H noU H1 := fun {u H H1} s => ⟨fun b o _ z => s b o z, fun b z => ne_same s z, fun j b z => by cases z⟩
  by_cases hx : ∃ i, e = .var i
  · obtain ⟨i, rfl⟩ := hx
    refine PS.weak (ps_ret (hv i rfl)) fun D σ H ⟨Wd, u, ρ, R, p⟩ => ?_
    have p : pS K XW ((match ρ[i]? with | some (some w) => (Out.ok w : Out W) | _ => .stuck).res ρ fun w => .ret w) D Wd u H := p
    cases er : ρ[i]? with
    | none => rw [er] at p; exact p.elim
    | some q =>
      cases q with
      | none => rw [er] at p; exact p.elim
      | some r =>
        rw [er] at p
        obtain ⟨v, h1, h2⟩ := R.slot i r er
        refine ⟨v, h1, p v H (trE (Same.refl H)) ?_⟩
        cases r with
        | sh d => exact De.same (msk_less fun b z => .inl z) _ _ h2
        | nl l =>
          obtain ⟨a, xs, q1, q2, q3, q4⟩ := h2
          exact ⟨a, xs, q2, .inl ⟨i, q1⟩, q3, DeAll.same (msk_less fun b z => z.elim .inl fun y => .inr ⟨i, by rw [y]; exact q1⟩) _ _ q4⟩
        | nd l =>
          obtain ⟨a, xs, q1, q2, q3, q4⟩ := h2
          exact ⟨a, xs, q2, .inl ⟨i, q1⟩, q3, q4.same (msk_less fun b z => z.elim .inl fun y => .inr ⟨i, by rw [y]; exact q1⟩)⟩
  · refine PS.weak (ps_ret h) fun D σ H ⟨Wd, u, ρ, R, p⟩ => ⟨Wd, u, ρ, R, ?_⟩
    have er : retE e (evE P cl e ρ) ρ = evE P cl e ρ := by
      cases e <;> first | rfl | exact absurd ⟨_, rfl⟩ hx
    have p : pS K XW ((retE e (evE P cl e ρ) ρ).res ρ fun w => .ret w) D Wd u H := p
    rw [er] at p
    exact pO_mono (pS_res R p) (fun r _ q v H1 s1 h1 => q v H1 (trE s1) (out h1)) fun _ z => z
theorem s_retN {pos : Pos} : PS X (.Return none pos) (uS K P cl XW fu .retN) := PS.weak ps_retN fun D σ H ⟨Wd, u, ρ, R, p⟩ => p .non H ⟨fun b o _ z => z, fun b z => z, fun j b z => by cases z⟩ .non
theorem s_ex {e : E} {ex : Expr} {pos : Pos} (hs : swapsWith ex none pos.line X.env = pure false) (h : PE X ex (uB K P cl XW e)) : PS X (.Expr ex pos) (uS K P cl XW fu (.ex e)) := by
  refine PS.weak (ps_expr h hs) fun D σ H ⟨Wd, u, ρ, R, p⟩ => ⟨Wd, u, ρ, R, ?_⟩
  exact pO_mono (pS_res R (show pS K XW ((bor e (evE P cl e ρ) ρ).res ρ fun _ => .nx ρ) D Wd u H from p)) (fun d _ q v H1 s1 h1 => q u σ H1 (R.same s1) (Tr.same s1)) fun _ z => z
theorem s_brk {pos : Pos} : PS X (.Break pos) (uS K P cl XW fu .brk) := PS.weak ps_break fun D σ H ⟨Wd, u, ρ, R, p⟩ => p u σ H R (Tr.refl u H)
theorem s_cnt {pos : Pos} : PS X (.Continue pos) (uS K P cl XW fu .cnt) := PS.weak ps_continue fun D σ H ⟨Wd, u, ρ, R, p⟩ => p u σ H R (Tr.refl u H)
theorem s_pass {pos : Pos} : PS X (.Pass pos) (uS K P cl XW fu .pass) := PS.weak ps_pass fun D σ H ⟨Wd, u, ρ, R, p⟩ => p u σ H R (Tr.refl u H)
theorem s_never {st : Stmt} : PS X st (uS K P cl XW fu .never) := PS.weak ps_never fun D σ H ⟨Wd, u, ρ, R, p⟩ => p
end
end Ev
namespace Ev
open PySem PySem.Spec
open PyProof.Rows L2
section
variable {K : PySem.W.Frag} {P : Prg} {cl : Nat → List PyData → Out W} {XW : Nat → L2.St → Hp → Prop} {X : Cx} {fu : Nat}
theorem Tr.stb {u u' : Nat → Option Addr} {Wd : Msk} {H H' : Hp} (t : Tr u H u' H') (R : ∀ m, Mk Wd u' m → H' m ≠ none) : Stb false (Mk Wd u) H (Mk Wd u') H' := by
  refine ⟨R, fun b o n e => ⟨fun z => ?_, t.keep b o (fun j z => n (.inr ⟨j, z⟩)) e⟩, fun z => by cases z⟩
  rcases z with z | ⟨j, z⟩
  · exact n (.inl z)
  · rcases t.new j b z with ⟨i, q⟩ | q
    · exact n (.inr ⟨i, q⟩)
    · rw [e] at q; cases q
theorem s_for {tg : Tg} {src : Src} {b : B} {tx it : Expr} {sb : List Stmt} {pos : Pos} (hp : PassesOwn (model X.prog X.w) X.A X.env X.xe) (hc : X.calm = true) (hi : PI X tx it (uI K P cl XW false src)) (hg : PG X tx (gT K tg)) (hb : PSs X sb (uBk K P cl XW fu b))
    (hs : ∀ x, foldedSetIterable it X.env x = pure x) : PS X (.For tx it sb [] pos) (uS K P cl XW fu (.for tg src b)) := by
  refine PS.weak (ps_for hp hc hi hg hb hs) fun D σ H ⟨Wd, u, ρ, R, p⟩ => ?_
  generalize hf : (fun x ρ' => match bindTg tg x ρ' with | some ρ2 => evBk P cl fu b ρ2 | none => .stuck) = f
  have p : pS K XW (if srcSh src ρ then (evI P cl src ρ).res ρ fun items => forLoop (fun x ρ' => match bindTg tg x ρ' with | some ρ2 => evBk P cl fu b ρ2 | none => .stuck) items ρ else .stuck) D Wd u H := p
  rw [hf] at p
  by_cases hsh : srcSh src ρ = true
  · rw [if_pos hsh] at p
    refine ⟨Wd, u, ρ, R, .inr hsh, pO_mono (pS_res R p) (fun items _ q J H1 s1 w => ?_) fun _ z => z⟩
    obtain ⟨G, Y, w, hG, hY⟩ := w
    refine for_it w (fun i σ' H' => ∃ u' ρ', Rep K Wd u' ρ' σ' H' ∧ Tr u H1 u' H' ∧ pS K XW (forLoop f (items.drop i) ρ') D Wd u' H') ⟨u, ρ, R.same s1, Tr.refl u H1, by rw [List.drop_zero]; exact pS_tr (Tr.same s1) q⟩
      (fun i σ' H' _ ⟨u', ρ', R', t', _⟩ => hG _ _ (t'.stb R'.mdom)) (fun i x σ' H' H'' hlt ⟨u', ρ', R', t', q'⟩ y => ?_) fun σ' H' ⟨u', ρ', R', t', q'⟩ => ?_
    · have hdi : items[i]? = some items[i] := List.getElem?_eq_getElem hlt
      obtain ⟨sy, hx⟩ := hY i x H' H'' _ _ hdi (t'.stb R'.mdom) y
      rw [List.drop_eq_getElem_cons hlt] at q'
      have q' : pS K XW (match f items[i] ρ' with
        | .nx ρ' => forLoop f (items.drop (i + 1)) ρ'
        | .cnt ρ' => forLoop f (items.drop (i + 1)) ρ'
        | .brk ρ' => .nx ρ'
        | r => r) D Wd u' H' := q'
      cases eb : bindTg tg items[i] ρ' with
      | none =>
        have : f items[i] ρ' = .stuck := by rw [← hf]; simp only [eb]
        rw [this] at q'; exact q'.elim
      | some ρ2 =>
        have ef : f items[i] ρ' = evBk P cl fu b ρ2 := by rw [← hf]; simp only [eb]
        rw [ef] at q'
        refine gT_ok (vs := tg.ixs) (fun _ h => h) (R'.same sy) hx eb fun σ2 R2 _ => ⟨Wd, u', ρ2, R2, ?_⟩
        have t2 : Tr u H1 u' H'' := t'.trans (Tr.same sy)
        cases er : evBk P cl fu b ρ2 with
        | nx ρ3 => rw [er] at q'; exact fun u3 σ3 H3 R3 t3 => ⟨u3, ρ3, R3, t2.trans t3, pS_tr ((Tr.same sy).trans t3) q'⟩
        | cnt ρ3 => rw [er] at q'; exact fun u3 σ3 H3 R3 t3 => ⟨u3, ρ3, R3, t2.trans t3, pS_tr ((Tr.same sy).trans t3) q'⟩
        | brk ρ3 => rw [er] at q'; exact fun u3 σ3 H3 R3 t3 => q' u3 σ3 H3 R3 ((Tr.same sy).trans t3)
        | ret r => rw [er] at q'; exact fun v H3 t3 w => q' v H3 ((Tr.same sy).trans t3) (w.back (Tr.same sy))
        | exc c ρ3 => rw [er] at q'; exact fun u3 σ3 H3 R3 t3 => q' u3 σ3 H3 R3 ((Tr.same sy).trans t3)
        | stuck => rw [er] at q'; exact q'.elim
    · rw [List.drop_length] at q'
      exact q' u' σ' H' R' (Tr.refl u' H')
  · rw [if_neg hsh] at p; exact p.elim
theorem s_whl {c : T} {b : B} {x : Expr} {sb : List Stmt} {pos : Pos} (hp : PassesOwn (model X.prog X.w) X.A X.env X.xe) (hc : PT X x (uT K P cl XW c)) (hb : PSs X sb (uBk K P cl XW fu b)) : PS X (.While x sb [] pos) (uS K P cl XW fu (.whl c b)) := by
  refine PS.weak (ps_while hp hc hb) fun D σ H ⟨Wd, u, ρ, R, p⟩ => ?_
  have p : pS K XW (whlLoop (evT P cl c) (evBk P cl fu b) fu ρ) D Wd u H := p
  refine ⟨fun m σ' H' => ∃ u' ρ', Rep K Wd u' ρ' σ' H' ∧ pS K XW (whlLoop (evT P cl c) (evBk P cl fu b) m ρ') D Wd u' H', ⟨fu, u, ρ, R, p⟩, fun m σ' H' ⟨u', ρ', R', q⟩ => ?_⟩
  cases m with
  | zero => exact q.elim
  | succ n =>
    have q : pS K XW (match evT P cl c ρ' with
      | .ok true => (match evBk P cl fu b ρ' with
        | .nx ρ' => whlLoop (evT P cl c) (evBk P cl fu b) n ρ'
        | .cnt ρ' => whlLoop (evT P cl c) (evBk P cl fu b) n ρ'
        | .brk ρ' => .nx ρ'
        | r => r)
      | .ok false => .nx ρ'
      | .exc x => .exc x ρ'
      | .stuck => .stuck) D Wd u' H' := q
    refine ⟨Wd, u', ρ', R', ?_⟩
    cases ec : evT P cl c ρ' with
    | stuck => rw [ec] at q; exact q.elim
    | exc c => rw [ec] at q; exact fun H2 s => q u' σ' H2 (R'.same s) (Tr.same s)
    | ok k =>
      rw [ec] at q
      intro H1 s1
      cases k with
      | false =>
        rw [if_neg Bool.false_ne_true]
        exact q u' σ' H1 (R'.same s1) (Tr.same s1)
      | true =>
        rw [if_pos rfl]
        refine ⟨fun σ2 H2 => ∃ u2 ρ2, Rep K Wd u2 ρ2 σ2 H2 ∧ pS K XW (whlLoop (evT P cl c) (evBk P cl fu b) n ρ2) D Wd u2 H2, fun σ2 H2 z => ⟨n, Nat.lt_succ_self n, z⟩, Wd, u', ρ', R'.same s1, ?_⟩
        have q : pS K XW (match evBk P cl fu b ρ' with
          | .nx ρ' => whlLoop (evT P cl c) (evBk P cl fu b) n ρ'
          | .cnt ρ' => whlLoop (evT P cl c) (evBk P cl fu b) n ρ'
          | .brk ρ' => .nx ρ'
          | r => r) D Wd u' H' := q
        cases er : evBk P cl fu b ρ' with
        | nx ρ3 => rw [er] at q; exact fun u3 σ3 H3 R3 t3 => ⟨u3, ρ3, R3, pS_tr ((Tr.same s1).trans t3) q⟩
        | cnt ρ3 => rw [er] at q; exact fun u3 σ3 H3 R3 t3 => ⟨u3, ρ3, R3, pS_tr ((Tr.same s1).trans t3) q⟩
        | brk ρ3 => rw [er] at q; exact fun u3 σ3 H3 R3 t3 => q u3 σ3 H3 R3 ((Tr.same s1).trans t3)
        | ret r => rw [er] at q; exact fun v H3 t3 w => q v H3 ((Tr.same s1).trans t3) (w.back (Tr.same s1))
        | exc c ρ3 => rw [er] at q; exact fun u3 σ3 H3 R3 t3 => q u3 σ3 H3 R3 ((Tr.same s1).trans t3)
        | stuck => rw [er] at q; exact q.elim
theorem chg_tr {Wd : Msk} {u : Nat → Option Addr} {H : Hp} {i : Nat} {a : Addr} {o : HO} (hu : u i = some a) : Tr u H u (upd H a o) :=
  ⟨fun b o n e => by rw [upd_ne fun z => n i (by rw [hu, z])]; exact e, fun b h => by
    by_cases hb : b = a
    · subst hb; rw [upd_same]; exact fun z => nomatch z
    · rw [upd_ne hb]; exact h, fun j b h => .inl ⟨j, h⟩⟩
theorem s_app {i : Nat} {e : E} {o ex : Expr} {apos pos pos' : Pos} (hK : X.K = K) (ho : PE X o (tVar i)) (h : PE X ex (uE K P cl XW e)) (hs : swapsWith (.Call (.Attribute o "append" apos) [ex] [] pos) none pos'.line X.env = pure false)
    (hst : starEach [ex] X.env = (false, eval ex X.env) :: starEach [] X.env) (hb : attributeBase o "append" X.env (eval o X.env) = eval o X.env) (hl : (apos.endLine == pos.line) = true) :
    PS X (.Expr (.Call (.Attribute o "append" apos) [ex] [] pos) pos') (uS K P cl XW fu (.app i e)) := by
  subst hK
  refine PS.weak (ps_expr (pe_bm PySem.F.plainAttrs_list PySem.F.slot_list_append PySem.F.type_list_append mt_append ho (pa_cons h pa_nil hst) hb (by rw [hst]; rfl) hl hst rfl) hs) fun D σ H ⟨Wd, u, ρ, R, p⟩ => ?_
  have p : pS X.K XW (match ρ[i]? with
    | some (some (.nl l)) => (evE P cl e ρ).res ρ fun w => w.share.res ρ fun d => if lenOk (l.length + 1) then .nx (ρ.set i (some (.nl (l ++ [d])))) else .stuck
    | _ => .stuck) D Wd u H := p
  by_cases hx : ∃ l, ρ[i]? = some (some (.nl l))
  · obtain ⟨l, er⟩ := hx
    rw [er] at p
    obtain ⟨v, h1, a, xs, q1, q2, q3, q4⟩ := R.slot i _ er
    subst q2
    refine ⟨_, h1, .inl ⟨rfl, xs, .inl (.inl q3)⟩, Wd, u, ρ, R, pO_mono (pS_res R p) (fun w _ q v H1 s1 hw => ?_) fun _ z => z⟩
    cases es : w.share with
    | exc c => exact absurd es (noX_share w c)
    | stuck => rw [es] at q; exact q.elim
    | ok d =>
      rw [es] at q
      have hd := hw.share R.mdom es
      have q : pS X.K XW (if lenOk (l.length + 1) then .nx (ρ.set i (some (.nl (l ++ [d])))) else .stuck) D Wd u H := q
      by_cases hl : lenOk (l.length + 1) = true
      · rw [if_pos hl] at q
        have hl2 := lenOk_le hl
        have hl3 := deall_len q4
        have R1 := R.same s1
        exact ⟨a, xs, v, rfl, rfl, s1 _ _ q3, by omega, q u σ _ (R1.chg er q1 (s1 _ _ q3) (deall_app (DeAll.same (msk_ext s1) _ _ q4) (deall_one hd))) ((Tr.same s1).trans (chg_tr (Wd := Wd) q1))⟩
      · rw [if_neg hl] at q; exact q.elim
  · exfalso
    split at p
    · rename_i l er
      exact hx ⟨l, er⟩
    · exact p
theorem s_ins {i k0 : Nat} {e : E} {o ex : Expr} {p0 apos pos pos' : Pos} (hK : X.K = K) (ho : PE X o (tVar i)) (h : PE X ex (uE K P cl XW e)) (hs : swapsWith (.Call (.Attribute o "insert" apos) [.Constant (.int 0) k0 p0, ex] [] pos) none pos'.line X.env = pure false)
    (hst0 : starEach [.Constant (.int 0) k0 p0, ex] X.env = (false, eval (.Constant (.int 0) k0 p0) X.env) :: starEach [ex] X.env) (hst : starEach [ex] X.env = (false, eval ex X.env) :: starEach [] X.env) (hb : attributeBase o "insert" X.env (eval o X.env) = eval o X.env) (hl : (apos.endLine == pos.line) = true) :
    PS X (.Expr (.Call (.Attribute o "insert" apos) [.Constant (.int 0) k0 p0, ex] [] pos) pos') (uS K P cl XW fu (.ins i e)) := by
  subst hK
  refine PS.weak (ps_expr (pe_bm PySem.F.plainAttrs_list PySem.F.slot_list_insert PySem.F.type_list_insert mt_insert ho (pa_cons pe_int (pa_cons h pa_nil hst) hst0) hb (by rw [hst0, hst]; rfl) hl hst0 (by rw [hst]; rfl)) hs) fun D σ H ⟨Wd, u, ρ, R, p⟩ => ?_
  have p : pS X.K XW (match ρ[i]? with
    | some (some (.nl l)) => (evE P cl e ρ).res ρ fun w => w.share.res ρ fun d => if lenOk (l.length + 1) then .nx (ρ.set i (some (.nl (d :: l)))) else .stuck
    | _ => .stuck) D Wd u H := p
  by_cases hx : ∃ l, ρ[i]? = some (some (.nl l))
  · obtain ⟨l, er⟩ := hx
    rw [er] at p
    obtain ⟨v, h1, a, xs, q1, q2, q3, q4⟩ := R.slot i _ er
    subst q2
    refine ⟨_, h1, .inl ⟨rfl, xs, .inl (.inl q3)⟩, Wd, u, ρ, R, pO_mono (pS_res R p) (fun w _ q v H1 s1 hw => ?_) fun _ z => z⟩
    cases es : w.share with
    | exc c => exact absurd es (noX_share w c)
    | stuck => rw [es] at q; exact q.elim
    | ok d =>
      rw [es] at q
      have hd := hw.share R.mdom es
      have q : pS X.K XW (if lenOk (l.length + 1) then .nx (ρ.set i (some (.nl (d :: l)))) else .stuck) D Wd u H := q
      by_cases hl : lenOk (l.length + 1) = true
      · rw [if_pos hl] at q
        have hl2 := lenOk_le hl
        have hl3 := deall_len q4
        have R1 := R.same s1
        refine ⟨a, xs, 0, v, rfl, rfl, s1 _ _ q3, by omega, by decide, by decide, ?_⟩
        exact q u σ _ (R1.chg er q1 (s1 _ _ q3) (.cons hd (DeAll.same (msk_ext s1) _ _ q4))) ((Tr.same s1).trans (chg_tr (Wd := Wd) q1))
      · rw [if_neg hl] at q; exact q.elim
  · exfalso
    split at p
    · rename_i l er
      exact hx ⟨l, er⟩
    · exact p
theorem s_ext {i : Nat} {e : E} {o ex : Expr} {apos pos pos' : Pos} (hK : X.K = K) (ho : PE X o (tVar i)) (h : PE X ex (uE K P cl XW e)) (hs : swapsWith (.Call (.Attribute o "extend" apos) [ex] [] pos) none pos'.line X.env = pure false)
    (hst : starEach [ex] X.env = (false, eval ex X.env) :: starEach [] X.env) (hb : attributeBase o "extend" X.env (eval o X.env) = eval o X.env) (hl : (apos.endLine == pos.line) = true) :
    PS X (.Expr (.Call (.Attribute o "extend" apos) [ex] [] pos) pos') (uS K P cl XW fu (.ext i e)) := by
  subst hK
  refine PS.weak (ps_expr (pe_bm PySem.F.plainAttrs_list PySem.F.slot_list_extend PySem.F.type_list_extend mt_extend ho (pa_cons h pa_nil hst) hb (by rw [hst]; rfl) hl hst rfl) hs) fun D σ H ⟨Wd, u, ρ, R, p⟩ => ?_
  have p : pS X.K XW (match ρ[i]? with
    | some (some (.nl l)) => (evE P cl e ρ).res ρ fun w => match w with
      | .nl m => if lenOk (l.length + m.length) then .nx (ρ.set i (some (.nl (l ++ m)))) else .stuck
      | _ => .stuck
    | _ => .stuck) D Wd u H := p
  by_cases hx : ∃ l, ρ[i]? = some (some (.nl l))
  · obtain ⟨l, er⟩ := hx
    rw [er] at p
    obtain ⟨v, h1, a, xs, q1, q2, q3, q4⟩ := R.slot i _ er
    subst q2
    refine ⟨_, h1, .inl ⟨rfl, xs, .inl (.inl q3)⟩, Wd, u, ρ, R, pO_mono (pS_res R p) (fun w _ q v H1 s1 hw => ?_) fun _ z => z⟩
    cases w with
    | sh d => exact q.elim
    | nd d => exact q.elim
    | nl m =>
      obtain ⟨b, ys, rfl, b1, b2, b3⟩ := hw
      have q : pS X.K XW (if lenOk (l.length + m.length) then .nx (ρ.set i (some (.nl (l ++ m)))) else .stuck) D Wd u H := q
      by_cases hl : lenOk (l.length + m.length) = true
      · rw [if_pos hl] at q
        have hl2 := lenOk_le hl
        have hl3 := deall_len q4
        have hl4 := deall_len b3
        have R1 := R.same s1
        exact ⟨a, b, xs, ys, rfl, rfl, s1 _ _ q3, b2, by omega, q u σ _ (R1.chg er q1 (s1 _ _ q3) (deall_app (DeAll.same (msk_ext s1) _ _ q4) (DeAll.same (msk_less fun b z => .inl z) _ _ b3))) ((Tr.same s1).trans (chg_tr (Wd := Wd) q1))⟩
      · rw [if_neg hl] at q; exact q.elim
  · exfalso
    split at p
    · rename_i l er
      exact hx ⟨l, er⟩
    · exact p
theorem s_sset {i : Nat} {k e : E} {o ix ex : Expr} {p0 pos : Pos} (hK : X.K = K) (ho : PE X o (tVar i)) (hk : PE X ix (uB K P cl XW k)) (h : PE X ex (uE K P cl XW e)) (hs : swapsWithSole [.Subscript o ix p0] ex pos.line X.env = pure false) (hw : swappedStores [.Subscript o ix p0] ex X.env = pure none)
    (ha : ∀ v, assign (.Subscript o ix p0) X.env v = (do
      let ov ← holding [v] (eval o X.env)
      let iv ← holding [v, ov] (eval ix X.env)
      standAt p0
      holding [v, ov, iv] (setItem ov iv v)
      release [v, ov, iv] [])) :
    PS X (.Assign [.Subscript o ix p0] ex pos) (uS K P cl XW fu (.sset i k e)) := by
  subst hK
  refine PS.weak (ps_asg h (pg_sub ho hk set_list ha) hs hw) fun D σ H ⟨Wd, u, ρ, R, p⟩ => ?_
  have p : pS X.K XW (match ρ[i]? with
    | some (some (.nl l)) => (evE P cl e ρ).res ρ fun w => w.share.res ρ fun d => (bor k (evE P cl k ρ) ρ).res ρ fun kd => match kd with
      | .int n => (match ixN l.length n with
        | some j => .nx (ρ.set i (some (.nl (l.set j d))))
        | none => .stuck)
      | _ => .stuck
    | _ => .stuck) D Wd u H := p
  by_cases hx : ∃ l, ρ[i]? = some (some (.nl l))
  · obtain ⟨l, er⟩ := hx
    rw [er] at p
    obtain ⟨v, h1, a, xs, q1, q2, q3, q4⟩ := R.slot i _ er
    subst q2
    refine ⟨Wd, u, ρ, R, pO_mono (pS_res R p) (fun w _ q v H1 s1 hw => ?_) fun _ z => z⟩
    cases es : w.share with
    | exc c => exact absurd es (noX_share w c)
    | stuck => rw [es] at q; exact q.elim
    | ok d =>
      rw [es] at q
      have hd := hw.share R.mdom es
      have q := pS_res R (show pS X.K XW ((bor k (evE P cl k ρ) ρ).res ρ fun kd => match kd with
        | .int n => (match ixN l.length n with
          | some j => .nx (ρ.set i (some (.nl (l.set j d))))
          | none => .stuck)
        | _ => .stuck) D Wd u H from q)
      refine ⟨_, h1, Wd, u, ρ, R.same s1, pO_mono q (fun kd _ q w' H2 s2 hk => ?_) fun c z => bad_same s1 c z⟩
      cases kd with
      | int n =>
        have q : pS X.K XW (match ixN l.length n with
          | some j => .nx (ρ.set i (some (.nl (l.set j d))))
          | none => .stuck) D Wd u H := q
        cases ej : ixN l.length n with
        | none => rw [ej] at q; exact q.elim
        | some j =>
          rw [ej] at q
          have s12 := s1.trans s2
          refine ⟨a, xs, n, j, rfl, hk.int, s12 _ _ q3, by rw [deall_len q4]; exact ej, ?_⟩
          exact q u σ _ ((R.same s12).chg er q1 (s12 _ _ q3) (deall_set (De.same (msk_ext s2) _ _ hd) j (DeAll.same (msk_ext s12) _ _ q4))) ((Tr.same s12).trans (chg_tr (Wd := Wd) q1))
      | _ => exact q.elim
  · exfalso
    split at p
    · rename_i l er
      exact hx ⟨l, er⟩
    · exact p
theorem deall_dropLast {H : Hp} : ∀ {vs : List V} {ds : List PyData}, DeAll K H vs ds → DeAll K H vs.dropLast ds.dropLast
  | _, _, .nil => .nil
  | _, _, .cons _ .nil => .nil
  | _, _, .cons h (.cons h2 t) => .cons h (deall_dropLast (.cons h2 t))
theorem s_pop {i : Nat} {o : Expr} {apos pos pos' : Pos} (hK : X.K = K) (ho : PE X o (tVar i)) (hs : swapsWith (.Call (.Attribute o "pop" apos) [] [] pos) none pos'.line X.env = pure false)
    (hb : attributeBase o "pop" X.env (eval o X.env) = eval o X.env) (hl : (apos.endLine == pos.line) = true) :
    PS X (.Expr (.Call (.Attribute o "pop" apos) [] [] pos) pos') (uS K P cl XW fu (.pop i)) := by
  subst hK
  refine PS.weak (ps_expr (pe_bm0 PySem.F.plainAttrs_list PySem.F.slot_list_pop PySem.F.type_list_pop mt_pop ho hb hl) hs) fun D σ H ⟨Wd, u, ρ, R, p⟩ => ?_
  have p : pS X.K XW (match ρ[i]? with
    | some (some (.nl l)) => if l.length = 0 then .stuck else .nx (ρ.set i (some (.nl l.dropLast)))
    | _ => .stuck) D Wd u H := p
  by_cases hx : ∃ l, ρ[i]? = some (some (.nl l))
  · obtain ⟨l, er⟩ := hx
    rw [er] at p
    obtain ⟨v, h1, a, xs, q1, q2, q3, q4⟩ := R.slot i _ er
    subst q2
    have p : pS X.K XW (if l.length = 0 then .stuck else .nx (ρ.set i (some (.nl l.dropLast)))) D Wd u H := p
    by_cases hl : l.length = 0
    · rw [if_pos hl] at p; exact p.elim
    · rw [if_neg hl] at p
      have hl3 := deall_len q4
      refine ⟨_, h1, .inl ⟨rfl, xs, .inl (.inl q3)⟩, a, xs, xs[xs.length - 1]'(by omega), rfl, rfl, q3, List.getElem?_eq_getElem (by omega), ?_⟩
      exact p u σ _ (R.chg er q1 q3 (deall_dropLast q4)) (chg_tr (Wd := Wd) q1)
  · exfalso
    split at p
    · rename_i l er
      exact hx ⟨l, er⟩
    · exact p
theorem set_one {i : Nat} {k : E} {d : PyData} {v : V} {c : Env → Res} {ρ : Env} {σ : L2.St} {H : Hp} {Wd : Msk} {u : Nat → Option Addr} {D : Ends} {Q : L2.St → Hp → Prop} (R : Rep X.K Wd u ρ σ H) (hd : De X.K (msk (Mk Wd u) H) v d)
    (p : pS X.K XW (setJ ρ i d (bor k (evE P cl k ρ) ρ) c) D Wd u H)
    (hq : ∀ ρ' H', Rep X.K Wd u ρ' σ H' → Same (msk (Mk Wd u) H) (msk (Mk Wd u) H') → pS X.K XW (c ρ') D Wd u H' → Q σ H') : gSub (tVar i) (uB X.K P cl XW k) rSetL v σ H Q := by
  by_cases hx : ∃ l, ρ[i]? = some (some (.nl l))
  · obtain ⟨l, er⟩ := hx
    unfold setJ at p
    rw [er] at p
    obtain ⟨v0, h1, a, xs, q1, q2, q3, q4⟩ := R.slot i _ er
    subst q2
    have q := pS_res R (show pS X.K XW ((bor k (evE P cl k ρ) ρ).res ρ fun kd => match kd with
      | .int n => (match ixN l.length n with
        | some j => c (ρ.set i (some (.nl (l.set j d))))
        | none => .stuck)
      | _ => .stuck) D Wd u H from p)
    refine ⟨_, h1, Wd, u, ρ, R, pO_mono q (fun kd _ q w' H2 s2 hk => ?_) fun c z => z⟩
    cases kd with
    | int n =>
      have q : pS X.K XW (match ixN l.length n with
        | some j => c (ρ.set i (some (.nl (l.set j d))))
        | none => .stuck) D Wd u H := q
      cases ej : ixN l.length n with
      | none => rw [ej] at q; exact q.elim
      | some j =>
        rw [ej] at q
        have tr : Tr u H u (upd H2 a (.lst (xs.set j v))) := (Tr.same s2).trans (chg_tr (Wd := Wd) q1)
        refine ⟨a, xs, n, j, rfl, hk.int, s2 _ _ q3, by rw [deall_len q4]; exact ej, hq _ _ ((R.same s2).chg er q1 (s2 _ _ q3) (deall_set (De.same (msk_ext s2) _ _ hd) j (DeAll.same (msk_ext s2) _ _ q4))) (msk_mono fun b o n e => ⟨n, by rw [upd_ne fun z => n (.inr ⟨i, by rw [q1, z]⟩)]; exact s2 b o e⟩) (pS_tr tr q)⟩
    | _ => exact q.elim
  · exfalso
    unfold setJ at p
    split at p
    · rename_i l er
      exact hx ⟨l, er⟩
    · exact p
theorem s_swp {i : Nat} {k1 k2 e : E} {o1 o2 ix1 ix2 ex : Expr} {p1 p2 p0 pos : Pos} {kk : Nat} (hK : X.K = K) (hc : X.calm = true) (ho1 : PE X o1 (tVar i)) (ho2 : PE X o2 (tVar i)) (hk1 : PE X ix1 (uB K P cl XW k1)) (hk2 : PE X ix2 (uB K P cl XW k2)) (h : PE X ex (uE K P cl XW e))
    (hs : swapsWithSole [.Tuple [.Subscript o1 ix1 p1, .Subscript o2 ix2 p2] kk p0] ex pos.line X.env = pure false) (hw : swappedStores [.Tuple [.Subscript o1 ix1 p1, .Subscript o2 ix2 p2] kk p0] ex X.env = pure none)
    (ha1 : ∀ v, assign (.Subscript o1 ix1 p1) X.env v = (do
      let ov ← holding [v] (eval o1 X.env)
      let iv ← holding [v, ov] (eval ix1 X.env)
      standAt p1
      holding [v, ov, iv] (setItem ov iv v)
      release [v, ov, iv] []))
    (ha2 : ∀ v, assign (.Subscript o2 ix2 p2) X.env v = (do
      let ov ← holding [v] (eval o2 X.env)
      let iv ← holding [v, ov] (eval ix2 X.env)
      standAt p2
      holding [v, ov, iv] (setItem ov iv v)
      release [v, ov, iv] [])) :
    PS X (.Assign [.Tuple [.Subscript o1 ix1 p1, .Subscript o2 ix2 p2] kk p0] ex pos) (uS K P cl XW fu (.swp i k1 k2 e)) := by
  subst hK
  refine PS.weak (ps_asg h (pg_tup hc (pgs_cons (pg_sub ho1 hk1 set_list ha1) (pgs_cons (pg_sub ho2 hk2 set_list ha2) pgs_nil))) hs hw) fun D σ H ⟨Wd, u, ρ, R, p⟩ => ?_
  have p : pS X.K XW ((evE P cl e ρ).res ρ fun w => w.share.res ρ fun d => match d with
    | .tuple [d1, d2] => setJ ρ i d1 (bor k1 (evE P cl k1 ρ) ρ) fun ρ1 => setJ ρ1 i d2 (bor k2 (evE P cl k2 ρ1) ρ1) .nx
    | _ => .stuck) D Wd u H := p
  refine ⟨Wd, u, ρ, R, pO_mono (pS_res R p) (fun w _ q v H1 s1 hw => ?_) fun _ z => z⟩
  cases es : w.share with
  | exc c => exact absurd es (noX_share w c)
  | stuck => rw [es] at q; exact q.elim
  | ok d =>
    rw [es] at q
    have hd := hw.share R.mdom es
    have q : pS X.K XW (match (generalizing := false) d with
      | .tuple [d1, d2] => setJ ρ i d1 (bor k1 (evE P cl k1 ρ) ρ) fun ρ1 => setJ ρ1 i d2 (bor k2 (evE P cl k2 ρ1) ρ1) .nx
      | _ => .stuck) D Wd u H := q
    by_cases ht : ∃ d1 d2, d = .tuple [d1, d2]
    · obtain ⟨d1, d2, rfl⟩ := ht
      have q : pS X.K XW (setJ ρ i d1 (bor k1 (evE P cl k1 ρ) ρ) fun ρ1 => setJ ρ1 i d2 (bor k2 (evE P cl k2 ρ1) ρ1) .nx) D Wd u H := q
      cases hd with
      | tup hq hda =>
        cases hda with
        | cons hd1 hda =>
          cases hda with
          | cons hd2 hda =>
            cases hda
            refine ⟨_, _, rfl, st_same msk_same hq.toT, rfl, _, _, rfl, set_one (R.same s1) hd1 (pS_tr (Tr.same s1) q) fun ρ1 H2 R2 sm q2 => ⟨_, _, rfl, set_one R2 (De.same sm _ _ hd2) q2 fun ρ2 H3 R3 _ q3 => ⟨rfl, q3 u σ H3 R3 (Tr.refl u H3)⟩⟩⟩
    · exfalso
      split at q
      · rename_i d1 d2
        exact ht ⟨_, _, rfl⟩
      · exact q
theorem s_raise {c : Nat} {C : Addr} {ex : Expr} {pos : Pos} (hc : X.calm = true) (tk : Takes X (fun cls d σ H => ∃ c, XIs P X.mg c cls ∧ XW c σ H)) (hx : XIs P X.mg c (.ref C)) (h : PMk X ex (fun _ H Q => Q (.ref C) none H)) : PS X (.Raise (some ex) none pos) (uS K P cl XW fu (.raise c)) := by
  refine PS.weak (ps_raise hc tk h) fun D σ H ⟨Wd, u, ρ, R, p⟩ => ?_
  exact ⟨c, hx, p u σ H R (Tr.refl u H)⟩
theorem s_mut {f k i : Nat} {es : Es} {x : Str} {xs : List Expr} {a : Expr} {A : Addr} {fd : FuncData} {ps : List Str} {p pos pos' : Pos} (hK : X.K = K) (F : FnOk X.prog X.w X.K X.mg X.base (L2.CX X.prog X.w) k A fd ps (spM K P X.mg cl f ps.length)) (hr : Room k X.A) (hg : Gl X x) (hm : X.mg x = some (.ref A)) (hk : PySem.W.keepIn X.K (.ref A) = true)
    (hb : Binds X.K fd ps []) (tk : Takes X (fun cls d σ H => ∃ c, XIs P X.mg c cls ∧ XW c σ H)) (hdb : (x == ("__debug__" : Str)) = false) (hl : es.len + 1 = ps.length) (ho : PE X a (tVar i)) (h : PA X xs (uA K P cl XW es))
    (he : starEach (a :: xs) X.env = (false, eval a X.env) :: starEach xs X.env) (hpl : (backTo pos (starEach xs X.env)).any (·.1) = false) (hs : swapsWith (.Call (.Name x p) (a :: xs) [] pos) none pos'.line X.env = pure false) : PS X (.Expr (.Call (.Name x p) (a :: xs) [] pos) pos') (uS K P cl XW fu (.mutS f i es)) := by
  subst hK
  refine PS.weak (ps_expr (pe_callSD F hr hg hm hk hb .nil (fun σ => passAt tk σ) (pa_cons ho h he) hdb he hpl) hs) fun D σ H ⟨Wd, u, ρ, R, p⟩ => ?_
  have p : pS X.K XW (match ρ[i]? with
    | some (some (.nd kvs)) => (evEs P cl es ρ).res ρ fun ds => (cl f (toD kvs :: ds)).res ρ fun w => (match w with
      | .nd kvs' => .nx (ρ.set i (some (.nd kvs')))
      | _ => .stuck)
    | _ => .stuck) D Wd u H := p
  by_cases hx : ∃ kvs, ρ[i]? = some (some (.nd kvs))
  · obtain ⟨kvs, er⟩ := hx
    rw [er] at p
    obtain ⟨v, h1, a', zs, q1, q2, q3, q4⟩ := R.slot i _ er
    subst q2
    refine ⟨_, h1, Wd, u, ρ, R, pO_mono (pS_res R p) (fun ds ed q vs H1 s1 hd => ?_) fun _ z => z⟩
    have hMa : Mk Wd u a' := .inr ⟨i, q1⟩
    have eM : addM (fun b => Mk Wd u b ∧ b ≠ a') a' = Mk Wd u := funext fun b => propext ⟨fun z => z.elim (fun z => z.1) (fun z => by rw [z]; exact hMa), fun z => by
      by_cases e : b = a'
      · exact .inr e
      · exact .inl ⟨z, e⟩⟩
    show spM X.K P X.mg cl f ps.length ((V.ref a' :: vs) ++ []) H1 _ _
    rw [List.append_nil]
    refine ⟨by rw [List.length_cons, deall_len hd, evEs_len ed]; exact hl, fun b => Mk Wd u b ∧ b ≠ a', a', zs, kvs, vs, ds, rfl, fun b z => ne_same s1 (R.mdom b z.1), fun z => z.2 rfl, s1 _ _ q3, by rw [eM]; exact q4.same (msk_ext s1), by rw [eM]; exact hd, ?_⟩
    cases ec : cl f (toD kvs :: ds) with
    | stuck => rw [ec] at q; exact q.elim
    | exc c =>
      rw [ec] at q
      exact fun H' cls d s' hx => ⟨c, hx, q u σ H' (R.same (s1.trans s')) (Tr.same (s1.trans s'))⟩
    | ok w =>
      rw [ec] at q
      cases w with
      | sh d => exact q.elim
      | nl l => exact q.elim
      | nd kvs' =>
        have q : pS X.K XW (.nx (ρ.set i (some (.nd kvs')))) D Wd u H := q
        intro xs' H' keep ha' hk'
        rw [eM] at hk'
        have s2 : ∀ b o, b ≠ a' → H b = some o → H' b = some o := fun b o n e => keep b o n (s1 _ _ e)
        have sU : Same (upd H a' (DX a' xs')) H' := fun b o e => by
          by_cases hb : b = a'
          · rw [hb, upd_same] at e
            cases e
            rw [hb]; exact ha'
          · rw [upd_ne hb] at e
            exact s2 b o hb e
        have R' := (R.chgDH er q1 s2 ha' hk')
        refine q u σ H' R' ⟨fun b o n e => s2 b o (fun z => n i (by rw [z]; exact q1)) e, fun b hb => ?_, fun j b z => .inl ⟨j, z⟩⟩
        by_cases e : b = a'
        · rw [e, ha']; exact fun z => nomatch z
        · cases eb : H b with
          | none => exact absurd eb hb
          | some o => rw [s2 b o e eb]; exact fun z => nomatch z
  · exfalso
    split at p
    · rename_i kvs e
      exact hx ⟨kvs, e⟩
    · exact p
theorem mut_read {k e : E} {ρ : Env} {Wd : Msk} {u : Nat → Option Addr} {σ : L2.St} {H : Hp} {D : Ends} {kvs kvs' : List (List Int × PyData)} {a : Addr} {zs : DXs} {r : Env} (R : Rep K Wd u ρ σ H) (er : ρ[0]? = some (some (.nd kvs))) (hu : u 0 = some a)
    (ha : H a = some (DX a zs)) (hk : KvD K (msk (Mk Wd u) H) zs kvs) (hn : evS P cl fu (.dset 0 k e) ρ = .nx (some (.nd kvs') :: r))
    (q : ∀ xs' H', (∀ b o, b ≠ a → H b = some o → H' b = some o) → H' a = some (DX a xs') → KvD K (msk (Mk Wd u) H') xs' kvs' → D.nx σ H') : sPutX K (tVar 0) (uB K P cl XW k) (uE K P cl XW e) D σ H := by
  have hn : (match (ρ[0]? : Option (Option W)) with
    | some (some (W.nd kvs)) => (evE P cl e ρ).res ρ fun w => w.share.res ρ fun d => (bor k (evE P cl k ρ) ρ).res ρ fun kd => (match keyI kd with
      | some ns => if lenOk (kvs.length + 1) then Res.nx (ρ.set 0 (some (W.nd (putK kvs ns d)))) else Res.stuck
      | none => Res.stuck)
    | _ => Res.stuck) = Res.nx (some (.nd kvs') :: r) := by
    rw [← hn]
    simp only [evS]
    all_goals rfl
  rw [er] at hn
  obtain ⟨v0, h0, a0, zs0, w1, w2, w3, w4⟩ := R.slot 0 _ er
  rw [hu] at w1
  cases w1
  subst w2
  refine ⟨Wd, u, ρ, R, ?_⟩
  cases ee : evE P cl e ρ with
  | stuck => rw [ee] at hn; cases hn
  | exc c => rw [ee] at hn; cases hn
  | ok w =>
    rw [ee] at hn
    have hn : (w.share.res ρ fun d => (bor k (evE P cl k ρ) ρ).res ρ fun kd => (match keyI kd with
      | some ns => if lenOk (kvs.length + 1) then Res.nx (ρ.set 0 (some (.nd (putK kvs ns d)))) else .stuck
      | none => .stuck)) = Res.nx (some (.nd kvs') :: r) := hn
    cases es : w.share with
    | stuck => rw [es] at hn; cases hn
    | exc c => rw [es] at hn; cases hn
    | ok d =>
      rw [es] at hn
      have hn : ((bor k (evE P cl k ρ) ρ).res ρ fun kd => (match keyI kd with
        | some ns => if lenOk (kvs.length + 1) then Res.nx (ρ.set 0 (some (.nd (putK kvs ns d)))) else .stuck
        | none => .stuck)) = Res.nx (some (.nd kvs') :: r) := hn
      intro v H1 s1 hw
      have hd := hw.share R.mdom es
      refine ⟨_, h0, Wd, u, ρ, R.same s1, ?_⟩
      cases eb : bor k (evE P cl k ρ) ρ with
      | stuck => rw [eb] at hn; cases hn
      | exc c => rw [eb] at hn; cases hn
      | ok kd =>
        rw [eb] at hn
        have hn : (match keyI kd with
          | some ns => if lenOk (kvs.length + 1) then Res.nx (ρ.set 0 (some (.nd (putK kvs ns d)))) else .stuck
          | none => .stuck) = Res.nx (some (.nd kvs') :: r) := hn
        cases ek : keyI kd with
        | none => rw [ek] at hn; cases hn
        | some ns =>
          rw [ek] at hn
          have hn : (if lenOk (kvs.length + 1) = true then Res.nx (ρ.set 0 (some (.nd (putK kvs ns d)))) else .stuck) = Res.nx (some (.nd kvs') :: r) := hn
          by_cases hl : lenOk (kvs.length + 1) = true
          · rw [if_pos hl] at hn
            have e1 : ρ.set 0 (some (.nd (putK kvs ns d))) = some (.nd kvs') :: r := by injection hn
            have e2 : putK kvs ns d = kvs' := by
              have := congrArg (fun l : Env => l[0]?) e1
              have hi : 0 < ρ.length := (List.getElem?_eq_some_iff.mp er).1
              simp only [List.getElem?_set_self hi, List.getElem?_cons_zero] at this
              cases this
              rfl
            intro y H2 s2 hy
            obtain ⟨b, rfl, hb1, hb2⟩ := key_db hy ek
            have s12 := s1.trans s2
            have hk2 := hk.same (msk_ext s12)
            have hd2 := De.same (msk_ext s2) _ _ hd
            refine ⟨a, b, ns, zs, rfl, rfl, s12 _ _ ha, hk2.de.full, hb1, ?_, ?_⟩
            · have := lenOk_le hl
              rw [kvd_len hk]
              omega
            · have hne : ∀ b' o, ¬ Mk Wd u b' → H2 b' = some o → ¬ Mk Wd u b' ∧ upd H2 a (DX a (putX zs ns b v)) b' = some o := fun b' o n z => ⟨n, by rw [upd_ne fun z' => n (.inr ⟨0, by rw [z']; exact hu⟩)]; exact z⟩
              refine q _ _ (fun b' o n z => by rw [upd_ne n]; exact s12 _ _ z) upd_same ?_
              rw [← e2]
              exact (kvd_put hk2 hb2 hd2).same (msk_mono hne)
          · rw [if_neg hl] at hn; cases hn
theorem s_dset {i : Nat} {k e : E} {o ix ex : Expr} {pos' pos : Pos} (hK : X.K = K) (hu : X.A.units + 1 < cLine) (ho : PE X o (tVar i)) (hi : PE X ix (uB K P cl XW k)) (hv : PE X ex (uE K P cl XW e)) (hs : swapsWith ex (some (.Subscript o ix pos')) pos.line X.env = pure false) :
    PS X (.Assign [.Subscript o ix pos'] ex pos) (uS K P cl XW fu (.dset i k e)) := by
  subst hK
  refine PS.weak (ps_putX hu ho hi hv hs) fun D σ H ⟨Wd, u, ρ, R, p⟩ => ?_
  have p : pS X.K XW (match ρ[i]? with
    | some (some (.nd kvs)) => (evE P cl e ρ).res ρ fun w => w.share.res ρ fun d => (bor k (evE P cl k ρ) ρ).res ρ fun kd => (match keyI kd with
      | some ns => if lenOk (kvs.length + 1) then .nx (ρ.set i (some (.nd (putK kvs ns d)))) else .stuck
      | none => .stuck)
    | _ => .stuck) D Wd u H := p
  by_cases hx : ∃ l, ρ[i]? = some (some (.nd l))
  · obtain ⟨kvs, er⟩ := hx
    rw [er] at p
    obtain ⟨v, h1, a, zs, q1, q2, q3, q4⟩ := R.slot i _ er
    subst q2
    refine ⟨Wd, u, ρ, R, pO_mono (pS_res R p) (fun w _ q v H1 s1 hw => ?_) fun _ z => z⟩
    cases es : w.share with
    | exc c => exact absurd es (noX_share w c)
    | stuck => rw [es] at q; exact q.elim
    | ok d =>
      rw [es] at q
      have hd := hw.share R.mdom es
      have q := pS_res R (show pS X.K XW ((bor k (evE P cl k ρ) ρ).res ρ fun kd => (match keyI kd with
        | some ns => if lenOk (kvs.length + 1) then .nx (ρ.set i (some (.nd (putK kvs ns d)))) else .stuck
        | none => .stuck)) D Wd u H from q)
      refine ⟨_, h1, Wd, u, ρ, R.same s1, pO_mono q (fun kd _ q w' H2 s2 hk => ?_) fun c z => bad_same s1 c z⟩
      have q : pS X.K XW (match keyI kd with
        | some ns => if lenOk (kvs.length + 1) then .nx (ρ.set i (some (.nd (putK kvs ns d)))) else .stuck
        | none => .stuck) D Wd u H := q
      cases ek : keyI kd with
      | none => rw [ek] at q; exact q.elim
      | some ns =>
        rw [ek] at q
        have q : pS X.K XW (if lenOk (kvs.length + 1) = true then .nx (ρ.set i (some (.nd (putK kvs ns d)))) else .stuck) D Wd u H := q
        by_cases hl : lenOk (kvs.length + 1) = true
        · rw [if_pos hl] at q
          obtain ⟨b, rfl, hb1, hb2⟩ := key_db hk ek
          have s12 := s1.trans s2
          have hk2 := q4.same (msk_ext s12)
          have hd2 := De.same (msk_ext s2) _ _ hd
          refine ⟨a, b, ns, zs, rfl, rfl, s12 _ _ q3, hk2.de.full, hb1, ?_, ?_⟩
          · have := lenOk_le hl
            rw [kvd_len q4]
            omega
          · exact q u σ _ ((R.same s12).chgD er q1 (kvd_put hk2 hb2 hd2)) ((Tr.same s12).trans (chg_tr (Wd := Wd) q1))
        · rw [if_neg hl] at q; exact q.elim
  · exfalso
    split at p
    · rename_i l er
      exact hx ⟨l, er⟩
    · exact p
end
end Ev
namespace Ev
open PySem PySem.Spec
open PyProof.Rows L2
structure SC where
  P : Prg
  N : List Str
  sc : Scope
  fnB : Str → Bool
  blts : List Str
  maths : List Str
def SC.blk (S : SC) (scope : Scope) : SC := { S with sc := relS scope S.sc, fnB := fun x => decide (scope.names.lookup x = some .cell) }
def bopOf : BOp → Operator
  | .add => .Add | .sub => .Sub | .mul => .Mult | .fdiv => .FloorDiv | .mod => .Mod | .pow => .Pow | .shl => .LShift | .band => .BitAnd
def noStar : Expr → Bool
  | .Starred _ _ => false
  | _ => true
def noComp : Expr → Bool
  | .ListComp .. => false
  | .SetComp .. => false
  | .DictComp .. => false
  | _ => true
def noSet : Expr → Bool
  | .Set .. => false
  | _ => true
def noSlice : Expr → Bool
  | .Slice .. => false
  | _ => true
def noTup : Expr → Bool
  | .Tuple .. => false
  | _ => true
def plainT : Expr → Bool
  | .UnaryOp .Not _ _ => false
  | .BoolOp .. => false
  | .IfExp .. => false
  | .Compare .. => false
  | _ => true
def isNul : E → Bool
  | .nul => true
  | _ => false
def okName (x : Str) : Bool := !(x == ("__debug__" : Str)) && !(x == ("__classdict__" : Str)) && !(decide (x = ("__name__" : Str)))
def visB (S : SC) (x : Str) : Bool := match S.sc.names.lookup x with
  | some .local => true
  | some .cell => true
  | some .free => true
  | _ => false
def locB (S : SC) (x : Str) : Bool := match S.sc.names.lookup x with
  | some .local => true
  | some .cell => S.fnB x
  | _ => false
def plainA2 : Expr → Bool
  | .Name _ _ => true
  | .Constant _ _ _ => true
  | .Subscript _ _ _ => true
  | .Call _ (_ :: _) _ _ => true
  | _ => false
def plainA1 : Expr → Bool
  | .Name _ _ => true
  | .List _ _ => true
  | _ => false
def glB (S : SC) (x : Str) : Bool := decide (S.sc.names.lookup x = some .globalImplicit) && okName x
def nameB (x : Str) : Expr → Bool
  | .Name y _ => decide (y = x)
  | _ => false
def mVar (S : SC) (i : Nat) : Expr → Bool
  | .Name x _ => decide (S.N[i]? = some x) && visB S x && okName x
  | _ => false
def mNm (S : SC) (i : Nat) : Expr → Bool
  | .Name x _ => decide (S.N[i]? = some x) && locB S x && okName x
  | _ => false
def mNms (S : SC) : List Nat → List Expr → Bool
  | [], [] => true
  | i :: is, x :: xs => mNm S i x && noStar x && mNms S is xs
  | _, _ => false
def mTg (S : SC) (tg : Tg) (ex : Expr) : Bool := match tg with
  | .nm i => mNm S i ex
  | .tp is => (match ex with | .Tuple xs _ _ => mNms S is xs | _ => false)
def isMath : Bi → Bool
  | .gcd => true
  | .comb => true
  | _ => false
def biX : Bi → Str → Bool
  | .comb, x => decide (x = "comb_math")
  | _, _ => false
def biB (S : SC) (b : Bi) (x : Str) : Bool := (decide (x = biName b) || biX b x) && glB S x && (if isMath b then S.maths.contains x else S.blts.contains x)
def zipT : Expr → Bool
  | .Tuple .. => true
  | _ => false
def isYes : T → Bool
  | .yes => true
  | _ => false
def isCmp : E → Bool
  | .cmp .. => true
  | .chn .. => true
  | _ => false
mutual
def mE : E → SC → Expr → Bool
  | .var i, S, ex => mVar S i ex
  | .cst c, _, ex => (match ex with | .Constant c' _ _ => decide (c' = c) | _ => false)
  | .glob i, S, ex => (match ex with | .Name x _ => glB S x && (match S.P.consts[i]? with | some (y, _) => decide (x = y) | none => false) | _ => false)
  | .bin o a b, S, ex => (match ex with | .BinOp x op y _ => decide (op = bopOf o) && mE a S x && mE b S y | _ => false)
  | .neg a, S, ex => (match ex with | .UnaryOp .USub x _ => mE a S x | _ => false)
  | .notv a, S, ex => (match ex with | .UnaryOp .Not x _ => mE a S x | _ => false)
  | .cmp o a b, S, ex => (match ex with | .Compare x [op] [y] _ => decide (op = copOf o) && !(behindInMarks op y) && mE a S x && mE b S y | _ => false)
  | .chn o o' a b c, S, ex => (match ex with | .Compare x [op, op'] [y, z] _ => decide (op = copOf o) && decide (op' = copOf o') && !(lastMarks [op, op'] [y, z]) && mE a S x && mE b S y && mE c S z | _ => false)
  | .andv es, S, ex => (match ex with | .BoolOp .And xs _ => mEs es S xs && decide (xs ≠ []) | _ => false)
  | .orv es, S, ex => (match ex with | .BoolOp .Or xs _ => mEs es S xs && decide (xs ≠ []) | _ => false)
  | .ite c a b, S, ex => (match ex with | .IfExp t x y _ => mT c S t && mE a S x && mE b S y | _ => false)
  | .tup es, S, ex => (match ex with | .Tuple xs _ _ => mEs es S xs && decide (es.len ≤ 1000) | _ => false)
  | .lst es, S, ex => (match ex with | .List xs _ => mEs es S xs && decide (es.len ≤ 1000) | _ => false)
  | .ix a i, S, ex => (match ex with | .Subscript x y _ => mE a S x && mE i S y && noSlice y | _ => false)
  | .sl a lo hi, S, ex => (match ex with
    | .Subscript x (.Slice l h none _) _ => mE a S x && (match l with | none => isNul lo | some y => !isNul lo && mE lo S y) && (match h with | none => isNul hi | some y => !isNul hi && mE hi S y)
    | _ => false)
  | .nul, _, _ => false
  | .edc, _, ex => (match ex with | .Dict [] [] _ => true | _ => false)
  | .ndc, _, ex => (match ex with | .Dict [] [] _ => true | _ => false)
  | .rsl a, S, ex => (match ex with | .Subscript x (.Slice none none (some (.UnaryOp .USub (.Constant (.int 1) _ _) _)) _) _ => mE a S x | _ => false)
  | .lix a b, S, ex => (match ex with | .Call (.Attribute x n apos) [y] [] pos => decide (n = "index") && (mE a S x && mE b S y) && noStar y && plainA1 x && (apos.endLine == pos.line) | _ => false)
  | .mth m a b, S, ex => (match ex with | .Call (.Attribute x n apos) [y] [] pos => decide (n = meN m) && (mE a S x && mE b S y) && noStar y && plainA2 x && (apos.endLine == pos.line) && decide (m ≠ .get ∧ m ≠ .count) | _ => false)
  | .lct a b, S, ex => (match ex with | .Call (.Attribute x n apos) [y] [] pos => decide (n = "count") && (mE a S x && mE b S y) && noStar y && plainA1 x && (apos.endLine == pos.line) | _ => false)
  | .dd k e, S, ex => (match ex with | .Dict [some ke] [ve] _ => mE k S ke && mE e S ve | _ => false)
  | .repl a b, S, ex => (match ex with | .BinOp x .Mult y _ => mE a S x && mE b S y | _ => false)
  | .cat a b, S, ex => (match ex with | .BinOp x .Add y _ => mE a S x && mE b S y | _ => false)
  | .call0 f, S, ex => (match ex with | .Call (.Name x _) [] [] _ => glB S x && (match S.P.defs[f]? with | some d => decide (d.glo = x) && decide (0 = d.ps.length) && !d.mu | none => false) | _ => false)
  | .call f es, S, ex => (match ex with | .Call (.Name x _) (y :: ys) [] _ => glB S x && (match S.P.defs[f]? with | some d => decide (d.glo = x) && decide (es.len = d.ps.length) && !d.mu | none => false) && mEs es S (y :: ys) | _ => false)
  | .bi b es, S, ex => (match ex with | .Call (.Name x _) (y :: ys) [] _ => biB S b x && mEs es S (y :: ys) | _ => false)
  | .isi t a, S, ex => (match ex with | .Call (.Name x _) [y, .Name z _] [] _ => decide (x = "isinstance") && glB S x && S.blts.contains x && decide (z = Str.ofString (tyN t)) && glB S z && S.blts.contains z && mE a S y && noStar y | _ => false)
  | .me m o es, S, ex => (match m, o, es, ex with
    | .get, .var i, .cons k (.cons d .nil), .Call (.Attribute o' nm apos) [e, f] [] cpos => decide (nm = "get") && mVar S i o' && mE k S e && noStar e && mE d S f && noStar f && (apos.endLine == cpos.line)
    | _, _, _, _ => false)
  | .lc src tg own c elt, S, ex => (match ex with
    | .ListComp el [⟨tx, it, ifs, as⟩] scope _ => decide (as = 0) && blkC S.N S.sc scope own && tg.ixs.all (fun i => (own.map (·.2)).contains i) && mI src S tx it && noSet it && mTg (S.blk scope) tg tx && (match ifs with | [] => isYes c | [t] => !isYes c && mT c (S.blk scope) t | _ => false) && mE elt (S.blk scope) el
    | _ => false)
  | .lc2 src tg src2 tg2 own own2 elt, S, ex => (match ex with
    | .ListComp el [⟨tx, it, [], as⟩, ⟨tx2, it2, [], as2⟩] scope _ => decide (as = 0) && decide (as2 = 0) && blkC S.N S.sc scope own && tg.ixs.all (fun i => (own.map (·.2)).contains i) && tg2.ixs.all (fun i => (own2.map (·.2)).contains i) && (own2.map (·.2)).all (fun i => (own.map (·.2)).contains i) && mI src S tx it && noSet it && mTg (S.blk scope) tg tx && mI src2 (S.blk scope) tx2 it2 && noSet it2 && mTg (S.blk scope) tg2 tx2 && mE elt (S.blk scope) el
    | _ => false)
  | .stp i a, S, ex => (match ex with | .Subscript x (.Slice (some (.Constant (.int j) _ _)) none (some (.Constant (.int 2) _ _)) _) _ => decide (j = (i : Int)) && mE a S x | _ => false)
  | .mxd a d, S, ex => (match ex with | .Call (.Name x _) [y] [⟨nm, z, _⟩] _ => decide (x = "max") && glB S x && S.blts.contains x && mE a S y && noStar y && decide (nm = some "default") && mE d S z | _ => false)
def mEs : Es → SC → List Expr → Bool
  | .nil, _, xs => (match xs with | [] => true | _ => false)
  | .cons e es, S, xs => (match xs with | x :: r => mE e S x && noStar x && mEs es S r | _ => false)
def mT : T → SC → Expr → Bool
  | .yes, _, _ => false
  | .val e, S, ex => mE e S ex && (plainT ex || isCmp e)
  | .nt t, S, ex => (match ex with | .UnaryOp .Not x _ => mT t S x | _ => false)
  | .and ts, S, ex => (match ex with | .BoolOp .And xs _ => mTs ts S xs | _ => false)
  | .or ts, S, ex => (match ex with | .BoolOp .Or xs _ => mTs ts S xs | _ => false)
def mTs : Ts → SC → List Expr → Bool
  | .one t, S, xs => (match xs with | [x] => mT t S x | _ => false)
  | .cons t ts, S, xs => (match xs with | x :: r => mT t S x && mTs ts S r | _ => false)
def mI : Src → SC → Expr → Expr → Bool
  | .seq e, S, _, ex => mE e S ex
  | .rng1 a, S, _, ex => (match ex with | .Call (.Name x _) [y] [] _ => decide (x = "range") && glB S x && S.blts.contains x && mE a S y && noStar y | _ => false)
  | .rng2 a b, S, _, ex => (match ex with | .Call (.Name x _) [y, z] [] _ => decide (x = "range") && glB S x && S.blts.contains x && mE a S y && noStar y && mE b S z && noStar z | _ => false)
  | .rng3 a b c, S, _, ex => (match ex with | .Call (.Name x _) [y, z, w] [] _ => decide (x = "range") && glB S x && S.blts.contains x && mE a S y && noStar y && mE b S z && noStar z && mE c S w && noStar w | _ => false)
  | .zip a b, S, tx, ex => zipT tx && (match ex with | .Call (.Name x _) [y, z] [] _ => decide (x = "zip") && glB S x && S.blts.contains x && mE a S y && noStar y && mE b S z && noStar z | _ => false)
  | .zps a b, S, tx, ex => zipT tx && (match ex with | .Call (.Name x _) [y, z] [] _ => decide (x = "zip") && glB S x && S.blts.contains x && mE a S y && noStar y && mE b S z && noStar z | _ => false)
  | .zip3 a b c, S, tx, ex => zipT tx && (match ex with | .Call (.Name x _) [y, z, w] [] _ => decide (x = "zip") && glB S x && S.blts.contains x && mE a S y && noStar y && mE b S z && noStar z && mE c S w && noStar w | _ => false)
  | .enm a, S, tx, ex => zipT tx && (match ex with | .Call (.Name x _) [y] [] _ => decide (x = "enumerate") && glB S x && S.blts.contains x && mE a S y && noStar y | _ => false)
  | .rev a, S, _, ex => (match ex with | .Call (.Name x _) [y] [] _ => decide (x = "reversed") && glB S x && S.blts.contains x && mE a S y && noStar y | _ => false)
end
end Ev
namespace Ev
open PySem PySem.Spec
open PyProof.Rows L2
structure ExcFact (K : PySem.W.Frag) (mg : Str → Option Value) (x : Str) (C : Addr) : Prop where
  gC : mg x = some (.ref C)
  q : PySem.W.excIn K C [.type "ValueError", .type "Exception", .type "BaseException", .type "object"] "ValueError.__new__" = true
  kC : PySem.W.keepIn K (.ref C) = true
  b : PySem.W.subIn K (.ref C) (.type "BaseException") = some true
  t : PySem.W.typeIn K (.ref C) = some (.type "type")
structure CtxOk (S : SC) (cl : Nat → List PyData → Out W) (k : Nat) (X : Cx) (XW : Nat → L2.St → Hp → Prop) : Prop where
  hN : X.N = S.N
  hsc : X.env.scope = S.sc
  kf : S.sc.kind = .function
  nd : S.N.Nodup
  fnc : ∀ x, S.fnB x = true → X.fn x = true
  calm : X.calm = true
  room : Room k X.A
  tk : Takes X (fun cls d σ H => ∃ c, XIs S.P X.mg c cls ∧ XW c σ H)
  muts : ∀ (f : Nat) (d : DefIR), S.P.defs[f]? = some d → d.mu = true → ∃ A fd, X.mg d.glo = some (.ref A) ∧ PySem.W.keepIn X.K (.ref A) = true ∧ Binds X.K fd d.ps [] ∧ FnOk X.prog X.w X.K X.mg X.base (L2.CX X.prog X.w) k A fd d.ps (spM X.K S.P X.mg cl f d.ps.length)
  defs : ∀ (f : Nat) (d : DefIR), S.P.defs[f]? = some d → d.mu = false → ∃ A fd, X.mg d.glo = some (.ref A) ∧ PySem.W.keepIn X.K (.ref A) = true ∧ Binds X.K fd d.ps [] ∧ FnOk X.prog X.w X.K X.mg X.base (L2.CX X.prog X.w) k A fd d.ps (spD X.K S.P X.mg cl f d.ps.length)
  blts : ∀ x, S.blts.contains x = true → X.mg x = none
  maths : ∀ x, S.maths.contains x = true → (x = "gcd" → X.mg x = some (.builtin "math.gcd")) ∧ (x = "comb" → X.mg x = some (.builtin "math.comb")) ∧ (x = "comb_math" → X.mg x = some (.builtin "math.comb"))
  consts : ∀ (i : Nat) (x : Str) (d : PyData), S.P.consts[i]? = some (x, d) → ∃ u v, X.mg x = some u ∧ L2.RelV v u ∧ De X.K (fun _ => none) v d
  excs : ∀ (c : Nat) (x : Str), S.P.excs[c]? = some x → ∃ C, ExcFact X.K X.mg x C
  subs : ∀ (c h : Nat) (x y : Str) (C C' : Addr), S.P.excs[c]? = some x → S.P.excs[h]? = some y → X.mg x = some (.ref C) → X.mg y = some (.ref C') → PySem.W.exmOne X.K (.ref C) (.ref C') = some (S.P.subs.contains (c, h))
section
variable {S : SC} {cl : Nat → List PyData → Out W} {k : Nat} {X : Cx} {XW : Nat → L2.St → Hp → Prop}
theorem CtxOk.blk (c : CtxOk S cl k X XW) {s : Shared} {H : Hp} {scope : Scope} {C : Addr} {cl' : List (Str × Addr)} {fp : List Addr} (hk : scope.kind = .function) : CtxOk (S.blk scope) cl k (X.blk s H scope (compEnvC scope cl' C X.env) fp) XF := by
  have hs : (compEnvC scope cl' C X.env).scope = relS scope X.env.scope := rfl
  refine ⟨c.hN, by show (compEnvC scope cl' C X.env).scope = relS scope S.sc; rw [hs, c.hsc], hk, c.nd, fun x h => ?_, c.calm, c.room, Takes.imp takes0 fun _ _ _ _ ⟨_, _, z⟩ => z, c.muts, c.defs, c.blts, c.maths, c.consts, c.excs, c.subs⟩
  have h := of_decide_eq_true (show decide (scope.names.lookup x = some .cell) = true from h)
  show (scope.names.lookup x == some .cell) = true
  rw [h]; rfl
theorem CtxOk.hu (c : CtxOk S cl k X XW) : X.A.units + 65 < cLine := by have := c.room.un; omega
theorem okName_dbg {x : Str} (h : okName x = true) : (x == ("__debug__" : Str)) = false ∧ (x == ("__classdict__" : Str)) = false ∧ x ≠ ("__name__" : Str) := by
  unfold okName at h
  rw [Bool.and_eq_true, Bool.and_eq_true] at h
  obtain ⟨⟨h1, h2⟩, h3⟩ := h
  refine ⟨by simpa using h1, by simpa using h2, by simpa using h3⟩
theorem glB_gl (c : CtxOk S cl k X XW) {x : Str} (h : glB S x = true) : Gl X x ∧ (x == ("__debug__" : Str)) = false ∧ x ≠ ("__name__" : Str) := by
  unfold glB at h
  rw [Bool.and_eq_true] at h
  refine ⟨?_, (okName_dbg h.2).1, (okName_dbg h.2).2.2⟩
  show X.env.scope.names.lookup x = some .globalImplicit
  rw [c.hsc]
  exact of_decide_eq_true h.1
theorem visB_vis (c : CtxOk S cl k X XW) {x : Str} (h : visB S x = true) : L2.Vis X.env.scope x := by
  unfold visB at h
  unfold L2.Vis
  rw [c.hsc]
  split at h
  · rename_i e; exact .inl e
  · rename_i e; exact .inr (.inl e)
  · rename_i e; exact .inr (.inr e)
  · cases h
theorem locB_loc (c : CtxOk S cl k X XW) {x : Str} (h : locB S x = true) : L2.Loc X.env.scope x ∧ (X.fn x = true ∨ X.env.scope.names.lookup x = some .local) := by
  unfold locB at h
  unfold L2.Loc
  rw [c.hsc]
  split at h
  · rename_i e; exact ⟨.inl e, .inr e⟩
  · rename_i e; exact ⟨.inr e, .inl (c.fnc x h)⟩
  · cases h
theorem mVar_ok (c : CtxOk S cl k X XW) {i : Nat} {ex : Expr} (h : mVar S i ex = true) : PE X ex (tVar i) := by
  unfold mVar at h
  split at h
  · rw [Bool.and_eq_true, Bool.and_eq_true] at h
    obtain ⟨⟨h1, h2⟩, h3⟩ := h
    obtain ⟨h4, h5, _⟩ := okName_dbg h3
    exact pe_var (by rw [c.hN]; exact of_decide_eq_true h1) (visB_vis c h2) h4 h5
  · cases h
theorem mNm_ok (c : CtxOk S cl k X XW) {i : Nat} {ex : Expr} (h : mNm S i ex = true) : PG X ex (gName i) := by
  unfold mNm at h
  split at h
  · rw [Bool.and_eq_true, Bool.and_eq_true] at h
    obtain ⟨⟨h1, h2⟩, h3⟩ := h
    obtain ⟨h4, h5⟩ := locB_loc c h2
    exact pg_name (by rw [c.hN]; exact c.nd) (by rw [c.hN]; exact of_decide_eq_true h1) h4 h5
  · cases h
theorem mNm_name {i : Nat} {ex : Expr} (h : mNm S i ex = true) : ∃ x p, ex = .Name x p := by
  unfold mNm at h
  split at h
  · exact ⟨_, _, rfl⟩
  · cases h
theorem mNms_ok (c : CtxOk S cl k X XW) : ∀ {is : List Nat} {xs : List Expr}, mNms S is xs = true → PGs X xs (gL is) ∧ (assignEach xs X.env).length = is.length ∧ (assignEach xs X.env).findIdx? (·.1) = none
  | [], [], _ => ⟨pgs_nil, rfl, rfl⟩
  | i :: is, x :: xs, h => by
    have h : (mNm S i x && noStar x && mNms S is xs) = true := h
    rw [Bool.and_eq_true, Bool.and_eq_true] at h
    obtain ⟨⟨h1, h2⟩, h3⟩ := h
    obtain ⟨g1, g2, g3⟩ := mNms_ok c h3
    obtain ⟨y, p, rfl⟩ := mNm_name h1
    refine ⟨pgs_cons (mNm_ok c h1) g1 rfl, ?_, ?_⟩
    · show (assignEach xs X.env).length + 1 = is.length + 1
      rw [g2]
    · show (((false, assign (.Name y p) X.env) :: assignEach xs X.env).findIdx? (·.1)) = none
      rw [List.findIdx?_cons]
      simp only [Bool.false_eq_true, if_false]
      rw [g3]; rfl
  | [], _ :: _, h => by cases h
  | _ :: _, [], h => by cases h
theorem mTg_ok (c : CtxOk S cl k X XW) {tg : Tg} {ex : Expr} (h : mTg S tg ex = true) : PG X ex (gT X.K tg) := by
  cases tg with
  | nm i => exact mNm_ok c h
  | tp is =>
    cases ex with
    | Tuple xs kk pos =>
      obtain ⟨g1, g2, g3⟩ := mNms_ok c (show mNms S is xs = true from h)
      exact pg_tup c.calm g1 g2 g3
    | _ => cases h
theorem star_cons {x : Expr} {xs : List Expr} {env : PySem.Env} (h : noStar x = true) : starEach (x :: xs) env = (false, eval x env) :: starEach xs env := by
  cases x <;> first | rfl | cases h
theorem star_none {pos : Pos} {env : PySem.Env} : ∀ {xs : List Expr}, (∀ x ∈ xs, noStar x = true) → (backTo pos (starEach xs env)).any (·.1) = false
  | [], _ => rfl
  | x :: xs, h => by
    rw [star_cons (h x List.mem_cons_self)]
    show (false || (backTo pos (starEach xs env)).any (·.1)) = false
    rw [Bool.false_or]
    exact star_none fun y hy => h y (List.mem_cons_of_mem _ hy)
theorem mEs_star {cc : Nat} : ∀ {es : Es} {xs : List Expr}, mEs es S xs = true → ∀ x ∈ xs, noStar x = true
  | .nil, [], _, x, hx => by cases hx
  | .nil, _ :: _, h, _, _ => by cases h
  | .cons e es, [], h, _, _ => by cases h
  | .cons e es, y :: ys, h, x, hx => by
    have h : (mE e S y && noStar y && mEs es S ys) = true := h
    rw [Bool.and_eq_true, Bool.and_eq_true] at h
    rcases List.mem_cons.mp hx with rfl | hx
    · exact h.1.2
    · exact mEs_star (cc := cc) h.2 x hx
theorem plain_true {x : Expr} {env : PySem.Env} (h : plainT x = true) : ∀ whole, PySem.isTrue x env whole = (do let v ← whole; standAt x.pos; holding [v] (truthy v)) := by
  intro whole
  cases x with
  | UnaryOp op e p => cases op <;> first | rfl | cases h
  | BoolOp => cases h
  | IfExp => cases h
  | Compare => cases h
  | _ => rfl
theorem plainIx {y : Expr} (h : noSlice y = true) : PlainIx y := by
  intro o i
  cases y <;> first | rfl | cases h
theorem noSet_ok {x : Expr} {env : PySem.Env} (h : noSet x = true) : ∀ v, foldedSetIterable x env v = pure v := by
  intro v
  cases x <;> first | rfl | cases h
theorem boot_ty (t : Ty) : bootBuiltins (Str.ofString (tyN t)) = some (.type (tyN t)) := by cases t <;> decide +kernel
theorem boot_bi (b : Bi) (h : isMath b = false) : bootBuiltins (biName b) = some (biVal b) := by cases b <;> first | (cases h; done) | decide +kernel
theorem toB (c : CtxOk S cl k X XW) {e : E} {ex : Expr} {K : PySem.W.Frag} {P : Prg} (hm : mE e S ex = true) (h : PE X ex (uE K P cl XW e)) : PE X ex (uB K P cl XW e) := by
  by_cases hv : ∃ j, e = .var j
  · obtain ⟨j, rfl⟩ := hv
    exact pe_B (i := j) (x := "") (pos := ⟨0, 0, 0, 0⟩) (fun _ => mVar_ok c hm) h fun k z => by cases z; rfl
  · exact PE.weak h fun σ H Q q => uB_of (fun j z => hv ⟨j, z⟩) q
theorem toQ (c : CtxOk S cl k X XW) {e : E} {ex : Expr} {K : PySem.W.Frag} {P : Prg} {br : Bool} (hm : mE e S ex = true) (h : PE X ex (uE K P cl XW e)) : PE X ex (uQ K P cl XW br e) :=
  pe_Q (fun i z => mVar_ok c (by rw [z] at hm; exact hm)) h
theorem and2 {a b : Bool} (h : (a && b) = true) : a = true ∧ b = true := Bool.and_eq_true_iff.mp h
theorem attr_name {o : Expr} {i : Nat} {S : SC} {m : Str} {env : PySem.Env} {w : Sem Value} (h : mVar S i o = true) : attributeBase o m env w = w := by
  unfold mVar at h
  split at h
  · rfl
  · cases h
theorem attr_plain {o : Expr} {m : Str} {env : PySem.Env} {w : Sem Value} (h : plainA1 o = true) : attributeBase o m env w = w := by
  cases o <;> first | rfl | cases h
theorem attr_plain2 {o : Expr} {m : Str} {env : PySem.Env} {w : Sem Value} (h : plainA2 o = true) : attributeBase o m env w = w := by
  cases o with
  | Call f args kws pos =>
    cases args with
    | nil => cases h
    | cons a r => cases f <;> rfl
  | _ => first | rfl | cases h
mutual
theorem sE : ∀ (e : E) (S : SC) (X : Cx) (XW : Nat → L2.St → Hp → Prop), CtxOk S cl k X XW → ∀ ex, mE e S ex = true → PE X ex (uE X.K S.P cl XW e)
  | .var i, S, X, XW, c, ex, h => e_var (mVar_ok c h)
  | .cst d, S, X, XW, c, ex, h => by
    cases ex with
    | Constant c' j p =>
      obtain rfl := of_decide_eq_true (show decide (c' = d) = true from h)
      exact e_cst
    | _ => cases h
  | .glob i, S, X, XW, c, ex, h => by
    cases ex with
    | Name x p =>
      obtain ⟨h1, h2⟩ := and2 (show (glB S x && _) = true from h)
      obtain ⟨g1, g2, g3⟩ := glB_gl c h1
      refine e_glob g1 g2 (fun d e => c.consts i x d e) ?_
      split at h2
      · rename_i y d e
        obtain rfl := of_decide_eq_true h2
        exact ⟨d, e⟩
      · cases h2
    | _ => cases h
  | .bin o a b, S, X, XW, c, ex, h => by
    cases ex with
    | BinOp x op y p =>
      obtain ⟨h1, h3⟩ := and2 (show (decide (op = bopOf o) && mE a S x && mE b S y) = true from h)
      obtain ⟨h1, h2⟩ := and2 h1
      obtain rfl := of_decide_eq_true h1
      have ho : OpR X (binaryOp (bopOf o)) (rB X.K (opD o)) := by
        have := op_ok (X := X) o
        cases o <;> exact this
      exact e_bin ho (toB c h2 (sE a S X XW c x h2)) (toB c h3 (sE b S X XW c y h3))
    | _ => cases h
  | .neg a, S, X, XW, c, ex, h => by
    cases ex with
    | UnaryOp op x p =>
      cases op with
      | USub => exact e_neg rfl (toB c h (sE a S X XW c x h))
      | _ => cases h
    | _ => cases h
  | .notv a, S, X, XW, c, ex, h => by
    cases ex with
    | UnaryOp op x p =>
      cases op with
      | Not => exact e_not (toB c h (sE a S X XW c x h))
      | _ => cases h
    | _ => cases h
  | .cmp o a b, S, X, XW, c, ex, h => by
    unfold mE at h
    split at h
    · rename_i x op y p
      obtain ⟨h, h4⟩ := and2 h
      obtain ⟨h, h3⟩ := and2 h
      obtain ⟨h1, h2⟩ := and2 h
      obtain rfl := of_decide_eq_true h1
      exact e_cmpV c.hu rfl (by simpa using h2) (toB c h3 (sE a S X XW c x h3)) (toB c h4 (sE b S X XW c y h4))
    · cases h
  | .chn o o' a b d, S, X, XW, c, ex, h => by
    unfold mE at h
    split at h
    · rename_i x op op' y z p
      obtain ⟨h, h6⟩ := and2 h
      obtain ⟨h, h5⟩ := and2 h
      obtain ⟨h, h4⟩ := and2 h
      obtain ⟨h, h3⟩ := and2 h
      obtain ⟨h1, h2⟩ := and2 h
      obtain rfl := of_decide_eq_true h1
      obtain rfl := of_decide_eq_true h2
      exact e_chn c.hu rfl (by simpa using h3) (toB c h4 (sE a S X XW c x h4)) (toB c h5 (sE b S X XW c y h5)) (toB c h6 (sE d S X XW c z h6))
    · cases h
  | .andv es, S, X, XW, c, ex, h => by
    unfold mE at h
    split at h
    · rename_i xs p
      obtain ⟨h1, h2⟩ := and2 h
      exact PE.weak (sAndV es S X XW c xs p h1 (of_decide_eq_true h2)) fun σ H Q q => q
    · cases h
  | .orv es, S, X, XW, c, ex, h => by
    unfold mE at h
    split at h
    · rename_i xs p
      obtain ⟨h1, h2⟩ := and2 h
      exact PE.weak (sOrV es S X XW c xs p h1 (of_decide_eq_true h2)) fun σ H Q q => q
    · cases h
  | .ite t a b, S, X, XW, c, ex, h => by
    unfold mE at h
    split at h
    · rename_i z x y p
      obtain ⟨h, h3⟩ := and2 h
      obtain ⟨h1, h2⟩ := and2 h
      exact e_ite (sT t S X XW c z h1) (sE a S X XW c x h2) (sE b S X XW c y h3)
    · cases h
  | .tup es, S, X, XW, c, ex, h => by
    unfold mE at h
    split at h
    · rename_i xs kk p
      obtain ⟨h1, h2⟩ := and2 h
      exact e_tup (of_decide_eq_true h2) (sA es S X XW c xs h1)
    · cases h
  | .lst es, S, X, XW, c, ex, h => by
    unfold mE at h
    split at h
    · rename_i xs p
      obtain ⟨h1, h2⟩ := and2 h
      exact e_lst (of_decide_eq_true h2) (sA es S X XW c xs h1)
    · cases h
  | .ix a i, S, X, XW, c, ex, h => by
    unfold mE at h
    split at h
    · rename_i x y p
      obtain ⟨h, h3⟩ := and2 h
      obtain ⟨h1, h2⟩ := and2 h
      exact e_ix (pos := p) (by have := c.hu; omega) rfl (plainIx h3) (toB c h1 (sE a S X XW c x h1)) (toB c h2 (sE i S X XW c y h2))
    · cases h
  | .sl a lo hi, S, X, XW, c, ex, h => by
    unfold mE at h
    split at h
    · rename_i x l hh p2 p
      obtain ⟨h, h3⟩ := and2 h
      obtain ⟨h1, h2⟩ := and2 h
      refine e_sl rfl (toB c h1 (sE a S X XW c x h1)) ?_ ?_
      · cases l with
        | none =>
          have : lo = .nul := by cases lo <;> first | rfl | cases h2
          subst this
          exact o_none
        | some y =>
          obtain ⟨h4, h5⟩ := and2 h2
          exact o_some (fun z => by rw [z] at h4; cases h4) (toB c h5 (sE lo S X XW c y h5))
      · cases hh with
        | none =>
          have : hi = .nul := by cases hi <;> first | rfl | cases h3
          subst this
          exact o_none
        | some y =>
          obtain ⟨h4, h5⟩ := and2 h3
          exact o_some (fun z => by rw [z] at h4; cases h4) (toB c h5 (sE hi S X XW c y h5))
    · cases h
  | .nul, S, X, XW, c, ex, h => by cases h
  | .edc, S, X, XW, c, ex, h => by
    unfold mE at h
    split at h
    · exact e_edc
    · cases h
  | .ndc, S, X, XW, c, ex, h => by
    unfold mE at h
    split at h
    · exact e_ndc
    · cases h
  | .lix a b, S, X, XW, c, ex, h => by
    unfold mE at h
    split at h
    · rename_i x n apos y pos
      obtain ⟨h, h5⟩ := and2 h
      obtain ⟨h, h4⟩ := and2 h
      obtain ⟨h, h3⟩ := and2 h
      obtain ⟨h1, h2⟩ := and2 h
      obtain ⟨ha, hb⟩ := and2 h2
      obtain rfl := of_decide_eq_true h1
      exact e_lix (by have := c.hu; omega) rfl (toB c ha (sE a S X XW c x ha)) (toB c hb (sE b S X XW c y hb)) (star_cons h3) (attr_plain h4) h5
    · cases h
  | .mth m a b, S, X, XW, c, ex, h => by
    unfold mE at h
    split at h
    · rename_i x n apos y pos
      obtain ⟨h, h6⟩ := and2 h
      obtain ⟨h, h5⟩ := and2 h
      obtain ⟨h, h4⟩ := and2 h
      obtain ⟨h, h3⟩ := and2 h
      obtain ⟨h1, h2⟩ := and2 h
      obtain ⟨ha, hb⟩ := and2 h2
      obtain rfl := of_decide_eq_true h1
      exact e_mth rfl (toB c ha (sE a S X XW c x ha)) (toB c hb (sE b S X XW c y hb)) (star_cons h3) (fun n => attr_plain2 h4) h5 (of_decide_eq_true h6)
    · cases h
  | .lct a b, S, X, XW, c, ex, h => by
    unfold mE at h
    split at h
    · rename_i x n apos y pos
      obtain ⟨h, h5⟩ := and2 h
      obtain ⟨h, h4⟩ := and2 h
      obtain ⟨h, h3⟩ := and2 h
      obtain ⟨h1, h2⟩ := and2 h
      obtain ⟨ha, hb⟩ := and2 h2
      obtain rfl := of_decide_eq_true h1
      exact e_lct (by have := c.hu; omega) rfl (toB c ha (sE a S X XW c x ha)) (toB c hb (sE b S X XW c y hb)) (star_cons h3) (attr_plain h4) h5
    · cases h
  | .rsl a, S, X, XW, c, ex, h => by
    unfold mE at h
    split at h
    · rename_i x k p1 p2 p3 pos
      exact e_rsl rfl (toB c h (sE a S X XW c x h))
    · cases h
  | .dd k e, S, X, XW, c, ex, h => by
    unfold mE at h
    split at h
    · rename_i ke ve pos
      obtain ⟨h1, h2⟩ := and2 h
      exact e_dd (by have := c.hu; omega) rfl (sE k S X XW c ke h1) (sE e S X XW c ve h2)
    · cases h
  | .repl a b, S, X, XW, c, ex, h => by
    unfold mE at h
    split at h
    · rename_i x y p
      obtain ⟨h1, h2⟩ := and2 h
      exact e_repl (sE a S X XW c x h1) (toB c h2 (sE b S X XW c y h2))
    · cases h
  | .cat a b, S, X, XW, c, ex, h => by
    unfold mE at h
    split at h
    · rename_i x y p
      obtain ⟨h1, h2⟩ := and2 h
      exact e_cat rfl (pe_N (fun i z => mVar_ok c (by rw [z] at h1; exact h1)) (sE a S X XW c x h1)) (pe_N (fun i z => mVar_ok c (by rw [z] at h2; exact h2)) (sE b S X XW c y h2))
    · cases h
  | .call0 f, S, X, XW, c, ex, h => by
    unfold mE at h
    split at h
    · rename_i x p p'
      obtain ⟨h1, h2⟩ := and2 h
      obtain ⟨g1, g2, g3⟩ := glB_gl c h1
      split at h2
      · rename_i d ed
        obtain ⟨h2, h9⟩ := and2 h2
        obtain ⟨h2, h3⟩ := and2 h2
        obtain rfl := of_decide_eq_true h2
        obtain ⟨A, fd, m1, m2, m3, m4⟩ := c.defs f d ed (by simpa using h9)
        exact e_call0 rfl m4 c.room g1 m1 m2 m3 g2 (of_decide_eq_true h3)
      · cases h2
    · cases h
  | .call f es, S, X, XW, c, ex, h => by
    unfold mE at h
    split at h
    · rename_i x p y ys p'
      obtain ⟨h, h3⟩ := and2 h
      obtain ⟨h1, h2⟩ := and2 h
      obtain ⟨g1, g2, g3⟩ := glB_gl c h1
      have ns := mEs_star (cc := 0) h3
      split at h2
      · rename_i d ed
        obtain ⟨h2, h9⟩ := and2 h2
        obtain ⟨h2, h4⟩ := and2 h2
        obtain rfl := of_decide_eq_true h2
        obtain ⟨A, fd, m1, m2, m3, m4⟩ := c.defs f d ed (by simpa using h9)
        exact e_call rfl m4 c.room g1 m1 m2 m3 c.tk g2 (of_decide_eq_true h4) (sA es S X XW c _ h3) (star_cons (ns y List.mem_cons_self)) (star_none fun z hz => ns z (List.mem_cons_of_mem _ hz))
      · cases h2
    · cases h
  | .bi b es, S, X, XW, c, ex, h => by
    unfold mE at h
    split at h
    · rename_i x p y ys p'
      obtain ⟨h1, h3⟩ := and2 h
      have ns := mEs_star (cc := 0) h3
      unfold biB at h1
      obtain ⟨h1, h2⟩ := and2 h1
      obtain ⟨h1, h4⟩ := and2 h1
      obtain ⟨g1, g2, g3⟩ := glB_gl c h4
      have hA := sBs es S X XW c _ h3
      have s1 := star_cons (env := X.env) (xs := ys) (ns y List.mem_cons_self)
      have s2 : (backTo p' (starEach ys X.env)).any (·.1) = false := star_none fun z hz => ns z (List.mem_cons_of_mem _ hz)
      refine e_bi ?_
      by_cases hx : biX b x = true
      · cases b with
        | comb =>
          have mm := c.maths _ (show S.maths.contains x = true from h2)
          exact pe_callBfun (bi_ok c.calm c.hu .comb) g1 (mm.2.2 (of_decide_eq_true hx)) hA g2 s1 s2
        | _ => cases hx
      rw [Bool.eq_false_iff.mpr hx, Bool.or_false] at h1
      obtain rfl := of_decide_eq_true h1
      by_cases hm : isMath b = true
      · rw [if_pos hm] at h2
        have mm := c.maths _ h2
        cases b with
        | gcd => exact pe_callBfun (bi_ok c.calm c.hu .gcd) g1 (mm.1 rfl) hA g2 s1 s2
        | comb => exact pe_callBfun (bi_ok c.calm c.hu .comb) g1 (mm.2.1 rfl) hA g2 s1 s2
        | _ => cases hm
      · rw [if_neg hm] at h2
        have mm := c.blts _ h2
        have bb := boot_bi b (by simpa using hm)
        cases b with
        | int => exact pe_callTy (bi_ok c.calm c.hu .int) g1 mm bb hA g3 g2 s1 s2
        | str => exact pe_callTy (bi_ok c.calm c.hu .str) g1 mm bb hA g3 g2 s1 s2
        | tuple => exact pe_callTy (bi_ok c.calm c.hu .tuple) g1 mm bb hA g3 g2 s1 s2
        | list => exact pe_callTy (bi_ok c.calm c.hu .list) g1 mm bb hA g3 g2 s1 s2
        | len => exact pe_callB (bi_ok c.calm c.hu .len) g1 mm bb hA g3 g2 s1 s2
        | abs => exact pe_callB (bi_ok c.calm c.hu .abs) g1 mm bb hA g3 g2 s1 s2
        | sum => exact pe_callB (bi_ok c.calm c.hu .sum) g1 mm bb hA g3 g2 s1 s2
        | all => exact pe_callB (bi_ok c.calm c.hu .all) g1 mm bb hA g3 g2 s1 s2
        | any => exact pe_callB (bi_ok c.calm c.hu .any) g1 mm bb hA g3 g2 s1 s2
        | max2 => exact pe_callB (bi_ok c.calm c.hu .max2) g1 mm bb hA g3 g2 s1 s2
        | min2 => exact pe_callB (bi_ok c.calm c.hu .min2) g1 mm bb hA g3 g2 s1 s2
        | sorted => exact pe_callB (bi_ok c.calm c.hu .sorted) g1 mm bb hA g3 g2 s1 s2
        | max1 => exact pe_callB (bi_ok c.calm c.hu .max1) g1 mm bb hA g3 g2 s1 s2
        | min1 => exact pe_callB (bi_ok c.calm c.hu .min1) g1 mm bb hA g3 g2 s1 s2
        | gcd => exact absurd rfl hm
        | comb => exact absurd rfl hm
        | dict => exact pe_callTy (bi_ok c.calm c.hu .dict) g1 mm bb hA g3 g2 s1 s2
    · cases h
  | .isi t a, S, X, XW, c, ex, h => by
    unfold mE at h
    split at h
    · rename_i x p y z p2 p'
      obtain ⟨h, h8⟩ := and2 h
      obtain ⟨h, h7⟩ := and2 h
      obtain ⟨h, h6⟩ := and2 h
      obtain ⟨h, h5⟩ := and2 h
      obtain ⟨h, h4⟩ := and2 h
      obtain ⟨h, h3⟩ := and2 h
      obtain ⟨h1, h2⟩ := and2 h
      obtain rfl := of_decide_eq_true h1
      obtain rfl := of_decide_eq_true h4
      obtain ⟨g1, g2, g3⟩ := glB_gl c h2
      obtain ⟨k1, k2, k3⟩ := glB_gl c h5
      exact e_isi (ty := y) rfl g1 (c.blts _ h3) (star_cons h8) (toB c h7 (sE a S X XW c y h7)) (pe_bltn k1 (c.blts _ h6) (boot_ty t) rfl k3 k2)
    · cases h
  | .me m o es, S, X, XW, c, ex, h => by
    unfold mE at h
    split at h
    · rename_i i k' d' o' nm apos e f cpos
      obtain ⟨h, h7⟩ := and2 h
      obtain ⟨h, h6⟩ := and2 h
      obtain ⟨h, h5⟩ := and2 h
      obtain ⟨h, h4⟩ := and2 h
      obtain ⟨h, h3⟩ := and2 h
      obtain ⟨h1, h2⟩ := and2 h
      obtain rfl := of_decide_eq_true h1
      have st : starEach [e, f] X.env = [(false, eval e X.env), (false, eval f X.env)] := by
        rw [star_cons h4, star_cons h6]
        rfl
      refine e_get (by have := c.hu; omega) rfl (toB c (e := .var i) h2 (sE (.var i) S X XW c o' h2)) (sE k' S X XW c e h3) (sE d' S X XW c f h5) ⟨attr_name h2, by rw [st]; rfl, h7, by rw [st]; rfl⟩
    · cases h
  | .lc src tg own cc elt, S, X, XW, c, ex, h => by
    unfold mE at h
    split at h
    · rename_i el tx it ifs as scope p
      obtain ⟨h, h8⟩ := and2 h
      obtain ⟨h, h7⟩ := and2 h
      obtain ⟨h, h6⟩ := and2 h
      obtain ⟨h, h5⟩ := and2 h
      obtain ⟨h, h4⟩ := and2 h
      obtain ⟨h, h3⟩ := and2 h
      obtain ⟨h1, h2⟩ := and2 h
      obtain rfl := of_decide_eq_true h1
      have bk : BlkOk X.N X.env.scope scope own := by
        rw [c.hN, c.hsc]
        exact blkOk_by h2
      have hv : ∀ i ∈ tg.ixs, i ∈ own.map (·.2) := fun i hi => by
        have := List.all_eq_true.mp h3 i hi
        simpa using this
      have hg : ∀ (s : Shared) (H : Hp) (C : Addr) (cl' : List (Str × Addr)) (fp : List Addr), PG (X.blk s H scope (compEnvC scope cl' C X.env) fp) tx (gT X.K tg) := fun s H C cl' fp => mTg_ok (c.blk bk.kind) h6
      have ht : ∀ (s : Shared) (H : Hp) (C : Addr) (cl' : List (Str × Addr)) (fp : List Addr), PTs (X.blk s H scope (compEnvC scope cl' C X.env) fp) ifs (uT X.K S.P cl XF cc) := fun s H C cl' fp => by
        split at h7
        · have : cc = .yes := by cases cc <;> first | rfl | cases h7
          subst this
          exact ⟨fun pins s σ H Q I ⟨Wd, u, ρ, R, p⟩ => pts_nil.run pins s σ H Q I (p H (Same.refl H))⟩
        · exact pts_one (sT cc (S.blk scope) _ XF (c.blk bk.kind) _ (and2 h7).2)
        · cases h7
      have he : ∀ (s : Shared) (H : Hp) (C : Addr) (cl' : List (Str × Addr)) (fp : List Addr), PE (X.blk s H scope (compEnvC scope cl' C X.env) fp) el (uE X.K S.P cl XF elt) := fun s H C cl' fp => sE elt (S.blk scope) _ XF (c.blk bk.kind) _ h8
      have hi := sI src S X XW c true tx it h4
      exact PE.weak (pe_lc c.calm (by rw [c.hN]; exact c.nd) hi bk hg ht he (noSet_ok h5)) (e_lc (pos := p) rfl c.calm (by rw [c.hN]; exact c.nd) hv hi bk hg ht he)
    · cases h
  | .lc2 src tg src2 tg2 own own2 elt, S, X, XW, c, ex, h => by
    unfold mE at h
    split at h
    · rename_i el tx it as tx2 it2 as2 scope p
      obtain ⟨h, h13⟩ := and2 h
      obtain ⟨h, h12⟩ := and2 h
      obtain ⟨h, h11⟩ := and2 h
      obtain ⟨h, h10⟩ := and2 h
      obtain ⟨h, h9⟩ := and2 h
      obtain ⟨h, h8⟩ := and2 h
      obtain ⟨h, h7⟩ := and2 h
      obtain ⟨h, h6⟩ := and2 h
      obtain ⟨h, h5⟩ := and2 h
      obtain ⟨h, h4⟩ := and2 h
      obtain ⟨h, h3⟩ := and2 h
      obtain ⟨h1, h2⟩ := and2 h
      obtain rfl := of_decide_eq_true h1
      obtain rfl := of_decide_eq_true h2
      have bk : BlkOk X.N X.env.scope scope own := by
        rw [c.hN, c.hsc]
        exact blkOk_by h3
      have hv : ∀ i ∈ tg.ixs, i ∈ own.map (·.2) := fun i hi => by
        have := List.all_eq_true.mp h4 i hi
        simpa using this
      have hv2 : ∀ i ∈ tg2.ixs, i ∈ own2.map (·.2) := fun i hi => by
        have := List.all_eq_true.mp h5 i hi
        simpa using this
      have h21 : ∀ i ∈ own2.map (·.2), i ∈ own.map (·.2) := fun i hi => by
        have := List.all_eq_true.mp h6 i hi
        simpa using this
      exact PE.weak (pe_lc2 c.calm (by rw [c.hN]; exact c.nd) (sI src S X XW c true tx it h7) bk h21 (fun s H C cl' fp => mTg_ok (c.blk bk.kind) h9) (fun s H C cl' fp => pts_yes) (fun s H C cl' fp => sI src2 (S.blk scope) _ XF (c.blk bk.kind) false tx2 it2 h10) (fun s H C cl' fp => mTg_ok (c.blk bk.kind) h12) (fun s H C cl' fp => pts_yes) (fun s H C cl' fp => sE elt (S.blk scope) _ XF (c.blk bk.kind) _ h13) (noSet_ok h8) (fun env => noSet_ok h11)) (e_lc2 hv hv2 h21)
    · cases h
  | .stp i a, S, X, XW, c, ex, h => by
    unfold mE at h
    split at h
    · rename_i x j k1 p1 k2 p2 p3 pos
      obtain ⟨h1, h2⟩ := and2 h
      obtain rfl := of_decide_eq_true h1
      exact e_stp rfl (toB c h2 (sE a S X XW c x h2))
    · cases h
  | .mxd a d, S, X, XW, c, ex, h => by
    unfold mE at h
    split at h
    · rename_i x p y nm z kp pos
      obtain ⟨h, h7⟩ := and2 h
      obtain ⟨h, h6⟩ := and2 h
      obtain ⟨h, h5⟩ := and2 h
      obtain ⟨h, h4⟩ := and2 h
      obtain ⟨h, h3⟩ := and2 h
      obtain ⟨h1, h2⟩ := and2 h
      obtain rfl := of_decide_eq_true h1
      obtain rfl := of_decide_eq_true h6
      exact e_mxd c.calm rfl (glB_gl c h2).1 (c.blts _ h3) (toB c h4 (sE a S X XW c y h4)) (toB c h7 (sE d S X XW c z h7)) (star_cons h5)
    · cases h
theorem sA : ∀ (es : Es) (S : SC) (X : Cx) (XW : Nat → L2.St → Hp → Prop), CtxOk S cl k X XW → ∀ xs, mEs es S xs = true → PA X xs (uA X.K S.P cl XW es)
  | .nil, S, X, XW, c, xs, h => by
    cases xs with
    | nil => exact a_nil
    | cons _ _ => cases h
  | .cons e es, S, X, XW, c, xs, h => by
    cases xs with
    | nil => cases h
    | cons x xs =>
      obtain ⟨h, h3⟩ := and2 (show (mE e S x && noStar x && mEs es S xs) = true from h)
      obtain ⟨h1, h2⟩ := and2 h
      exact a_cons (star_cons h2) (sE e S X XW c x h1) (sA es S X XW c xs h3)
theorem sBs : ∀ (es : Es) (S : SC) (X : Cx) (XW : Nat → L2.St → Hp → Prop), CtxOk S cl k X XW → ∀ xs, mEs es S xs = true → PA X xs (uBs X.K S.P cl XW es)
  | .nil, S, X, XW, c, xs, h => by
    cases xs with
    | nil => exact b_nil
    | cons _ _ => cases h
  | .cons e es, S, X, XW, c, xs, h => by
    cases xs with
    | nil => cases h
    | cons x xs =>
      obtain ⟨h, h3⟩ := and2 (show (mE e S x && noStar x && mEs es S xs) = true from h)
      obtain ⟨h1, h2⟩ := and2 h
      exact b_cons (star_cons h2) (toB c h1 (sE e S X XW c x h1)) (sBs es S X XW c xs h3)
theorem sAndV : ∀ (es : Es) (S : SC) (X : Cx) (XW : Nat → L2.St → Hp → Prop), CtxOk S cl k X XW → ∀ xs p, mEs es S xs = true → xs ≠ [] → PE X (.BoolOp .And xs p) (uAndV X.K S.P cl XW es)
  | .nil, S, X, XW, c, xs, p, h, hn => by
    cases xs with
    | nil => exact absurd rfl hn
    | cons _ _ => cases h
  | .cons e .nil, S, X, XW, c, xs, p, h, hn => by
    cases xs with
    | nil => exact absurd rfl hn
    | cons x xs =>
      obtain ⟨h, h3⟩ := and2 (show (mE e S x && noStar x && mEs .nil S xs) = true from h)
      obtain ⟨h1, h2⟩ := and2 h
      cases xs with
      | nil => exact v_and1 (sE e S X XW c x h1)
      | cons _ _ => cases h3
  | .cons e (.cons e2 es), S, X, XW, c, xs, p, h, hn => by
    cases xs with
    | nil => exact absurd rfl hn
    | cons x xs =>
      obtain ⟨h, h3⟩ := and2 (show (mE e S x && noStar x && mEs (.cons e2 es) S xs) = true from h)
      obtain ⟨h1, h2⟩ := and2 h
      cases xs with
      | nil => cases h3
      | cons y ys => exact v_and (toB c h1 (sE e S X XW c x h1)) (sAndV (.cons e2 es) S X XW c (y :: ys) p h3 (fun z => by cases z))
theorem sOrV : ∀ (es : Es) (S : SC) (X : Cx) (XW : Nat → L2.St → Hp → Prop), CtxOk S cl k X XW → ∀ xs p, mEs es S xs = true → xs ≠ [] → PE X (.BoolOp .Or xs p) (uOrV X.K S.P cl XW es)
  | .nil, S, X, XW, c, xs, p, h, hn => by
    cases xs with
    | nil => exact absurd rfl hn
    | cons _ _ => cases h
  | .cons e .nil, S, X, XW, c, xs, p, h, hn => by
    cases xs with
    | nil => exact absurd rfl hn
    | cons x xs =>
      obtain ⟨h, h3⟩ := and2 (show (mE e S x && noStar x && mEs .nil S xs) = true from h)
      obtain ⟨h1, h2⟩ := and2 h
      cases xs with
      | nil => exact v_or1 (sE e S X XW c x h1)
      | cons _ _ => cases h3
  | .cons e (.cons e2 es), S, X, XW, c, xs, p, h, hn => by
    cases xs with
    | nil => exact absurd rfl hn
    | cons x xs =>
      obtain ⟨h, h3⟩ := and2 (show (mE e S x && noStar x && mEs (.cons e2 es) S xs) = true from h)
      obtain ⟨h1, h2⟩ := and2 h
      cases xs with
      | nil => cases h3
      | cons y ys => exact v_or (toB c h1 (sE e S X XW c x h1)) (sOrV (.cons e2 es) S X XW c (y :: ys) p h3 (fun z => by cases z))
theorem sT : ∀ (t : T) (S : SC) (X : Cx) (XW : Nat → L2.St → Hp → Prop), CtxOk S cl k X XW → ∀ ex, mT t S ex = true → PT X ex (uT X.K S.P cl XW t)
  | .yes, S, X, XW, c, ex, h => by cases h
  | .val e, S, X, XW, c, ex, h => by
    obtain ⟨h1, h2⟩ := and2 (show (mE e S ex && (plainT ex || isCmp e)) = true from h)
    by_cases hp : plainT ex = true
    · exact t_val rfl (toB c h1 (sE e S X XW c ex h1)) (plain_true hp)
    · have hc : isCmp e = true := by
        rcases Bool.or_eq_true_iff.mp h2 with z | z
        · exact absurd z hp
        · exact z
      cases e with
      | cmp o a b =>
        unfold mE at h1
        split at h1
        · rename_i x op y p
          obtain ⟨h, h4⟩ := and2 h1
          obtain ⟨h, h3⟩ := and2 h
          obtain ⟨h1, h2⟩ := and2 h
          obtain rfl := of_decide_eq_true h1
          exact t_cmp c.hu rfl (by simpa using h2) (toB c h3 (sE a S X XW c x h3)) (toB c h4 (sE b S X XW c y h4))
        · cases h1
      | chn o o' a b d =>
        unfold mE at h1
        split at h1
        · rename_i x op op' y z p
          obtain ⟨h, h6⟩ := and2 h1
          obtain ⟨h, h5⟩ := and2 h
          obtain ⟨h, h4⟩ := and2 h
          obtain ⟨h, h3⟩ := and2 h
          obtain ⟨h8, h9⟩ := and2 h
          obtain rfl := of_decide_eq_true h8
          obtain rfl := of_decide_eq_true h9
          exact t_chn c.hu rfl (by simpa using h3) (toB c h4 (sE a S X XW c x h4)) (toB c h5 (sE b S X XW c y h5)) (toB c h6 (sE d S X XW c z h6))
        · cases h1
      | _ => cases hc
  | .nt t, S, X, XW, c, ex, h => by
    unfold mT at h
    split at h
    · exact t_not (sT t S X XW c _ h)
    · cases h
  | .and ts, S, X, XW, c, ex, h => by
    unfold mT at h
    split at h
    · exact PT.weak (sAll ts S X XW c _ _ h).pt fun σ H Q q => q
    · cases h
  | .or ts, S, X, XW, c, ex, h => by
    unfold mT at h
    split at h
    · exact PT.weak (sAny ts S X XW c _ _ h).pt fun σ H Q q => q
    · cases h
theorem sAll : ∀ (ts : Ts) (S : SC) (X : Cx) (XW : Nat → L2.St → Hp → Prop), CtxOk S cl k X XW → ∀ xs p, mTs ts S xs = true → PW X (.BoolOp .And xs p) (uAll X.K S.P cl XW ts)
  | .one t, S, X, XW, c, xs, p, h => by
    unfold mTs at h
    split at h
    · exact w_and1 (sT t S X XW c _ h)
    · cases h
  | .cons t ts, S, X, XW, c, xs, p, h => by
    cases xs with
    | nil => cases h
    | cons x r =>
      obtain ⟨h1, h2⟩ := and2 (show (mT t S x && mTs ts S r) = true from h)
      cases r with
      | nil => cases ts <;> cases h2
      | cons y r => exact w_and (sT t S X XW c x h1) (sAll ts S X XW c (y :: r) p h2)
theorem sAny : ∀ (ts : Ts) (S : SC) (X : Cx) (XW : Nat → L2.St → Hp → Prop), CtxOk S cl k X XW → ∀ xs p, mTs ts S xs = true → PW X (.BoolOp .Or xs p) (uAny X.K S.P cl XW ts)
  | .one t, S, X, XW, c, xs, p, h => by
    unfold mTs at h
    split at h
    · exact w_or1 (sT t S X XW c _ h)
    · cases h
  | .cons t ts, S, X, XW, c, xs, p, h => by
    cases xs with
    | nil => cases h
    | cons x r =>
      obtain ⟨h1, h2⟩ := and2 (show (mT t S x && mTs ts S r) = true from h)
      cases r with
      | nil => cases ts <;> cases h2
      | cons y r => exact w_or (sT t S X XW c x h1) (sAny ts S X XW c (y :: r) p h2)
theorem sI : ∀ (src : Src) (S : SC) (X : Cx) (XW : Nat → L2.St → Hp → Prop), CtxOk S cl k X XW → ∀ br tx ex, mI src S tx ex = true → PI X tx ex (uI X.K S.P cl XW br src)
  | .seq e, S, X, XW, c, br, tx, ex, h => i_seq rfl (toQ c h (sE e S X XW c ex h))
  | .rng1 a, S, X, XW, c, br, tx, ex, h => by
    unfold mI at h
    split at h
    · rename_i x p y p'
      obtain ⟨h, h5⟩ := and2 h
      obtain ⟨h, h4⟩ := and2 h
      obtain ⟨h, h3⟩ := and2 h
      obtain ⟨h1, h2⟩ := and2 h
      obtain rfl := of_decide_eq_true h1
      exact i_rng1 (glB_gl c h2).1 (c.blts _ h3) (star_cons h5) (toB c h4 (sE a S X XW c y h4))
    · cases h
  | .rng2 a b, S, X, XW, c, br, tx, ex, h => by
    unfold mI at h
    split at h
    · rename_i x p y z p'
      obtain ⟨h, h7⟩ := and2 h
      obtain ⟨h, h6⟩ := and2 h
      obtain ⟨h, h5⟩ := and2 h
      obtain ⟨h, h4⟩ := and2 h
      obtain ⟨h, h3⟩ := and2 h
      obtain ⟨h1, h2⟩ := and2 h
      obtain rfl := of_decide_eq_true h1
      exact i_rng2 (glB_gl c h2).1 (c.blts _ h3) (by rw [star_cons h5, star_cons h7]; rfl) (star_cons h7) (toB c h4 (sE a S X XW c y h4)) (toB c h6 (sE b S X XW c z h6))
    · cases h
  | .rng3 a b d, S, X, XW, c, br, tx, ex, h => by
    unfold mI at h
    split at h
    · rename_i x p y z w p'
      obtain ⟨h, h9⟩ := and2 h
      obtain ⟨h, h8⟩ := and2 h
      obtain ⟨h, h7⟩ := and2 h
      obtain ⟨h, h6⟩ := and2 h
      obtain ⟨h, h5⟩ := and2 h
      obtain ⟨h, h4⟩ := and2 h
      obtain ⟨h, h3⟩ := and2 h
      obtain ⟨h1, h2⟩ := and2 h
      obtain rfl := of_decide_eq_true h1
      exact i_rng3 (glB_gl c h2).1 (c.blts _ h3) (star_cons h9) (star_cons h7) (star_cons h5) (toB c h4 (sE a S X XW c y h4)) (toB c h6 (sE b S X XW c z h6)) (toB c h8 (sE d S X XW c w h8))
    · cases h
  | .zip a b, S, X, XW, c, br, tx, ex, h => by
    unfold mI at h
    obtain ⟨ht, h⟩ := and2 h
    split at h
    · rename_i x y z p p'
      obtain ⟨h, h7⟩ := and2 h
      obtain ⟨h, h6⟩ := and2 h
      obtain ⟨h, h5⟩ := and2 h
      obtain ⟨h, h4⟩ := and2 h
      obtain ⟨h, h3⟩ := and2 h
      obtain ⟨h1, h2⟩ := and2 h
      obtain rfl := of_decide_eq_true h1
      cases tx with
      | Tuple elts kk tp => exact i_zip rfl (glB_gl c h2).1 (c.blts _ h3) (star_cons h5) (star_cons h7) (toQ c h4 (sE a S X XW c y h4)) (toQ c h6 (sE b S X XW c z h6))
      | _ => cases ht
    · cases h
  | .zps a b, S, X, XW, c, br, tx, ex, h => by
    unfold mI at h
    obtain ⟨ht, h⟩ := and2 h
    split at h
    · rename_i x y z p p'
      obtain ⟨h, h7⟩ := and2 h
      obtain ⟨h, h6⟩ := and2 h
      obtain ⟨h, h5⟩ := and2 h
      obtain ⟨h, h4⟩ := and2 h
      obtain ⟨h, h3⟩ := and2 h
      obtain ⟨h1, h2⟩ := and2 h
      obtain rfl := of_decide_eq_true h1
      cases tx with
      | Tuple elts kk tp => exact i_zps rfl (glB_gl c h2).1 (c.blts _ h3) (star_cons h5) (star_cons h7) (toQ c h4 (sE a S X XW c y h4)) (toQ c h6 (sE b S X XW c z h6))
      | _ => cases ht
    · cases h
  | .zip3 a b d, S, X, XW, c, br, tx, ex, h => by
    unfold mI at h
    obtain ⟨ht, h⟩ := and2 h
    split at h
    · rename_i x y z w p p'
      obtain ⟨h, h9⟩ := and2 h
      obtain ⟨h, h8⟩ := and2 h
      obtain ⟨h, h7⟩ := and2 h
      obtain ⟨h, h6⟩ := and2 h
      obtain ⟨h, h5⟩ := and2 h
      obtain ⟨h, h4⟩ := and2 h
      obtain ⟨h, h3⟩ := and2 h
      obtain ⟨h1, h2⟩ := and2 h
      obtain rfl := of_decide_eq_true h1
      cases tx with
      | Tuple elts kk tp => exact i_zip3 rfl (glB_gl c h2).1 (c.blts _ h3) (star_cons h5) (star_cons h7) (star_cons h9) (toQ c h4 (sE a S X XW c y h4)) (toQ c h6 (sE b S X XW c z h6)) (toQ c h8 (sE d S X XW c w h8))
      | _ => cases ht
    · cases h
  | .enm a, S, X, XW, c, br, tx, ex, h => by
    unfold mI at h
    obtain ⟨ht, h⟩ := and2 h
    split at h
    · rename_i x y p p'
      obtain ⟨h, h5⟩ := and2 h
      obtain ⟨h, h4⟩ := and2 h
      obtain ⟨h, h3⟩ := and2 h
      obtain ⟨h1, h2⟩ := and2 h
      obtain rfl := of_decide_eq_true h1
      cases tx with
      | Tuple elts kk tp => exact i_enm rfl (glB_gl c h2).1 (c.blts _ h3) (star_cons h5) (toQ c h4 (sE a S X XW c y h4))
      | _ => cases ht
    · cases h
  | .rev a, S, X, XW, c, br, tx, ex, h => by
    unfold mI at h
    split at h
    · rename_i x p y p'
      obtain ⟨h, h5⟩ := and2 h
      obtain ⟨h, h4⟩ := and2 h
      obtain ⟨h, h3⟩ := and2 h
      obtain ⟨h1, h2⟩ := and2 h
      obtain rfl := of_decide_eq_true h1
      exact i_rev rfl (glB_gl c h2).1 (c.blts _ h3) (star_cons h5) (toQ c h4 (sE a S X XW c y h4))
    · cases h
end
end
end Ev
namespace Ev
open PySem PySem.Spec
open PyProof.Rows L2
def augOp : BOp → Operator → Bool
  | .add, .Add => true
  | .sub, .Sub => true
  | .mul, .Mult => true
  | _, _ => false
def swB (S : SC) (x : Str) (p0 : Pos) : Expr → Bool
  | .ListComp _ _ scope pos => decide (S.sc.names.lookup x = some .local) && (p0.line == pos.line) && !(scope.names.any fun (n, k) => n == x && (k == .local || k == .cell))
  | _ => false
def parB (S : SC) (i j : Nat) (x y : Str) (px py : Pos) (u v : Expr) : Bool :=
  decide (S.N[i]? = some x) && decide (S.N[j]? = some y) && decide (i ≠ j) && decide (x ≠ y) && decide (S.sc.names.lookup x = some .local) && decide (S.sc.names.lookup y = some .local) && noStar u && noStar v && (py.line == px.line) && !([u, v].all (foldedForSure 8)) && !([u, v].all (constantsAlone 8))
def methB (S : SC) (i : Nat) (m : Str) (e : E) : Expr → Bool
  | .Call (.Attribute o x apos) [ex] [] cpos => decide (x = m) && mVar S i o && mE e S ex && noStar ex && (apos.endLine == cpos.line)
  | _ => false
def methI (S : SC) (i : Nat) (e : E) : Expr → Bool
  | .Call (.Attribute o x apos) [.Constant (.int 0) _ _, ex] [] cpos => decide (x = "insert") && mVar S i o && mE e S ex && noStar ex && (apos.endLine == cpos.line)
  | _ => false
def mHs (S : SC) : List (Nat × Const) → List ExceptHandler → Bool
  | [], [] => true
  | (h, d) :: r, .ExceptHandler (some (.Name x _)) none [.Return (some (.Constant d' _ _)) _] _ :: q => glB S x && decide (S.P.excs[h]? = some x) && decide (d' = d) && (match constD d with | .ok (.sh _) => true | _ => false) && mHs S r q
  | _, _ => false
mutual
def mS : S → SC → Stmt → Bool
  | .asg i e, S, st => (match st with | .Assign [.Name x p0] ex _ => mNm S i (.Name x p0) && mE e S ex && (noComp ex || (match e with | .lc .. => true | .lc2 .. => true | _ => false)) | _ => false)
  | .tasg is e, S, st => (match st with | .Assign [tx] ex _ => mTg S (.tp is) tx && mE e S ex && noTup ex | _ => false)
  | .par i j a b, S, st => (match st with | .Assign [.Tuple [.Name x px, .Name y py] _ _] (.Tuple [u, v] _ _) _ => parB S i j x y px py u v && mE a S u && mE b S v | _ => false)
  | .aug i o e, S, st => (match st with | .AugAssign (.Name x p0) op ex _ => mNm S i (.Name x p0) && augOp o op && mE e S ex | _ => false)
  | .ifs c a b, S, st => (match st with | .If x sa sb _ => mT c S x && mB a S sa && mB b S sb | _ => false)
  | .for tg src b, S, st => (match st with | .For tx it sb [] _ => mTg S tg tx && mI src S tx it && noSet it && mB b S sb | _ => false)
  | .whl c b, S, st => (match st with | .While x sb [] _ => mT c S x && mB b S sb | _ => false)
  | .ret e, S, st => (match st with | .Return (some ex) _ => mE e S ex | _ => false)
  | .retN, _, st => (match st with | .Return none _ => true | _ => false)
  | .ex e, S, st => (match st with | .Expr ex _ => mE e S ex && noComp ex | _ => false)
  | .app i e, S, st => (match st with | .Expr ex _ => methB S i "append" e ex | _ => false)
  | .ins i e, S, st => (match st with | .Expr ex _ => methI S i e ex | _ => false)
  | .ext i e, S, st => (match st with | .Expr ex _ => methB S i "extend" e ex | _ => false)
  | .sset i k e, S, st => (match st with | .Assign [.Subscript o ix _] ex _ => mVar S i o && mE k S ix && mE e S ex && noSlice ix | _ => false)
  | .pop i, S, st => (match st with | .Expr (.Call (.Attribute o x apos) [] [] cpos) _ => decide (x = "pop") && mVar S i o && (apos.endLine == cpos.line) | _ => false)
  | .swp i k1 k2 e, S, st => (match st with | .Assign [.Tuple [.Subscript o1 ix1 _, .Subscript o2 ix2 _] _ _] ex _ => mVar S i o1 && mVar S i o2 && mE k1 S ix1 && mE k2 S ix2 && mE e S ex && noSlice ix1 && noSlice ix2 | _ => false)
  | .brk, _, st => (match st with | .Break _ => true | _ => false)
  | .cnt, _, st => (match st with | .Continue _ => true | _ => false)
  | .pass, _, st => (match st with | .Pass _ => true | _ => false)
  | .never, _, _ => true
  | .dset i k e, S, st => (match st with | .Assign [.Subscript o ix _] ex _ => mVar S i o && mE k S ix && mE e S ex && noComp ex | _ => false)
  | .mutS f i es, S, st => (match st with | .Expr (.Call (.Name x _) (o :: xs) [] _) _ => glB S x && (match S.P.defs[f]? with | some d => decide (d.glo = x) && decide (es.len + 1 = d.ps.length) && d.mu | none => false) && mVar S i o && noStar o && mEs es S xs | _ => false)
  | .tryR b hs, S, st => (match st with | .Try sb hds [] [] _ => mB b S sb && mHs S hs hds && !hs.isEmpty | _ => false)
  | .raise c, S, st => (match st with | .Raise (some (.Call (.Name x _) [.Constant (.str _) _ _] [] _)) none _ => glB S x && decide (S.P.excs[c]? = some x) | _ => false)
def mB : B → SC → List Stmt → Bool
  | .nil, _, l => (match l with | [] => true | _ => false)
  | .cons s b, S, l => (match l with | st :: r => mS s S st && mB b S r | _ => false)
  | .pub _ b, S, l => mB b S l
end
def mMut (b : B) (S : SC) (l : List Stmt) : Bool := match b, l with
  | .cons (.dset 0 k e) .nil, [.Assign [.Subscript o ix _] ex _] => mVar S 0 o && mE k S ix && mE e S ex && noComp ex
  | _, _ => false
section
variable {cl : Nat → List PyData → Out W} {k fu : Nat}
theorem sw_no {ex : Expr} {t : Option Expr} {l : Nat} {env : PySem.Env} (h : noComp ex = true) : swapsWith ex t l env = pure false := by
  cases ex <;> first | rfl | cases h
theorem sw_tup {xs : List Expr} {kk : Nat} {p : Pos} {ex : Expr} {l : Nat} {env : PySem.Env} : swapsWithSole [.Tuple xs kk p] ex l env = pure false := by
  cases ex <;> rfl
theorem sw_sub {o ix : Expr} {p : Pos} {ex : Expr} {l : Nat} {env : PySem.Env} : swapsWithSole [.Subscript o ix p] ex l env = pure false := by
  cases ex <;> rfl
theorem st_tup {xs : List Expr} {kk : Nat} {p : Pos} {ex : Expr} {env : PySem.Env} (h : noTup ex = true) : swappedStores [.Tuple xs kk p] ex env = pure none := by
  cases ex <;> first | rfl | cases h
theorem st_two {o1 i1 o2 i2 : Expr} {p1 p2 p : Pos} {kk : Nat} {ex : Expr} {env : PySem.Env} : swappedStores [.Tuple [.Subscript o1 i1 p1, .Subscript o2 i2 p2] kk p] ex env = pure none := by
  cases ex <;> first | rfl | skip
  unfold swappedStores
  simp only [List.filterMap_cons, List.filterMap_nil]
  simp
theorem st_sub {o ix : Expr} {p : Pos} {ex : Expr} {env : PySem.Env} : swappedStores [.Subscript o ix p] ex env = pure none := by
  cases ex <;> rfl
theorem sw_lc {S : SC} {X : Cx} {XW : Nat → L2.St → Hp → Prop} (c : CtxOk S cl k X XW) {el : Expr} {gs : List Comprehension} {scope : Scope} {pos p0 : Pos} {x : Str} {l : Nat} :
    swapsWith (.ListComp el gs scope pos) (some (.Name x p0)) l X.env = pure (swB S x p0 (.ListComp el gs scope pos)) := by
  have hb : (X.env.blockKind == ScopeKind.function) = true := by
    unfold PySem.Env.blockKind
    rw [c.hsc, c.kf]; rfl
  have hk : (X.env.kindOf x == some NameKind.local) = decide (S.sc.names.lookup x = some .local) := by
    show (X.env.scope.names.lookup x == some NameKind.local) = _
    rw [c.hsc]
    by_cases h : S.sc.names.lookup x = some .local
    · rw [h]; rfl
    · rw [decide_eq_false h]; exact beq_eq_false_iff_ne.mpr h
  unfold swapsWith swB
  simp only [hb, hk, Expr.pos, Bool.true_and]
theorem par_sw {S : SC} {X : Cx} {XW : Nat → L2.St → Hp → Prop} (c : CtxOk S cl k X XW) {i j : Nat} {x y : Str} {px py pt pt2 : Pos} {u v : Expr} {kt k2 : Nat} (h : parB S i j x y px py u v = true) :
    swappedStores [.Tuple [.Name x px, .Name y py] kt pt] (.Tuple [u, v] k2 pt2) X.env = pure (some [x, y]) := by
  unfold parB at h
  obtain ⟨h, h11⟩ := and2 h
  obtain ⟨h, h10⟩ := and2 h
  obtain ⟨h, h9⟩ := and2 h
  obtain ⟨h, h8⟩ := and2 h
  obtain ⟨h, h7⟩ := and2 h
  obtain ⟨h, h6⟩ := and2 h
  obtain ⟨h, h5⟩ := and2 h
  obtain ⟨h, h4⟩ := and2 h
  have hb : (X.env.blockKind != ScopeKind.function) = false := by
    unfold PySem.Env.blockKind
    rw [c.hsc, c.kf]; rfl
  have k1 : (X.env.kindOf x == some NameKind.local) = true := by
    show (X.env.scope.names.lookup x == some NameKind.local) = true
    rw [c.hsc, of_decide_eq_true h5]; rfl
  have k2 : (X.env.kindOf y == some NameKind.local) = true := by
    show (X.env.scope.names.lookup y == some NameKind.local) = true
    rw [c.hsc, of_decide_eq_true h6]; rfl
  have hxy : (x == y) = false := beq_eq_false_iff_ne.mpr (of_decide_eq_true h4)
  have hyx : (y == x) = false := beq_eq_false_iff_ne.mpr fun z => of_decide_eq_true h4 z.symm
  have s1 : (match u with | .Starred .. => true | _ => false) = false := by cases u <;> first | rfl | cases h7
  have s2 : (match v with | .Starred .. => true | _ => false) = false := by cases v <;> first | rfl | cases h8
  have e10 : [u, v].all (foldedForSure 8) = false := by cases q : [u, v].all (foldedForSure 8) <;> first | rfl | (rw [q] at h10; cases h10)
  have e11 : [u, v].all (constantsAlone 8) = false := by cases q : [u, v].all (constantsAlone 8) <;> first | rfl | (rw [q] at h11; cases h11)
  have e9 : py.line = px.line := by simpa using h9
  have e12 : ([x, y].eraseDups.length != 2) = false := by
    have : [x, y].eraseDups = [x, y] := by simp [List.eraseDups_cons, hyx, hxy]
    rw [this]; rfl
  unfold swappedStores
  simp only [List.length_cons, List.length_nil, hb, List.any_cons, List.any_nil, s1, s2, List.filterMap_cons, List.filterMap_nil, k1, k2, List.head?_cons, Option.map_some, Option.getD_some, Expr.pos, e9, beq_self_eq_true, Bool.and_self, if_true, e10, e11]
  simp [e12]
  intro hh
  exfalso
  rcases hh with hh | hh
  · cases u <;> first | (cases h7; done) | cases hh
  · cases v <;> first | (cases h8; done) | cases hh
theorem lc_open {S : SC} {X : Cx} {XW : Nat → L2.St → Hp → Prop} (c : CtxOk S cl k X XW) {src : Src} {tg : Tg} {own : List (Str × Nat)} {cc : T} {elt : E} {ex : Expr} (h : mE (.lc src tg own cc elt) S ex = true) :
    ∃ el tx it ifs scope p, ex = .ListComp el [⟨tx, it, ifs, 0⟩] scope p ∧ BlkOk X.N X.env.scope scope own ∧ PI X tx it (uI X.K S.P cl XW true src) ∧ (∀ x, foldedSetIterable it X.env x = pure x) ∧
      (∀ (s : Shared) (H : Hp) (C : Addr) (cl' : List (Str × Addr)) (fp : List Addr), PG (X.blk s H scope (compEnvC scope cl' C X.env) fp) tx (gT X.K tg)) ∧
      (∀ (s : Shared) (H : Hp) (C : Addr) (cl' : List (Str × Addr)) (fp : List Addr), PTs (X.blk s H scope (compEnvC scope cl' C X.env) fp) ifs (uT X.K S.P cl XF cc)) ∧
      (∀ (s : Shared) (H : Hp) (C : Addr) (cl' : List (Str × Addr)) (fp : List Addr), PE (X.blk s H scope (compEnvC scope cl' C X.env) fp) el (uE X.K S.P cl XF elt)) ∧
      ∀ σ H Q, uE X.K S.P cl XW (.lc src tg own cc elt) σ H Q → tLc (uI X.K S.P cl XW true src) (gT X.K tg) (uT X.K S.P cl XF cc) (uE X.K S.P cl XF elt) (own.map (·.2)) σ H Q := by
  unfold mE at h
  split at h
  · rename_i el tx it ifs as scope p
    obtain ⟨h, h8⟩ := and2 h
    obtain ⟨h, h7⟩ := and2 h
    obtain ⟨h, h6⟩ := and2 h
    obtain ⟨h, h5⟩ := and2 h
    obtain ⟨h, h4⟩ := and2 h
    obtain ⟨h, h3⟩ := and2 h
    obtain ⟨h1, h2⟩ := and2 h
    obtain rfl := of_decide_eq_true h1
    have bk : BlkOk X.N X.env.scope scope own := by
      rw [c.hN, c.hsc]
      exact blkOk_by h2
    have hv : ∀ i ∈ tg.ixs, i ∈ own.map (·.2) := fun i hi => by
      have := List.all_eq_true.mp h3 i hi
      simpa using this
    have hg : ∀ (s : Shared) (H : Hp) (C : Addr) (cl' : List (Str × Addr)) (fp : List Addr), PG (X.blk s H scope (compEnvC scope cl' C X.env) fp) tx (gT X.K tg) := fun s H C cl' fp => mTg_ok (c.blk bk.kind) h6
    have ht : ∀ (s : Shared) (H : Hp) (C : Addr) (cl' : List (Str × Addr)) (fp : List Addr), PTs (X.blk s H scope (compEnvC scope cl' C X.env) fp) ifs (uT X.K S.P cl XF cc) := fun s H C cl' fp => by
      split at h7
      · have : cc = .yes := by cases cc <;> first | rfl | cases h7
        subst this
        exact ⟨fun pins s σ H Q I ⟨Wd, u, ρ, R, p⟩ => pts_nil.run pins s σ H Q I (p H (Same.refl H))⟩
      · exact pts_one (sT cc (S.blk scope) _ XF (c.blk bk.kind) _ (and2 h7).2)
      · cases h7
    have he : ∀ (s : Shared) (H : Hp) (C : Addr) (cl' : List (Str × Addr)) (fp : List Addr), PE (X.blk s H scope (compEnvC scope cl' C X.env) fp) el (uE X.K S.P cl XF elt) := fun s H C cl' fp => sE elt (S.blk scope) _ XF (c.blk bk.kind) _ h8
    have hi := sI src S X XW c true tx it h4
    exact ⟨el, tx, it, ifs, scope, p, rfl, bk, hi, noSet_ok h5, hg, ht, he, e_lc (pos := p) rfl c.calm (by rw [c.hN]; exact c.nd) hv hi bk hg ht he⟩
  · cases h
theorem lc2_open {S : SC} {X : Cx} {XW : Nat → L2.St → Hp → Prop} (c : CtxOk S cl k X XW) {src src2 : Src} {tg tg2 : Tg} {own own2 : List (Str × Nat)} {elt : E} {ex : Expr} (h : mE (.lc2 src tg src2 tg2 own own2 elt) S ex = true) :
    ∃ el tx it tx2 it2 scope p, ex = .ListComp el [⟨tx, it, [], 0⟩, ⟨tx2, it2, [], 0⟩] scope p ∧ (∀ {i : Nat} {y : Str} {py : Pos} {spos : Pos}, X.N[i]? = some y → X.env.scope.names.lookup y = some .local → swapsWith ex (some (.Name y py)) spos.line X.env = pure true →
      PS X (.Assign [.Name y py] ex spos) (tAsg (tLc2 (uI X.K S.P cl XW true src) (gT X.K tg) tYesB (uI X.K S.P cl XF false src2) (gT X.K tg2) tYesB (uE X.K S.P cl XF elt) (own.map (·.2)) (own2.map (·.2))) (gName i))) ∧
      ∀ σ H Q, uE X.K S.P cl XW (.lc2 src tg src2 tg2 own own2 elt) σ H Q → tLc2 (uI X.K S.P cl XW true src) (gT X.K tg) tYesB (uI X.K S.P cl XF false src2) (gT X.K tg2) tYesB (uE X.K S.P cl XF elt) (own.map (·.2)) (own2.map (·.2)) σ H Q := by
  unfold mE at h
  split at h
  · rename_i el tx it as tx2 it2 as2 scope p
    obtain ⟨h, h13⟩ := and2 h
    obtain ⟨h, h12⟩ := and2 h
    obtain ⟨h, h11⟩ := and2 h
    obtain ⟨h, h10⟩ := and2 h
    obtain ⟨h, h9⟩ := and2 h
    obtain ⟨h, h8⟩ := and2 h
    obtain ⟨h, h7⟩ := and2 h
    obtain ⟨h, h6⟩ := and2 h
    obtain ⟨h, h5⟩ := and2 h
    obtain ⟨h, h4⟩ := and2 h
    obtain ⟨h, h3⟩ := and2 h
    obtain ⟨h1, h2⟩ := and2 h
    obtain rfl := of_decide_eq_true h1
    obtain rfl := of_decide_eq_true h2
    have bk : BlkOk X.N X.env.scope scope own := by
      rw [c.hN, c.hsc]
      exact blkOk_by h3
    have hv : ∀ i ∈ tg.ixs, i ∈ own.map (·.2) := fun i hi => by
      have := List.all_eq_true.mp h4 i hi
      simpa using this
    have hv2 : ∀ i ∈ tg2.ixs, i ∈ own2.map (·.2) := fun i hi => by
      have := List.all_eq_true.mp h5 i hi
      simpa using this
    have h21 : ∀ i ∈ own2.map (·.2), i ∈ own.map (·.2) := fun i hi => by
      have := List.all_eq_true.mp h6 i hi
      simpa using this
    exact ⟨el, tx, it, tx2, it2, scope, p, rfl, fun hi hl hsw => ps_setLc2 c.calm (by rw [c.hN]; exact c.nd) hi hl hsw (sI src S X XW c true tx it h7) bk h21 (fun s H C cl' fp => mTg_ok (c.blk bk.kind) h9) (fun s H C cl' fp => pts_yes) (fun s H C cl' fp => sI src2 (S.blk scope) _ XF (c.blk bk.kind) false tx2 it2 h10) (fun s H C cl' fp => mTg_ok (c.blk bk.kind) h12) (fun s H C cl' fp => pts_yes) (fun s H C cl' fp => sE elt (S.blk scope) _ XF (c.blk bk.kind) _ h13) (noSet_ok h8) (fun env => noSet_ok h11), e_lc2 hv hv2 h21⟩
  · cases h
structure Fr (X : Cx) : Prop where
  po : PassesOwn (model X.prog X.w) X.A X.env X.xe
  st : X.stack = X.env :: X.outer
  fr : X.env.frame = some X.env.locals
theorem CtxOk.tr {S : SC} {X : Cx} {XW : Nat → L2.St → Hp → Prop} (c : CtxOk S cl k X XW) (pn : List (Addr × Obj)) (xe : Value → Shared → Prop) {W : WX} (t : Takes (X.tr pn xe) W) : CtxOk S cl k (X.tr pn xe) (fun c σ H => ∀ cls d, XIs S.P X.mg c cls → W cls d σ H) :=
  ⟨c.hN, c.hsc, c.kf, c.nd, c.fnc, c.calm, c.room, Takes.imp t fun cls d σ H ⟨_, z1, z2⟩ => z2 cls d z1, c.muts, c.defs, c.blts, c.maths, c.consts, c.excs, c.subs⟩
theorem hds_ok {S : SC} {X : Cx} {XW : Nat → L2.St → Hp → Prop} (c : CtxOk S cl k X XW) : ∀ (hs : List (Nat × Const)) (hds : List ExceptHandler), mHs S hs hds = true →
    ∃ l, HdsOk X hds l ∧ ∀ (e : Nat) (ρ' : Env) (D : Ends) (Wd : Msk) (u : Nat → Option Addr) (H : Hp), pS X.K XW (catchR S.P e ρ' hs) D Wd u H → ∀ u' σ' H', Rep X.K Wd u' ρ' σ' H' → Tr u H u' H' → ∀ cls d, XIs S.P X.mg e cls → wMany X.K (fun cls d σ H => ∃ c, XIs S.P X.mg c cls ∧ XW c σ H) D l cls d σ' H'
  | [], [], _ => ⟨[], .nil, fun e ρ' D Wd u H p u' σ' H' R t cls d x => ⟨e, x, p u' σ' H' R t⟩⟩
  | [], _ :: _, h => by cases h
  | p :: r, hds, h => by
    unfold mHs at h
    split at h
    · rename_i e1 e2; cases e2
    · rename_i n d r' x p1 d' j p2 p3 p4 q e1
      cases e1
      obtain ⟨h, h5⟩ := and2 h
      obtain ⟨h, h4⟩ := and2 h
      obtain ⟨h, h3⟩ := and2 h
      obtain ⟨h1, h2⟩ := and2 h
      obtain rfl := of_decide_eq_true h3
      have ex := of_decide_eq_true h2
      obtain ⟨g1, g2, g3⟩ := glB_gl c h1
      obtain ⟨C, f⟩ := c.excs _ _ ex
      obtain ⟨l, ok, red⟩ := hds_ok c r q h5
      obtain ⟨v, hv, pv⟩ : ∃ v, (∃ x, constD d' = .ok (.sh x) ∧ ∀ K H, De K H v x) ∧ ∀ X : Cx, PE X (.Constant d' j p2) (tC v) := by
        cases d' with
        | none => exact ⟨.non, ⟨_, rfl, fun _ _ => .non⟩, fun X => pe_non⟩
        | bool b => exact ⟨.bl b, ⟨_, rfl, fun _ _ => .bl b⟩, fun X => pe_bl⟩
        | int b => exact ⟨.int b, ⟨_, rfl, fun _ _ => .int b⟩, fun X => pe_int⟩
        | str b => exact ⟨.str b, ⟨_, rfl, fun _ _ => .str b⟩, fun X => pe_str⟩
        | _ => cases h4
      refine ⟨(.ref C, fun _ _ _ D σ H => D.rt v H) :: l, .cons ⟨g1, g2, .inl f.gC⟩ (fun a oe cls d pn _ _ => pss_one (PS.weak (ps_ret (pv _)) fun _ _ _ z => z)) ok, fun e ρ' D Wd u H p u' σ' H' R t cls dd x => ?_⟩
      obtain ⟨y, C', ey, gy, rfl⟩ := x
      refine ⟨_, c.subs e n y x C' C ey ex gy f.gC, fun hb a ha => ?_, fun hb => ?_⟩
      · obtain ⟨z, hz, hd⟩ := hv
        have p : pS X.K XW (if S.P.subs.contains (e, n) then (match constD d' with | .ok w => .ret w | _ => .stuck) else catchR S.P e ρ' r) D Wd u H := p
        rw [if_pos hb, hz] at p
        exact p v H' ⟨t.keep, t.dom, fun j b z => by cases z⟩ (hd _ _)
      · have p : pS X.K XW (if S.P.subs.contains (e, n) then (match constD d' with | .ok w => .ret w | _ => .stuck) else catchR S.P e ρ' r) D Wd u H := p
        rw [if_neg (by rw [hb]; decide)] at p
        exact red e ρ' D Wd u H p u' σ' H' R t _ dd ⟨y, C', ey, gy, rfl⟩
    · cases h
mutual
theorem sS : ∀ (s : S) (S : SC) (X : Cx) (XW : Nat → L2.St → Hp → Prop), CtxOk S cl k X XW → Fr X → ∀ st, mS s S st = true → PS X st (uS X.K S.P cl XW fu s)
  | .asg i e, S, X, XW, c, hp, st, h => by
    unfold mS at h
    split at h
    · rename_i x p0 ex pos
      obtain ⟨h, h3⟩ := and2 h
      obtain ⟨h1, h2⟩ := and2 h
      obtain ⟨k1, k2⟩ := and2 (show ((decide (S.N[i]? = some x) && locB S x) && okName x) = true from h1)
      obtain ⟨k1, k3⟩ := and2 k1
      have hN : X.N.Nodup := by rw [c.hN]; exact c.nd
      have hi : X.N[i]? = some x := by rw [c.hN]; exact of_decide_eq_true k1
      obtain ⟨l1, l2⟩ := locB_loc c k3
      by_cases hc : noComp ex = true
      · exact s_asg (ps_set hN hi l1 (sE e S X XW c ex h2) (sw_no hc) l2) fun _ _ _ q => q
      · have h3 := (Bool.or_eq_true_iff.mp h3).resolve_left hc
        cases e with
        | lc src tg own cc elt =>
          obtain ⟨el, tx, it, ifs, scope, p, rfl, bk, pi, hs, hg, ht, he, red⟩ := lc_open c h2
          by_cases hb : swB S x p0 (.ListComp el [⟨tx, it, ifs, 0⟩] scope p) = true
          · have hl : X.env.scope.names.lookup x = some .local := by
              rw [c.hsc]
              exact of_decide_eq_true (and2 (and2 hb).1).1
            exact s_asg (ps_setLc c.calm hN hi hl (by rw [sw_lc c, hb]) pi bk hg ht he hs) red
          · have hb : swB S x p0 (.ListComp el [⟨tx, it, ifs, 0⟩] scope p) = false := by simpa using hb
            exact s_asg (ps_set hN hi l1 (sE _ S X XW c _ h2) (by rw [sw_lc c, hb]) l2) fun _ _ _ q => q
        | lc2 src tg src2 tg2 own own2 elt =>
          obtain ⟨el, tx, it, tx2, it2, scope, p, rfl, pi, red⟩ := lc2_open c h2
          by_cases hb : swB S x p0 (.ListComp el [⟨tx, it, [], 0⟩, ⟨tx2, it2, [], 0⟩] scope p) = true
          · have hl : X.env.scope.names.lookup x = some .local := by
              rw [c.hsc]
              exact of_decide_eq_true (and2 (and2 hb).1).1
            exact s_asg (pi hi hl (by rw [sw_lc c, hb])) red
          · have hb : swB S x p0 (.ListComp el [⟨tx, it, [], 0⟩, ⟨tx2, it2, [], 0⟩] scope p) = false := by simpa using hb
            exact s_asg (ps_set hN hi l1 (sE _ S X XW c _ h2) (by rw [sw_lc c, hb]) l2) fun _ _ _ q => q
        | _ => cases h3
    · cases h
  | .tasg is e, S, X, XW, c, hp, st, h => by
    unfold mS at h
    split at h
    · rename_i tx ex pos
      obtain ⟨h, h3⟩ := and2 h
      obtain ⟨h1, h2⟩ := and2 h
      cases tx with
      | Tuple xs kk p => exact s_tasg (ex := ex) (ps_asg (toQ c h2 (sE e S X XW c ex h2)) (mTg_ok c h1) sw_tup (st_tup h3) rfl) rfl
      | _ => cases h1
    · cases h
  | .par i j a b, S, X, XW, c, hp, st, h => by
    unfold mS at h
    split at h
    · rename_i x px y py kt pt u v k2 pt2 pos
      obtain ⟨h, h3⟩ := and2 h
      obtain ⟨h1, h2⟩ := and2 h
      have h1' := h1
      unfold parB at h1'
      obtain ⟨h, h11⟩ := and2 h1'
      obtain ⟨h, h10⟩ := and2 h
      obtain ⟨h, h9⟩ := and2 h
      obtain ⟨h, h8⟩ := and2 h
      obtain ⟨h, h7⟩ := and2 h
      obtain ⟨h, h6⟩ := and2 h
      obtain ⟨h, h5⟩ := and2 h
      obtain ⟨h, h4⟩ := and2 h
      obtain ⟨h, hij⟩ := and2 h
      obtain ⟨g1, g2⟩ := and2 h
      exact s_par (xs := [u, v]) (ps_par c.calm (by rw [c.hN]; exact c.nd) (by rw [c.hN]; exact of_decide_eq_true g1) (by rw [c.hN]; exact of_decide_eq_true g2) (of_decide_eq_true hij) (by rw [c.hsc]; exact of_decide_eq_true h5) (by rw [c.hsc]; exact of_decide_eq_true h6)
        (a_cons (star_cons h7) (sE a S X XW c u h2) (a_cons (star_cons h8) (sE b S X XW c v h3) a_nil)) (par_sw c h1) sw_tup)
    · cases h
  | .aug i o e, S, X, XW, c, hp, st, h => by
    unfold mS at h
    split at h
    · rename_i x p0 op ex pos
      obtain ⟨h, h3⟩ := and2 h
      obtain ⟨h1, h2⟩ := and2 h
      obtain ⟨k1, k2⟩ := and2 (show ((decide (S.N[i]? = some x) && locB S x) && okName x) = true from h1)
      obtain ⟨k1, k3⟩ := and2 k1
      obtain ⟨l1, l2⟩ := locB_loc c k3
      have ho : (o = .add ∧ op = .Add) ∨ (o = .sub ∧ op = .Sub) ∨ (o = .mul ∧ op = .Mult) := by
        cases o <;> cases op <;> first | (cases h2; done) | exact .inl ⟨rfl, rfl⟩ | exact .inr (.inl ⟨rfl, rfl⟩) | exact .inr (.inr ⟨rfl, rfl⟩)
      exact s_aug (ps_aug (by rw [c.hN]; exact c.nd) (by rw [c.hN]; exact of_decide_eq_true k1) l1 (toB c h3 (sE e S X XW c ex h3)) (ip_ok ho) l2) fun M d d' x y H Q h1 h2 h3 h4 => ⟨M, d, d', h1, h2, h3, h4⟩
    · cases h
  | .ifs t a b, S, X, XW, c, hp, st, h => by
    unfold mS at h
    split at h
    · rename_i x sa sb pos
      obtain ⟨h, h3⟩ := and2 h
      obtain ⟨h1, h2⟩ := and2 h
      exact s_ifs (sT t S X XW c x h1) (sB a S X XW c hp sa h2) (sB b S X XW c hp sb h3)
    · cases h
  | .for tg src b, S, X, XW, c, hp, st, h => by
    unfold mS at h
    split at h
    · rename_i tx it sb pos
      obtain ⟨h, h4⟩ := and2 h
      obtain ⟨h, h3⟩ := and2 h
      obtain ⟨h1, h2⟩ := and2 h
      exact s_for hp.po c.calm (sI src S X XW c false tx it h2) (mTg_ok c h1) (sB b S X XW c hp sb h4) (noSet_ok h3)
    · cases h
  | .whl t b, S, X, XW, c, hp, st, h => by
    unfold mS at h
    split at h
    · rename_i x sb pos
      obtain ⟨h1, h2⟩ := and2 h
      exact s_whl hp.po (sT t S X XW c x h1) (sB b S X XW c hp sb h2)
    · cases h
  | .ret e, S, X, XW, c, hp, st, h => by
    unfold mS at h
    split at h
    · rename_i ex pos
      exact s_ret (fun i z => mVar_ok c (by rw [z] at h; exact h)) (sE e S X XW c ex h)
    · cases h
  | .retN, S, X, XW, c, hp, st, h => by
    unfold mS at h
    split at h
    · exact s_retN
    · cases h
  | .ex e, S, X, XW, c, hp, st, h => by
    unfold mS at h
    split at h
    · rename_i ex pos
      obtain ⟨h1, h2⟩ := and2 h
      exact s_ex (sw_no h2) (toB c h1 (sE e S X XW c ex h1))
    · cases h
  | .app i e, S, X, XW, c, hp, st, h => by
    unfold mS at h
    split at h
    · rename_i ex pos
      unfold methB at h
      split at h
      · rename_i o x apos ex cpos
        obtain ⟨h, h5⟩ := and2 h
        obtain ⟨h, h4⟩ := and2 h
        obtain ⟨h, h3⟩ := and2 h
        obtain ⟨h1, h2⟩ := and2 h
        obtain rfl := of_decide_eq_true h1
        exact s_app rfl (mVar_ok c h2) (sE e S X XW c ex h3) rfl (star_cons h4) (attr_name h2) h5
      · cases h
    · cases h
  | .ins i e, S, X, XW, c, hp, st, h => by
    unfold mS at h
    split at h
    · rename_i ex pos
      unfold methI at h
      split at h
      · rename_i o x apos k0 p0 ex cpos
        obtain ⟨h, h5⟩ := and2 h
        obtain ⟨h, h4⟩ := and2 h
        obtain ⟨h, h3⟩ := and2 h
        obtain ⟨h1, h2⟩ := and2 h
        obtain rfl := of_decide_eq_true h1
        exact s_ins rfl (mVar_ok c h2) (sE e S X XW c ex h3) rfl rfl (star_cons h4) (attr_name h2) h5
      · cases h
    · cases h
  | .ext i e, S, X, XW, c, hp, st, h => by
    unfold mS at h
    split at h
    · rename_i ex pos
      unfold methB at h
      split at h
      · rename_i o x apos ex cpos
        obtain ⟨h, h5⟩ := and2 h
        obtain ⟨h, h4⟩ := and2 h
        obtain ⟨h, h3⟩ := and2 h
        obtain ⟨h1, h2⟩ := and2 h
        obtain rfl := of_decide_eq_true h1
        exact s_ext rfl (mVar_ok c h2) (sE e S X XW c ex h3) rfl (star_cons h4) (attr_name h2) h5
      · cases h
    · cases h
  | .dset i k' e, S, X, XW, c, hp, st, h => by
    unfold mS at h
    split at h
    · rename_i o ix p0 ex pos
      obtain ⟨h, h4⟩ := and2 h
      obtain ⟨h, h3⟩ := and2 h
      obtain ⟨h1, h2⟩ := and2 h
      exact s_dset rfl (by have := c.hu; omega) (mVar_ok c h1) (toB c h2 (sE k' S X XW c ix h2)) (sE e S X XW c ex h3) (sw_no h4)
    · cases h
  | .mutS f i es, S, X, XW, c, hp, st, h => by
    unfold mS at h
    split at h
    · rename_i x p o xs p2 p3
      obtain ⟨h, h5⟩ := and2 h
      obtain ⟨h, h4⟩ := and2 h
      obtain ⟨h, h3⟩ := and2 h
      obtain ⟨h1, h2⟩ := and2 h
      obtain ⟨g1, g2, g3⟩ := glB_gl c h1
      have ns := mEs_star (cc := 0) h5
      split at h2
      · rename_i d ed
        obtain ⟨h2, h9⟩ := and2 h2
        obtain ⟨h2, h6⟩ := and2 h2
        obtain rfl := of_decide_eq_true h2
        obtain ⟨A, fd, m1, m2, m3, m4⟩ := c.muts f d ed h9
        exact s_mut rfl m4 c.room g1 m1 m2 m3 c.tk g2 (of_decide_eq_true h6) (mVar_ok c h3) (sA es S X XW c _ h5) (star_cons h4) (star_none fun z hz => ns z hz) rfl
      · cases h2
    · cases h
  | .sset i k' e, S, X, XW, c, hp, st, h => by
    unfold mS at h
    split at h
    · rename_i o ix p0 ex pos
      obtain ⟨h, h4⟩ := and2 h
      obtain ⟨h, h3⟩ := and2 h
      obtain ⟨h1, h2⟩ := and2 h
      exact s_sset rfl (mVar_ok c h1) (toB c h2 (sE k' S X XW c ix h2)) (sE e S X XW c ex h3) sw_sub st_sub (by intro _; cases ix <;> first | rfl | cases h4)
    · cases h
  | .pop i, S, X, XW, c, hp, st, h => by
    unfold mS at h
    split at h
    · rename_i o x apos cpos pos
      obtain ⟨h, h3⟩ := and2 h
      obtain ⟨h1, h2⟩ := and2 h
      obtain rfl := of_decide_eq_true h1
      exact s_pop rfl (mVar_ok c h2) rfl (attr_name h2) h3
    · cases h
  | .swp i k1 k2 e, S, X, XW, c, hp, st, h => by
    unfold mS at h
    split at h
    · rename_i o1 ix1 p1 o2 ix2 p2 kk p0 ex pos
      obtain ⟨h, h7⟩ := and2 h
      obtain ⟨h, h6⟩ := and2 h
      obtain ⟨h, h5⟩ := and2 h
      obtain ⟨h, h4⟩ := and2 h
      obtain ⟨h, h3⟩ := and2 h
      obtain ⟨h1, h2⟩ := and2 h
      exact s_swp rfl c.calm (mVar_ok c h1) (mVar_ok c h2) (toB c h3 (sE k1 S X XW c ix1 h3)) (toB c h4 (sE k2 S X XW c ix2 h4)) (sE e S X XW c ex h5) sw_tup st_two (by intro _; cases ix1 <;> first | rfl | cases h6) (by intro _; cases ix2 <;> first | rfl | cases h7)
    · cases h
  | .brk, S, X, XW, c, hp, st, h => by
    unfold mS at h
    split at h
    · exact s_brk
    · cases h
  | .cnt, S, X, XW, c, hp, st, h => by
    unfold mS at h
    split at h
    · exact s_cnt
    · cases h
  | .pass, S, X, XW, c, hp, st, h => by
    unfold mS at h
    split at h
    · exact s_pass
    · cases h
  | .never, S, X, XW, c, hp, st, h => s_never
  | .tryR b hs, S, X, XW, c, hp, st, h => by
    unfold mS at h
    split at h
    · rename_i sb hds pos
      obtain ⟨h, h3⟩ := and2 h
      obtain ⟨h1, h2⟩ := and2 h
      obtain ⟨l, ok, red⟩ := hds_ok c hs hds h2
      cases hds with
      | nil =>
        cases hs with
        | nil => cases h3
        | cons p r => obtain ⟨p1, p2⟩ := p; exact absurd h2 (by simp [mHs])
      | cons h0 hds =>
        refine PS.weak (ps_try_many (tb := fun W => uBk X.K S.P cl (fun c σ H => ∀ cls d, XIs S.P X.mg c cls → W cls d σ H) fu b) hp.st hp.fr c.tk (fun W pn xe t po => sB b S (X.tr pn xe) _ (c.tr pn xe t) ⟨po, hp.st, hp.fr⟩ sb h1) ok) fun D σ H ⟨Wd, u, ρ, R, q⟩ => ⟨Wd, u, ρ, R, ?_⟩
        have q : pS X.K XW (tryK S.P hs (evBk S.P cl fu b ρ)) D Wd u H := by
          have e : evS S.P cl fu (.tryR b hs) ρ = tryK S.P hs (evBk S.P cl fu b ρ) := by simp only [evS]
          rw [← e]; exact q
        cases e : evBk S.P cl fu b ρ with
        | exc e' ρ' =>
          rw [e] at q
          exact fun u' σ' H' R' t cls d x => red e' ρ' D Wd u H q u' σ' H' R' t cls d x
        | nx ρ' => rw [e] at q; exact q
        | brk ρ' => rw [e] at q; exact q
        | cnt ρ' => rw [e] at q; exact q
        | ret r => rw [e] at q; exact q
        | stuck => rw [e] at q; exact q
    · cases h
  | .raise cc, S, X, XW, c, hp, st, h => by
    unfold mS at h
    split at h
    · rename_i x p m j p2 p3 p4
      obtain ⟨h1, h2⟩ := and2 h
      obtain ⟨g1, g2, g3⟩ := glB_gl c h1
      have ex := of_decide_eq_true h2
      obtain ⟨C, f⟩ := c.excs cc x ex
      exact s_raise c.calm c.tk ⟨x, C, ex, f.gC, rfl⟩ (pmk_own PySem.F.excBase_ValueError f.q f.gC f.kC (raises_own f.b f.t) g1 g2)
    · cases h
theorem sB : ∀ (b : B) (S : SC) (X : Cx) (XW : Nat → L2.St → Hp → Prop), CtxOk S cl k X XW → Fr X → ∀ l, mB b S l = true → PSs X l (uBk X.K S.P cl XW fu b)
  | .nil, S, X, XW, c, hp, l, h => by
    cases l with
    | nil => exact b_nil'
    | cons _ _ => cases h
  | .cons s b, S, X, XW, c, hp, l, h => by
    cases l with
    | nil => cases h
    | cons st r =>
      obtain ⟨h1, h2⟩ := and2 (show (mS s S st && mB b S r) = true from h)
      exact b_cons' (sS s S X XW c hp st h1) (sB b S X XW c hp r h2)
  | .pub i b, S, X, XW, c, hp, l, h => b_pub (sB b S X XW c hp l h)
end
end
end Ev
namespace Ev
open PySem PySem.Spec
open PyProof.Rows L2
theorem zip_lookup : ∀ {ps : List Str} {us : List Value}, us.length = ps.length → ∀ n ∈ ps, ∃ v, (ps.zip us).lookup n = some v
  | p :: ps, u :: us, h, n, hn => by
    by_cases e : n = p
    · subst e; exact ⟨u, by simp⟩
    · obtain ⟨v, hv⟩ := zip_lookup (ps := ps) (us := us) (by simpa using h) n (by simpa [e] using hn)
      refine ⟨v, ?_⟩
      show ((p, u) :: ps.zip us).lookup n = some v
      have e' : (n == p) = false := beq_eq_false_iff_ne.mpr e
      rw [List.lookup_cons, e']; exact hv
  | [], _, _, n, hn => by cases hn
  | _ :: _, [], h, _, _ => by cases h
theorem fm_congr {α β : Type} {f g : α → Option β} : ∀ {l : List α}, (∀ x ∈ l, f x = g x) → l.filterMap f = l.filterMap g
  | [], _ => rfl
  | x :: r, h => by
    rw [List.filterMap_cons, List.filterMap_cons, h x (List.mem_cons_self ..), fm_congr (l := r) fun y hy => h y (List.mem_cons_of_mem _ hy)]
theorem zip_fm : ∀ {ps : List Str} {us : List Value}, us.length = ps.length → ps.Nodup → (ps.filterMap fun n => ((ps.zip us).lookup n).map (n, ·)) = ps.zip us
  | [], [], _, _ => rfl
  | p :: ps, u :: us, h, nd => by
    have nd' := List.nodup_cons.mp nd
    have ih := zip_fm (ps := ps) (us := us) (by simpa using h) nd'.2
    show ((p :: ps).filterMap fun n => (((p, u) :: ps.zip us).lookup n).map (n, ·)) = (p, u) :: ps.zip us
    rw [List.filterMap_cons]
    have e1 : (((p, u) :: ps.zip us).lookup p).map (p, ·) = some (p, u) := by simp
    rw [e1]
    refine congrArg _ (Eq.trans ?_ ih)
    exact fm_congr fun n hn => by
      have e' : (n == p) = false := beq_eq_false_iff_ne.mpr fun z => nd'.1 (z ▸ hn)
      rw [List.lookup_cons, e']
  | [], _ :: _, h, _ => by cases h
  | _ :: _, [], h, _ => by cases h
def plainA (a : Arguments) (ps : List Str) : Bool := a.posonlyargs.isEmpty && a.kwonlyargs.isEmpty && a.vararg.isNone && a.kwarg.isNone && a.defaults.isEmpty && decide (a.args.map (·.arg) = ps)
theorem bind_gen {x qual : Str} {a : Arguments} {body : List Stmt} {scope : Scope} {kV doc pm cdv ct : Value} {an : Option Addr} {ps : List Str} {us : List Value} (h : plainA a ps = true) (nd : ps.Nodup) (hl : us.length = ps.length) :
    bindArgs (PySem.W.fnOf x qual a body scope .none kV doc pm an cdv ct) ⟨us, []⟩ = pure (ps.zip us) := by
  obtain ⟨po, ar, va, ko, kd, kw, df⟩ := a
  unfold plainA at h
  simp only [Bool.and_eq_true, decide_eq_true_eq, List.isEmpty_iff, Option.isNone_iff_eq_none] at h
  obtain ⟨⟨⟨⟨⟨rfl, rfl⟩, rfl⟩, rfl⟩, rfl⟩, rfl⟩ := h
  have hm : ((ar.map (·.arg)).take (ar.map (·.arg)).length).filter (fun n => (((ar.map (·.arg)).zip us).lookup n).isNone) = [] := by
    rw [List.filter_eq_nil_iff]
    intro n hn
    obtain ⟨v, hv⟩ := zip_lookup hl n (List.mem_of_mem_take hn)
    rw [hv]; simp
  have hz := zip_fm hl nd
  have hs : seqItems? Value.none = pure none := rfl
  have hng : ¬ ((us.length > (ar.map (·.arg)).length) ∧ True) := by omega
  simp only [List.length_map] at hl
  have hng2 : ¬ (us.length > ar.length) := by omega
  unfold bindArgs PySem.W.fnOf
  simp only [List.map_nil, List.nil_append, List.append_nil, hs, pure_bind, Option.getD_none, List.forIn_nil, List.length_map, hng2, decide_false, Bool.false_and, Option.isNone_none, Bool.and_true, Array.toList_empty, List.length_nil, Nat.zero_sub, List.drop_nil, Nat.sub_zero, List.zip_nil_right, Bool.not_true, List.isEmpty_nil]
  simp only [List.length_map] at hm
  simp [hm, hz]
mutual
def deB : Nat → PySem.W.Frag → Value → PyData → Bool
  | 0, _, _, _ => false
  | n + 1, K, u, d => match u, d with
    | .none, .none => true
    | .bool b, .bool c => b == c
    | .int i _, .int j => decide (i = j)
    | .str x _, .str y => decide (x = y)
    | .ref a, .tuple ds => (match K.lookup a with
      | some ⟨.type c, none, .seq its _, _⟩ => decide (c = "tuple") && (decide (its.size ≤ sizeLine) && deBs n K its.toList ds)
      | _ => false)
    | .ref a, .list ds => (match K.lookup a with
      | some ⟨.type c, none, .seq its _, _⟩ => decide (c = "list") && (decide (its.size ≤ sizeLine) && deBs n K its.toList ds)
      | _ => false)
    | _, _ => false
def deBs : Nat → PySem.W.Frag → List Value → List PyData → Bool
  | 0, _, _, _ => false
  | n + 1, K, us, ds => match us, ds with
    | [], [] => true
    | u :: us, d :: ds => deB n K u d && deBs n K us ds
    | _, _ => false
end
mutual
theorem deB_ok {K : PySem.W.Frag} {H : Hp} : ∀ (n : Nat) (u : Value) (d : PyData), deB n K u d = true → ∃ v, RelV v u ∧ De K H v d
  | 0, _, _, h => by cases h
  | n + 1, u, d, h => by
    unfold deB at h
    split at h
    · exact ⟨.non, rfl, .non⟩
    · have e := eq_of_beq h; subst e; exact ⟨.bl _, rfl, .bl _⟩
    · have e := of_decide_eq_true h; subst e; exact ⟨.int _, ⟨_, rfl⟩, .int _⟩
    · have e := of_decide_eq_true h; subst e; exact ⟨.str _, ⟨_, rfl⟩, .str _⟩
    · rename_i a ds
      split at h
      · rename_i c its m sl q
        obtain ⟨h1, h⟩ := He.ba h
        obtain ⟨h2, h3⟩ := He.ba h
        obtain ⟨vs, r, de⟩ := deBs_ok n _ _ h3
        exact ⟨.ref a, rfl, .tup (.inr ⟨_, its, m, q, congrArg Value.type (of_decide_eq_true h1), rfl, rfl, of_decide_eq_true h2, r⟩) de⟩
      · cases h
    · rename_i a ds
      split at h
      · rename_i c its m sl q
        obtain ⟨h1, h⟩ := He.ba h
        obtain ⟨h2, h3⟩ := He.ba h
        obtain ⟨vs, r, de⟩ := deBs_ok n _ _ h3
        exact ⟨.ref a, rfl, .lst (.inr ⟨_, its, m, q, congrArg Value.type (of_decide_eq_true h1), rfl, rfl, of_decide_eq_true h2, r⟩) de⟩
      · cases h
    · cases h
theorem deBs_ok {K : PySem.W.Frag} {H : Hp} : ∀ (n : Nat) (us : List Value) (ds : List PyData), deBs n K us ds = true → ∃ vs, Vals vs us ∧ DeAll K H vs ds
  | 0, _, _, h => by cases h
  | n + 1, us, ds, h => by
    unfold deBs at h
    split at h
    · exact ⟨[], .nil, .nil⟩
    · rename_i u us d ds
      obtain ⟨h1, h2⟩ := He.ba h
      obtain ⟨v, r, e⟩ := deB_ok n _ _ h1
      obtain ⟨vs, rs, es⟩ := deBs_ok n _ _ h2
      exact ⟨v :: vs, .cons r rs, .cons e es⟩
    · cases h
end
structure Tbl where
  P : Prg
  prog : Program
  ats : List Nat
  blts : List Str
  maths : List Str
def Tbl.st (Z : Tbl) (i : Nat) : Stmt := Z.prog.main.body.getD (Z.ats.getD i 0) (.Pass ⟨0, 0, 0, 0⟩)
def mkD (x g : Str) (st : Stmt) : He.DefD := ⟨(g, none), x, x, defArgs st, defBody st, defScope st, [], []⟩
def Tbl.fnL (Z : Tbl) : List DefIR → Nat → List He.DefD
  | [], _ => []
  | d :: r, i => mkD d.name d.glo (Z.st i) :: fnL Z r (i + 1)
def Tbl.fn (Z : Tbl) : List He.DefD := Z.fnL Z.P.defs 0
def mathB (K : PySem.W.Frag) (x : Str) : Bool := (match PySem.W.nsIn K mainGlobals x with
  | some (some (.builtin y)) => decide (y = if x = "gcd" then "math.gcd" else "math.comb")
  | _ => false)
def constB (K : PySem.W.Frag) (p : Str × PyData) : Bool := (match PySem.W.nsIn K mainGlobals p.1 with
  | some (some u) => deB 20 K u p.2
  | _ => false)
def subRow (K : PySem.W.Frag) (subs : List (Nat × Nat)) (c : Nat) (x : Str) : List Str → Nat → Bool
  | [], _ => true
  | y :: r, h => (He.Fa.exm x y (subs.contains (c, h))).ok K && subRow K subs c x r (h + 1)
def subCol (K : PySem.W.Frag) (subs : List (Nat × Nat)) (all : List Str) : List Str → Nat → Bool
  | [], _ => true
  | x :: r, c => subRow K subs c x all 0 && subCol K subs all r (c + 1)
def subB (K : PySem.W.Frag) (subs : List (Nat × Nat)) (all : List Str) : Bool := subCol K subs all all 0
theorem subRow_at {K : PySem.W.Frag} {subs : List (Nat × Nat)} {c : Nat} {x : Str} : ∀ {l : List Str} {i h : Nat} {y : Str}, subRow K subs c x l i = true → l[h]? = some y → (He.Fa.exm x y (subs.contains (c, i + h))).ok K = true
  | [], _, _, _, _, e => by simp at e
  | y :: r, i, 0, _, h, e => by simp at e; subst e; exact (He.ba h).1
  | y :: r, i, n + 1, _, h, e => by
    have q := subRow_at (h := n) (He.ba h).2 (by simpa using e)
    rw [show i + 1 + n = i + (n + 1) by omega] at q
    exact q
theorem subCol_at {K : PySem.W.Frag} {subs : List (Nat × Nat)} {all : List Str} : ∀ {l : List Str} {i c : Nat} {x : Str}, subCol K subs all l i = true → l[c]? = some x → subRow K subs (i + c) x all 0 = true
  | [], _, _, _, _, e => by simp at e
  | y :: r, i, 0, _, h, e => by simp at e; subst e; exact (He.ba h).1
  | y :: r, i, n + 1, _, h, e => by
    have q := subCol_at (c := n) (He.ba h).2 (by simpa using e)
    rw [show i + 1 + n = i + (n + 1) by omega] at q
    exact q
def Tbl.ck (Z : Tbl) (K : PySem.W.Frag) : Bool :=
  Z.fn.all (fun d => d.ok K && (He.Fa.glo d.at_.1).ok K) && (Z.blts.all (fun x => (He.Fa.free x).ok K) && (Z.maths.all (mathB K) && (Z.P.consts.all (constB K) && (Z.P.excs.all (fun x => (He.Fa.glo x).ok K && (He.Fa.exc x).ok K) && subB K Z.P.subs Z.P.excs))))
abbrev AlX : Type := Bool × List He.FnW
def Tbl.obs (Z : Tbl) (K : PySem.W.Frag) : AlX := (Z.ck K, Z.fn.map fun d => He.fnW K d.at_)
def Tbl.val (Z : Tbl) : AlX := (true, Z.fn.map He.DefD.val)
def Tbl.Says (Z : Tbl) (K : PySem.W.Frag) : Prop := Z.obs K = Z.val
def lvN (g : Addr → Option Obj) : Nat → List Addr → List Addr
  | 0, as => as
  | n + 1, as => as ++ lvN g n (as.flatMap fun a => match g a with
    | some o => He.refsD o
    | none => [])
def Tbl.obsG (Z : Tbl) (n : Nat) (g : Addr → Option Obj) : AlX := Z.obs (He.frG g (lvN g n [mainGlobals]))
theorem run2 {α β γ δ : Type} {W : Option α} {f : α → β} {g : α → γ} {p : α → δ} {b : β} {c : γ} {d : δ} (h1 : W.map (fun x => (f x, g x)) = some (b, c)) (h2 : W.map p = some d) : W.map (fun x => (f x, g x, p x)) = some (b, c, d) := by
  cases W with
  | none => cases h1
  | some x =>
    have e1 := Prod.mk.inj (Option.some.inj h1)
    have e2 : p x = d := Option.some.inj h2
    show some (f x, g x, p x) = _
    rw [e1.1, e1.2, e2]
def hookX (n : Nat) (Z : Tbl) : PySem.W.Hook where
  α := AlX
  obs := fun s => Z.obsG n s.heap.get?
  val := fun _ => Z.val
  says := fun _ h => ∃ K : PySem.W.Frag, K.In h ∧ Z.Says K
  of := fun _ _ e => ⟨_, He.frG_in, e⟩
  keeps := fun _ _ _ ⟨K, hK, c⟩ k => ⟨K, PySem.W.Frag.In.keeps hK k, c⟩
theorem obsG_eq {n : Nat} {Z : Tbl} {g : Addr → Option Obj} {s : Shared} (h : ∀ a, g a = s.heap.get? a) : Z.obsG n g = (hookX n Z).obs s := by
  have e : g = s.heap.get? := funext h
  rw [e] <;> rfl
def nodupB : List Str → Bool
  | [] => true
  | x :: r => !r.contains x && nodupB r
theorem nodupB_ok : ∀ {l : List Str}, nodupB l = true → l.Nodup
  | [], _ => List.nodup_nil
  | x :: r, h => by
    obtain ⟨h1, h2⟩ := He.ba (show (!r.contains x && nodupB r) = true from h)
    refine List.nodup_cons.mpr ⟨fun z => ?_, nodupB_ok h2⟩
    have : r.contains x = true := List.elem_eq_true_of_mem z
    rw [this] at h1; cases h1
def scB (N ps : List Str) (sc : Scope) : Bool := decide (sc.kind = .function) && (!sc.isCoroutine && (!sc.isGenerator && (nodupB N && (decide (N.take ps.length = ps) && (ps.all (fun x => decide (sc.names.lookup x = some .local) || decide (sc.names.lookup x = some .cell)) && sc.names.all fun y => decide (y.2 ≠ .free))))))
theorem scB_ok {N ps : List Str} {sc : Scope} (h : scB N ps sc = true) : FnScope N ps sc := by
  unfold scB at h
  obtain ⟨h1, h⟩ := He.ba h
  obtain ⟨h2, h⟩ := He.ba h
  obtain ⟨h3, h⟩ := He.ba h
  obtain ⟨h4, h⟩ := He.ba h
  obtain ⟨h5, h⟩ := He.ba h
  obtain ⟨h6, h7⟩ := He.ba h
  refine ⟨of_decide_eq_true h1, by simpa using h2, by simpa using h3, nodupB_ok h4, of_decide_eq_true h5, fun x hx => ?_, fun y hy => of_decide_eq_true (List.all_eq_true.mp h7 y hy)⟩
  rcases Bool.or_eq_true_iff.mp (List.all_eq_true.mp h6 x hx) with z | z
  · exact .inl (of_decide_eq_true z)
  · exact .inr (of_decide_eq_true z)
def Tbl.sc (Z : Tbl) (d : DefIR) (st : Stmt) : SC := ⟨Z.P, d.N, defScope st, fun _ => true, Z.blts, Z.maths⟩
def Tbl.ok1 (Z : Tbl) (d : DefIR) (st : Stmt) : Bool := scB d.N d.ps (defScope st) && (nodupB d.ps && (plainA (defArgs st) d.ps && (if d.mu then mMut d.body (Z.sc d st) (defBody st) else mB d.body (Z.sc d st) (defBody st))))
def Tbl.okL (Z : Tbl) : List DefIR → Nat → Bool
  | [], _ => true
  | d :: r, i => Z.ok1 d (Z.st i) && okL Z r (i + 1)
def Tbl.okB (Z : Tbl) : Bool := Z.okL Z.P.defs 0
theorem okL_at {Z : Tbl} : ∀ {l : List DefIR} {i f : Nat} {d : DefIR}, Z.okL l i = true → l[f]? = some d → Z.ok1 d (Z.st (i + f)) = true
  | [], _, _, _, _, e => by simp at e
  | d :: r, i, 0, _, h, e => by
    obtain ⟨h1, _⟩ := He.ba (show (Z.ok1 d (Z.st i) && Z.okL r (i + 1)) = true from h)
    simp at e; subst e; exact h1
  | d :: r, i, f + 1, _, h, e => by
    obtain ⟨_, h2⟩ := He.ba (show (Z.ok1 d (Z.st i) && Z.okL r (i + 1)) = true from h)
    have q := okL_at (f := f) h2 (by simpa using e)
    rw [show i + 1 + f = i + (f + 1) by omega] at q
    exact q
theorem fnL_at {Z : Tbl} : ∀ {l : List DefIR} {i f : Nat} {d : DefIR}, l[f]? = some d → (Z.fnL l i)[f]? = some (mkD d.name d.glo (Z.st (i + f)))
  | [], _, _, _, e => by simp at e
  | d :: r, i, 0, _, e => by simp at e; subst e; rfl
  | d :: r, i, f + 1, _, e => by
    have q := fnL_at (Z := Z) (l := r) (i := i + 1) (f := f) (by simpa using e)
    rw [show i + 1 + f = i + (f + 1) by omega] at q
    show (mkD d.name d.glo (Z.st i) :: Z.fnL r (i + 1))[f + 1]? = _
    rw [List.getElem?_cons_succ]
    exact q
section
variable {Z : Tbl} {K : PySem.W.Frag} {h : Heap} {mg : Str → Option Value}
theorem says_def (c : Z.Says K) {f : Nat} {d : DefIR} (e : Z.P.defs[f]? = some d) : ∃ fd, FunD K d.name d.name (defArgs (Z.st f)) (defBody (Z.st f)) (defScope (Z.st f)) [] [] (He.ga K d.glo) fd ∧ (He.Fa.glo d.glo).ok K = true := by
  have e1 : (Z.fn)[f]? = some (mkD d.name d.glo (Z.st f)) := by
    have q := fnL_at (Z := Z) (i := 0) e
    rw [Nat.zero_add] at q
    exact q
  have c1 : Z.ck K = true := congrArg (fun z : AlX => z.1) c
  have c2 := List.all_eq_true.mp (He.ba c1).1 _ (List.mem_of_getElem? e1)
  have e2 : (Z.fn.map fun d => He.fnW K d.at_) = Z.fn.map He.DefD.val := congrArg (fun z : AlX => z.2) c
  have e3 : (Z.fn.map fun d => He.fnW K d.at_)[f]? = (Z.fn.map He.DefD.val)[f]? := by rw [e2]
  rw [List.getElem?_map, List.getElem?_map, e1] at e3
  obtain ⟨h1, h2⟩ := He.ba c2
  obtain ⟨fd, F⟩ := He.DefD.funD (Option.some.inj e3) h1
  exact ⟨fd, F, h2⟩
theorem says_blt (X : K.In h) (G : h.Ns mainGlobals mg) (c : Z.Says K) {x : Str} (hx : Z.blts.contains x = true) : mg x = none := by
  have c1 : Z.ck K = true := congrArg (fun z : AlX => z.1) c
  have c2 := (He.ba (He.ba c1).2).1
  exact He.free_ok X G (List.all_eq_true.mp c2 x (by simpa using hx))
theorem says_math (X : K.In h) (G : h.Ns mainGlobals mg) (c : Z.Says K) {x : Str} (hx : Z.maths.contains x = true) : (x = "gcd" → mg x = some (.builtin "math.gcd")) ∧ (x = "comb" → mg x = some (.builtin "math.comb")) ∧ (x = "comb_math" → mg x = some (.builtin "math.comb")) := by
  have c1 : Z.ck K = true := congrArg (fun z : AlX => z.1) c
  have c2 := (He.ba (He.ba (He.ba c1).2).2).1
  have c3 := List.all_eq_true.mp c2 x (by simpa using hx)
  unfold mathB at c3
  split at c3
  · rename_i y e
    have c4 := of_decide_eq_true c3
    refine ⟨fun z => ?_, fun z => ?_, fun z => ?_⟩
    · rw [if_pos z] at c4; subst c4; exact PySem.W.mg_of X G e
    · rw [if_neg (by rw [z]; decide)] at c4; subst c4; exact PySem.W.mg_of X G e
    · rw [if_neg (by rw [z]; decide)] at c4; subst c4; exact PySem.W.mg_of X G e
  · cases c3
theorem says_const (X : K.In h) (G : h.Ns mainGlobals mg) (c : Z.Says K) {i : Nat} {x : Str} {d : PyData} (e : Z.P.consts[i]? = some (x, d)) : ∃ u v, mg x = some u ∧ L2.RelV v u ∧ De K (fun _ => none) v d := by
  have c1 : Z.ck K = true := congrArg (fun z : AlX => z.1) c
  have c2 := (He.ba (He.ba (He.ba (He.ba c1).2).2).2).1
  have c3 := List.all_eq_true.mp c2 (x, d) (List.mem_of_getElem? e)
  unfold constB at c3
  split at c3
  · rename_i u eu
    obtain ⟨v, r, de⟩ := deB_ok (H := fun _ => none) 20 u d c3
    exact ⟨u, v, PySem.W.mg_of X G eu, r, de⟩
  · cases c3
theorem says_exc (X : K.In h) (G : h.Ns mainGlobals mg) (c : Z.Says K) {i : Nat} {x : Str} (e : Z.P.excs[i]? = some x) : ∃ C, ExcFact K mg x C := by
  have c1 : Z.ck K = true := congrArg (fun z : AlX => z.1) c
  have c2 := (He.ba (He.ba (He.ba (He.ba (He.ba c1).2).2).2).2).1
  obtain ⟨h1, h2⟩ := He.ba (List.all_eq_true.mp c2 x (List.mem_of_getElem? e))
  obtain ⟨q1, q2, q3, q4⟩ := He.exc_ok h2
  exact ⟨_, He.glo_ok X G h1, q1, q2, q3, q4⟩
theorem says_sub (X : K.In h) (G : h.Ns mainGlobals mg) (c : Z.Says K) {i j : Nat} {x y : Str} {C C' : Addr} (e1 : Z.P.excs[i]? = some x) (e2 : Z.P.excs[j]? = some y) (g1 : mg x = some (.ref C)) (g2 : mg y = some (.ref C')) : PySem.W.exmOne K (.ref C) (.ref C') = some (Z.P.subs.contains (i, j)) := by
  have c1 : Z.ck K = true := congrArg (fun z : AlX => z.1) c
  have c2 := (He.ba (He.ba (He.ba (He.ba (He.ba c1).2).2).2).2).2
  have c3 := (He.ba (He.ba (He.ba (He.ba (He.ba c1).2).2).2).2).1
  have q := subRow_at (subCol_at c2 e1) e2
  rw [Nat.zero_add, Nat.zero_add] at q
  have k1 := He.glo_ok X G (He.ba (List.all_eq_true.mp c3 x (List.mem_of_getElem? e1))).1
  have k2 := He.glo_ok X G (He.ba (List.all_eq_true.mp c3 y (List.mem_of_getElem? e2))).1
  rw [g1] at k1
  rw [g2] at k2
  cases k1
  cases k2
  exact He.exm_ok q
end
section
variable {Z : Tbl} {K : PySem.W.Frag} {h : Heap} {mg : Str → Option Value} {w : World} {base : Heap} {fu : Nat}
theorem def_rep {K : PySem.W.Frag} {H : Hp} {Wd : Msk} {vs : List V} {ds : List PyData} {N : List Str} (hw : ∀ a, Wd a → H a ≠ none) (hd : DeAll K (msk Wd H) vs ds) : Rep K Wd noU (ds.map (fun d => some (.sh d)) ++ List.replicate (N.length - ds.length) none) (L2.start N vs) H := by
  have hl := deall_len hd
  refine ⟨?_, hw, (fun i a e => by cases e), (fun i a e => by cases e), (fun i j a e _ => by cases e), fun i r e => ?_⟩
  · unfold L2.start
    simp [hl]
  · unfold L2.start
    by_cases hi : i < ds.length
    · rw [List.getElem?_append_left (by simpa using hi), List.getElem?_map, List.getElem?_eq_getElem hi] at e
      obtain rfl : W.sh ds[i] = r := by simpa using e
      obtain ⟨v, h1, h2⟩ := deall_get hd (List.getElem?_eq_getElem hi)
      refine ⟨v, ?_, ?_⟩
      · rw [List.getElem?_append_left (by simpa [hl] using hi), List.getElem?_map, h1]; rfl
      · have eM : Mk Wd noU = Wd := funext fun a => propext ⟨fun z => z.resolve_right fun ⟨i, z⟩ => (by cases z), .inl⟩
        show De K (msk (Mk Wd noU) H) v ds[i]
        rw [eM]; exact h2
    · exfalso
      rw [List.getElem?_append_right (by simpa using hi), List.getElem?_replicate] at e
      split at e <;> cases e
theorem binds_ok (hB : Z.okB = true) {f : Nat} {d : DefIR} {A : Addr} {fd : FuncData} (e : Z.P.defs[f]? = some d) (F : FunD K d.name d.name (defArgs (Z.st f)) (defBody (Z.st f)) (defScope (Z.st f)) [] [] A fd) : Binds K fd d.ps [] ∧ ∀ (s : Shared) (us : List Value), us.length = d.ps.length → BindsTo s fd ⟨us, []⟩ (d.ps.zip us) := by
  have o := okL_at (i := 0) hB e
  rw [Nat.zero_add] at o
  obtain ⟨o1, o⟩ := He.ba o
  obtain ⟨o2, o⟩ := He.ba o
  obtain ⟨o3, o4⟩ := He.ba o
  exact ⟨F.bindsN fun kV doc pm an cdv ct us hl => bind_gen o3 (nodupB_ok o2) hl, fun s us hl => F.bindsA (fun kV doc pm an cdv ct us hl => bind_gen o3 (nodupB_ok o2) hl) s us hl⟩
def u0 (a : Addr) : Nat → Option Addr := fun i => if i = 0 then some a else none
theorem u0_some {a b : Addr} {i : Nat} (h : u0 a i = some b) : i = 0 ∧ b = a := by
  unfold u0 at h
  by_cases e : i = 0
  · rw [if_pos e] at h; cases h; exact ⟨e, rfl⟩
  · rw [if_neg e] at h; cases h
theorem mk_u0 {Wd : Msk} {a : Addr} : Mk Wd (u0 a) = addM Wd a := funext fun b => propext ⟨fun z => z.elim .inl fun ⟨i, z⟩ => .inr (u0_some z).2, fun z => z.elim .inl fun z => .inr ⟨0, by rw [z]; rfl⟩⟩
theorem def_repM {K : PySem.W.Frag} {H : Hp} {Wd : Msk} {a : Addr} {xs : DXs} {kvs : List (List Int × PyData)} {vs : List V} {ds : List PyData} {N : List Str} (hw : ∀ a, Wd a → H a ≠ none) (hn : ¬ Wd a) (ha : H a = some (DX a xs)) (hk : KvD K (msk (addM Wd a) H) xs kvs) (hd : DeAll K (msk (addM Wd a) H) vs ds) :
    Rep K Wd (u0 a) (some (.nd kvs) :: (ds.map (fun d => some (.sh d)) ++ List.replicate (N.length - (ds.length + 1)) none)) (L2.start N (.ref a :: vs)) H := by
  have hl := deall_len hd
  have e0 : L2.start N (.ref a :: vs) = some (.ref a) :: (vs.map some ++ List.replicate (N.length - (vs.length + 1)) none) := rfl
  rw [e0]
  refine ⟨by simp [hl], hw, fun i b e => ?_, fun i b e => ?_, fun i j b e1 e2 => by rw [(u0_some e1).1, (u0_some e2).1], fun i r e => ?_⟩
  · rw [(u0_some e).2, ha]; exact fun z => nomatch z
  · rw [(u0_some e).2]; exact hn
  · cases i with
    | zero =>
      rw [List.getElem?_cons_zero] at e
      obtain rfl : W.nd kvs = r := by simpa using e
      exact ⟨.ref a, by rw [List.getElem?_cons_zero], a, xs, rfl, rfl, ha, by rw [mk_u0]; exact hk⟩
    | succ i =>
      rw [List.getElem?_cons_succ] at e
      rw [List.getElem?_cons_succ]
      by_cases hi : i < ds.length
      · rw [List.getElem?_append_left (by simpa using hi), List.getElem?_map, List.getElem?_eq_getElem hi] at e
        obtain rfl : W.sh ds[i] = r := by simpa using e
        obtain ⟨v, h1, h2⟩ := deall_get hd (List.getElem?_eq_getElem hi)
        refine ⟨v, ?_, ?_⟩
        · rw [List.getElem?_append_left (by simpa [hl] using hi), List.getElem?_map, h1]; rfl
        · show De K (msk (Mk Wd (u0 a)) H) v ds[i]
          rw [mk_u0]; exact h2
      · exfalso
        rw [List.getElem?_append_right (by simpa using hi), List.getElem?_replicate] at e
        split at e <;> cases e
theorem ofD_to : ∀ kvs : List (List Int × PyData), ofD (kvs.map fun p => (.tuple (p.1.map .int), p.2)) = some kvs
  | [] => rfl
  | (ns, d) :: r => by
    show (match intsOf (ns.map .int), ofD (r.map fun p => (.tuple (p.1.map .int), p.2)) with | some ns, some q => some ((ns, d) :: q) | _, _ => none) = _
    rw [intsOf_map, ofD_to r]
theorem all_ok (hB : Z.okB = true) (X : K.In h) (G : h.Ns mainGlobals mg) (c : Z.Says K) : ∀ (k : Nat) (f : Nat) (d : DefIR), Z.P.defs[f]? = some d → ∀ fd, FunD K d.name d.name (defArgs (Z.st f)) (defBody (Z.st f)) (defScope (Z.st f)) [] [] (He.ga K d.glo) fd →
    (d.mu = false → FnOk Z.prog w K mg base (L2.CX Z.prog w) k (He.ga K d.glo) fd d.ps (spD K Z.P mg (callF Z.P fu k) f d.ps.length)) ∧
    (d.mu = true → FnOk Z.prog w K mg base (L2.CX Z.prog w) k (He.ga K d.glo) fd d.ps (spM K Z.P mg (callF Z.P fu k) f d.ps.length))
  | 0, f, d, e, fd, F => ⟨fun _ => ⟨fun vs H Q E z => z.1, fun A outer s H args us vs Q E _ _ _ _ z => by
    obtain ⟨_, Wd, ds, _, _, z⟩ := z
    exact z.elim⟩, fun _ => ⟨fun vs H Q E z => z.1, fun A outer s H args us vs Q E _ _ _ _ z => by
    obtain ⟨_, Wd, a, xs, kvs, vs', ds, _, _, _, _, _, _, z⟩ := z
    exact z.elim⟩⟩
  | k + 1, f, d, e, fd, F => by
    have o := okL_at (i := 0) hB e
    rw [Nat.zero_add] at o
    obtain ⟨o1, o⟩ := He.ba o
    obtain ⟨o2, o⟩ := He.ba o
    obtain ⟨o3, o4⟩ := He.ba o
    have FS := scB_ok o1
    have ctx : ∀ (cdv : Value) (A : Around) (outer : List PySem.Env) (s : Shared) (H : Hp) (E : XK), Room k (A.deeper (envOfC d.name (defScope (Z.st f)) s.heap.objs.size (He.ga K d.glo) cdv)) → CtxOk (Z.sc d (Z.st f)) (callF Z.P fu k) k (cxOf (L2.CX Z.prog w) Z.prog w K mg base d.N d.name (defScope (Z.st f)) (He.ga K d.glo) cdv A outer s H E) (fun c σ H' => ∀ cls dd, XIs Z.P mg c cls → E cls dd H') := by
      intro cdv A outer s H E hr
      refine ⟨rfl, rfl, FS.kind, FS.nd, fun _ _ => rfl, rfl, hr, ?_, fun f' d' e' hm => ?_, fun f' d' e' hm => ?_, fun x hx => says_blt X G c hx, fun x hx => says_math X G c hx, fun i x dd e => says_const X G c e, fun i x e => says_exc X G c e, fun i j x y C C' e1 e2 g1 g2 => says_sub X G c e1 e2 g1 g2⟩
      · exact Takes.imp (takes_of (E := E) rfl rfl rfl rfl) fun cls dd σ H' ⟨cc, z1, z2⟩ => z2 cls dd z1
      · obtain ⟨fd', F', g'⟩ := says_def c e'
        exact ⟨_, fd', He.glo_ok X G g', F'.kp, (binds_ok hB e' F').1, (all_ok hB X G c k f' d' e' fd' F').2 hm⟩
      · obtain ⟨fd', F', g'⟩ := says_def c e'
        exact ⟨_, fd', He.glo_ok X G g', F'.kp, (binds_ok hB e' F').1, (all_ok hB X G c k f' d' e' fd' F').1 hm⟩
    constructor
    · intro hmu
      rw [if_neg (by rw [hmu]; decide)] at o4
      refine F.ok FS (fun vs H Q E z => z.1) fun cdv A outer s H vs Q E hr hsp => ?_
      obtain ⟨hvl, Wd, ds, hw, hd, p⟩ := hsp
      have co := ctx cdv A outer s H E hr
      refine ⟨uBk K Z.P (callF Z.P fu k) (fun c σ H' => ∀ cls dd, XIs Z.P mg c cls → E cls dd H') fu d.body, sB d.body (Z.sc d (Z.st f)) _ _ co ⟨passes_of rfl, rfl, rfl⟩ _ o4, ?_⟩
      have hdl := deall_len hd
      refine ⟨Wd, noU, _, def_rep (N := d.N) hw hd, ?_⟩
      have p : pO (match Z.P.defs[f]? with | some d => runDef Z.P fu (callF Z.P fu k) d ds | none => .stuck) _ _ := p
      rw [e] at p
      have p : pO (runDef Z.P fu (callF Z.P fu k) d ds) _ _ := p
      unfold runDef at p
      rw [if_pos (show ds.length = d.ps.length by rw [← hdl, hvl]), if_neg (by rw [hmu]; decide)] at p
      have trS : ∀ {u' : Nat → Option Addr} {H' : Hp}, Tr noU H u' H' → Same H H' := fun {u' H'} t a o e => t.keep a o (fun j z => by cases z) e
      cases er : evBk Z.P (callF Z.P fu k) fu d.body (ds.map (fun d => some (.sh d)) ++ List.replicate (d.N.length - ds.length) none) with
      | nx ρ' =>
        rw [er] at p
        exact fun u' σ' H' R t => p .non H' (trS t) .non
      | brk ρ' => rw [er] at p; exact p.elim
      | cnt ρ' => rw [er] at p; exact p.elim
      | ret r =>
        rw [er] at p
        intro v H' t q
        refine p v H' (trS t) ?_
        cases r with
        | sh x => exact q
        | nl l =>
          obtain ⟨a, xs, h1, h2, h3, h4⟩ := q
          exact ⟨a, xs, h1, h2.resolve_left (fun ⟨j, z⟩ => (nomatch z)), h3, h4⟩
        | nd l =>
          obtain ⟨a, xs, h1, h2, h3, h4⟩ := q
          exact ⟨a, xs, h1, h2.resolve_left (fun ⟨j, z⟩ => (nomatch z)), h3, h4⟩
      | exc cc ρ' =>
        rw [er] at p
        exact fun u' σ' H' R t cls dd hx => p H' cls dd (trS t) hx
      | stuck => rw [er] at p; exact p.elim
    · intro hmu
      rw [if_pos hmu] at o4
      refine F.ok FS (fun vs H Q E z => z.1) fun cdv A outer s H vs Q E hr hsp => ?_
      obtain ⟨hvl, Wd, a, xs, kvs, vs', ds, rfl, hw, hn, ha, hk, hd, p⟩ := hsp
      have co := ctx cdv A outer s H E hr
      have hdl := deall_len hd
      have p : pO (match Z.P.defs[f]? with | some d => runDef Z.P fu (callF Z.P fu k) d (toD kvs :: ds) | none => .stuck) _ _ := p
      rw [e] at p
      have p : pO (runDef Z.P fu (callF Z.P fu k) d (toD kvs :: ds)) _ _ := p
      unfold runDef at p
      rw [if_pos (show (toD kvs :: ds).length = d.ps.length by rw [← hvl, List.length_cons, List.length_cons, hdl]), if_pos hmu] at p
      have p : pO (runMut Z.P fu (callF Z.P fu k) d (kvs.map fun p => (.tuple (p.1.map .int), p.2)) ds) _ _ := p
      unfold runMut at p
      rw [ofD_to] at p
      unfold mMut at o4
      split at o4
      · rename_i kE eE o ix p0 ex pos eb el
        obtain ⟨o4, m4⟩ := and2 o4
        obtain ⟨o4, m3⟩ := and2 o4
        obtain ⟨m1, m2⟩ := and2 o4
        rw [el]
        rw [eb] at p
        have p : pO (match evS Z.P (callF Z.P fu k) fu (.dset 0 kE eE) (some (.nd kvs) :: (ds.map (fun d => some (.sh d)) ++ List.replicate (d.N.length - (ds.length + 1)) none)) with
          | .nx (some (.nd kvs') :: _) => (.ok (.nd kvs') : Out W)
          | _ => .stuck) _ _ := p
        have R := def_repM (N := d.N) hw hn ha hk hd
        split at p
        · rename_i kvs' rr er
          refine ⟨_, pss_one (ps_putX (by have := co.hu; omega) (mVar_ok co m1) (toB co m2 (sE kE _ _ _ co _ m2)) (sE eE _ _ _ co _ m3) (sw_no m4)), ?_⟩
          refine mut_read (XW := fun c σ H' => ∀ cls dd, XIs Z.P mg c cls → E cls dd H') R rfl rfl ha (by rw [mk_u0]; exact hk) er fun xs' H' k1 k2 k3 => ?_
          rw [mk_u0] at k3
          exact p xs' H' k1 k2 k3
        · exact p.elim
      · cases o4
end
theorem de_ints {K : PySem.W.Frag} {H : Hp} : ∀ ns : List Int, DeAll K H (ns.map V.int) (ns.map PyData.int)
  | [] => .nil
  | n :: r => .cons (.int n) (de_ints r)
theorem walk_ofX {l : PySem.W.OpenLaw} {n k fu fL : Nat} {q : Program} {loose : List Str} {XP : (Str → Option Value) → Heap → Prop} {Z : Tbl} {d : DefRec} {dl : DefIR} {x : Str}
    (hn : l.most = some n) (hn2 : n ≤ sizeLine) (hdf : d.params.defaults = []) (hr : Room k callerA) (hB : Z.okB = true) (hp : Z.prog = l.prog) (hd : Z.P.defs[fL]? = some dl) (hx : dl.ps = [x]) (hmu : dl.mu = false) (hname : d.name = dl.glo)
    (law : ∀ ns : List Int, ns.length ≤ n → (∀ z ∈ ns, Builtin.Int.intBits z ≤ 1048576) → callF Z.P fu k fL [.list (ns.map .int)] = .ok (.sh (.bool true))) :
    PySem.W.WalkO q loose XP (fun _ h => ∃ K : PySem.W.Frag, K.In h ∧ Z.Says K) l.row.toRowW d [] (fun f vs => PySem.call f vs) := by
  refine Att.attach_callB hn hdf fun w s₀ s₁ mg mb fa o pm cd doc a vs ns G Y ho hd' hcd hmg hobj hints hlen hbits hg => ?_
  obtain ⟨K, KX, c⟩ := Y
  obtain ⟨fd, F, g⟩ := says_def c hd
  have q1 := He.glo_ok KX G.T.g g
  rw [hname, q1] at hmg
  cases hmg
  refine law_call (sp := spD K Z.P mg (callF Z.P fu k) fL dl.ps.length) (x := x) (fd := fd) (CX := L2.CX Z.prog w) (k := k) (K := K) (mg := mg) KX G.T.g G.T.b G.T.builtins G.T.nolimit hg hobj hints (Nat.le_trans hlen hn2) hr (fun base hb1 hb2 => ?_) (fun s u => ?_) (fun H hO hS => ?_) fun H e s' z => ?_
  · have q := (all_ok (w := w) (base := base) (fu := fu) hB KX G.T.g c k fL dl hd fd F).1 hmu
    rw [hx, hp] at q
    rw [hx, hp]
    exact q
  · have := (binds_ok hB hd F).2 s [u] (by rw [hx]; rfl)
    rw [hx] at this
    exact this
  · refine ⟨by rw [hx]; rfl, fun _ => False, [.list (ns.map .int)], fun a z => z.elim, .cons (.lst (sq_same ?_ hS) (de_ints ns)) .nil, ?_⟩
    · intro b u e
      exact msk_some.mpr ⟨fun z => z, e⟩
    · rw [law ns hlen hbits]
      intro v H' s r
      cases r
      rfl
  · obtain ⟨_, _, _, _, _, _, _, _, _, _, _, _, z⟩ := z
    exact z
end Ev
namespace Ev
open PySem L2
theorem callF_eq {P : Prg} {fu k f : Nat} {d : DefIR} {ds : List PyData} (h : P.defs[f]? = some d) : callF P fu (k + 1) f ds = runDef P fu (callF P fu k) d ds := by
  show (match P.defs[f]? with | some d => _ | none => _) = _
  rw [h]
theorem c_eq (a b : Int) : cmpD .eq (.int a) (.int b) = okB (decide (a = b)) := by
  show okB (a == b) = _
  by_cases h : a = b
  · subst h; simp
  · rw [decide_eq_false h, beq_eq_false_iff_ne.mpr h]
theorem c_ne (a b : Int) : cmpD .ne (.int a) (.int b) = okB (decide (a ≠ b)) := by
  show okB (!(a == b)) = _
  by_cases h : a = b
  · subst h; simp
  · rw [beq_eq_false_iff_ne.mpr h]; simp [h]
theorem c_lt (a b : Int) : cmpD .lt (.int a) (.int b) = okB (decide (a < b)) := (rfl)
theorem c_le (a b : Int) : cmpD .le (.int a) (.int b) = okB (decide (a ≤ b)) := (rfl)
theorem c_gt (a b : Int) : cmpD .gt (.int a) (.int b) = okB (decide (b < a)) := (rfl)
theorem c_ge (a b : Int) : cmpD .ge (.int a) (.int b) = okB (decide (b ≤ a)) := (rfl)
theorem c_isb (a : PyData) (b : Bool) : cmpD .is a (.bool b) = okB (isD a (.bool b)) := by cases a <;> exact (rfl)
theorem c_isntb (a : PyData) (b : Bool) : cmpD .isnt a (.bool b) = okB (!isD a (.bool b)) := by cases a <;> exact (rfl)
theorem isD_b (a b : Bool) : isD (.bool a) (.bool b) = (a == b) := (rfl)
theorem isD_n (a : Bool) : isD .none (.bool a) = false := (rfl)
theorem isD_i (i : Int) (a : Bool) : isD (.int i) (.bool a) = false := (rfl)
theorem isD_s (i : Str) (a : Bool) : isD (.str i) (.bool a) = false := (rfl)
theorem isD_nn : isD .none .none = true := (rfl)
theorem isD_bn (a : Bool) : isD (.bool a) .none = false := (rfl)
theorem isD_in (a : Int) : isD (.int a) .none = false := (rfl)
theorem isD_sn (a : Str) : isD (.str a) .none = false := (rfl)
theorem isD_tn (a : List PyData) : isD (.tuple a) .none = false := (rfl)
theorem isD_ln (a : List PyData) : isD (.list a) .none = false := (rfl)
theorem isD_tb (a : List PyData) (b : Bool) : isD (.tuple a) (.bool b) = false := (rfl)
theorem isD_lb (a : List PyData) (b : Bool) : isD (.list a) (.bool b) = false := (rfl)
theorem c_isn (a : PyData) : cmpD .is a .none = okB (isD a .none) := by cases a <;> rfl
theorem c_isnt (a : PyData) : cmpD .isnt a .none = okB (!isD a .none) := by cases a <;> rfl
theorem o_add (a b : Int) : opD .add (.int a) (.int b) = okI (a + b) := (rfl)
theorem o_sub (a b : Int) : opD .sub (.int a) (.int b) = okI (a - b) := (rfl)
theorem o_mul {a b : Int} (h : mulOk a b = true) : opD .mul (.int a) (.int b) = okI (a * b) := by
  show (if mulOk a b then okI (a * b) else .stuck) = _
  rw [if_pos h]
theorem o_mod {a b : Int} (h : b ≠ 0) : opD .mod (.int a) (.int b) = okI (a.fmod b) := by
  show (if b ≠ 0 then okI (a.fmod b) else .stuck) = _
  rw [if_pos h]
theorem o_fdiv {a b : Int} (h : divOk a b = true) : opD .fdiv (.int a) (.int b) = okI (a.fdiv b) := by
  show (if divOk a b then okI (a.fdiv b) else .stuck) = _
  rw [if_pos h]
theorem o_pow {a b : Int} (h : 0 ≤ b ∧ b ≤ 1000000 ∧ a.natAbs < 2 ^ 64) : opD .pow (.int a) (.int b) = okI (a ^ b.toNat) := by
  show (if _ then okI (a ^ b.toNat) else .stuck) = _
  rw [if_pos h]
theorem ob_ok {α β : Type} (a : α) (f : α → Out β) : (Out.ok a).bind f = f a := (rfl)
theorem or_ok {α : Type} (a : α) (ρ : Env) (f : α → Res) : (Out.ok a).res ρ f = f a := (rfl)
theorem ob_exc {α β : Type} (c : Nat) (f : α → Out β) : (Out.exc c : Out α).bind f = .exc c := (rfl)
theorem or_exc {α : Type} (c : Nat) (ρ : Env) (f : α → Res) : (Out.exc c : Out α).res ρ f = .exc c ρ := (rfl)
theorem sh_sh (d : PyData) : (W.sh d).share = .ok d := (rfl)
theorem sh_nl (l : List PyData) : (W.nl l).share = .ok (.list l) := (rfl)
theorem t_b (b : Bool) : truth (.bool b) = .ok b := (rfl)
theorem t_i (b : Int) : truth (.int b) = .ok (b != 0) := (rfl)
theorem t_l (b : List PyData) : truth (.list b) = .ok (!b.isEmpty) := (rfl)
theorem t_t (b : List PyData) : truth (.tuple b) = .ok (!b.isEmpty) := (rfl)
theorem ix_l (l : List PyData) (i : Int) : ixD (.list l) (.int i) = match atI l i with | some d => .ok (.sh d) | none => .stuck := (rfl)
theorem ix_t (l : List PyData) (i : Int) : ixD (.tuple l) (.int i) = match atI l i with | some d => .ok (.sh d) | none => .stuck := (rfl)
def isB (o : Out W) (b : Bool) : Bool := match o with
  | .ok (.sh (.bool c)) => c == b
  | _ => false
theorem isB_eq {o : Out W} {b : Bool} (h : isB o b = true) : o = okB b := by
  unfold isB at h
  split at h
  · rw [eq_of_beq h] <;> exact (rfl)
  · cases h
def isNulE : E → Bool
  | .nul => true
  | _ => false
def andK (x : PyData) (r : Out W) : Out W := match x with
  | .bool true => r
  | .bool false => okB false
  | _ => .stuck
def orK (x : PyData) (r : Out W) : Out W := match x with
  | .bool true => okB true
  | .bool false => r
  | _ => .stuck
theorem andK_b (b : Bool) (r : Out W) : andK (.bool b) r = if b then r else okB false := by cases b <;> rfl
theorem orK_b (b : Bool) (r : Out W) : orK (.bool b) r = if b then okB true else r := by cases b <;> rfl
def notK (x : PyData) : Out W := match x with
  | .bool b => okB (!b)
  | _ => .stuck
theorem notK_b (b : Bool) : notK (.bool b) = okB (!b) := (rfl)
section
variable (P : Prg) (cl : Nat → List PyData → Out W) (fu : Nat) (ρ : Env)
theorem ea1 (e : E) : evAnd P cl (.cons e .nil) ρ = evE P cl e ρ := by simp only [evAnd]
theorem ea2 (e e' : E) (es : Es) : evAnd P cl (.cons e (.cons e' es)) ρ = (bor e (evE P cl e ρ) ρ).bind fun x => andK x (evAnd P cl (.cons e' es) ρ) := by simp only [evAnd] <;> exact (rfl)
theorem eo1 (e : E) : evOr P cl (.cons e .nil) ρ = evE P cl e ρ := by simp only [evOr]
theorem eo2 (e e' : E) (es : Es) : evOr P cl (.cons e (.cons e' es)) ρ = (bor e (evE P cl e ρ) ρ).bind fun x => orK x (evOr P cl (.cons e' es) ρ) := by simp only [evOr] <;> exact (rfl)
def slotK : Option (Option W) → Out PyData
  | some (some w) => w.view
  | _ => .stuck
theorem sk_w (w : W) : slotK (some (some w)) = w.view := (rfl)
theorem vw_sh (d : PyData) : (W.sh d).view = .ok d := (rfl)
theorem vw_nl (l : List PyData) : (W.nl l).view = .ok (.list l) := (rfl)
theorem vw_nd (l : List (List Int × PyData)) : (W.nd l).view = .ok (toD l) := (rfl)
def retK : Option (Option W) → Out W
  | some (some w) => .ok w
  | _ => .stuck
theorem rk_w (w : W) : retK (some (some w)) = .ok w := (rfl)
def pubK (ρ : Env) (i : Nat) : Option (Option W) → Env
  | some (some (.nl l)) => ρ.set i (some (.sh (.list l)))
  | some (some (.nd l)) => ρ.set i (some (.sh (toD l)))
  | _ => ρ
theorem pk_nd (i : Nat) (l : List (List Int × PyData)) : pubK ρ i (some (some (.nd l))) = ρ.set i (some (.sh (toD l))) := (rfl)
theorem pk_nl (i : Nat) (l : List PyData) : pubK ρ i (some (some (.nl l))) = ρ.set i (some (.sh (.list l))) := (rfl)
theorem pk_sh (i : Nat) (d : PyData) : pubK ρ i (some (some (.sh d))) = ρ := (rfl)
theorem pub_k (i : Nat) : pubE ρ i = pubK ρ i ρ[i]? := (rfl)
def shK : Option (Option W) → Bool
  | some (some (.sh _)) => true
  | _ => false
theorem shk_sh (d : PyData) : shK (some (some (.sh d))) = true := (rfl)
theorem she_var (i : Nat) : shE (.var i) ρ = shK ρ[i]? := (rfl)
theorem slot_k (i : Nat) : slotS ρ i = slotK ρ[i]? := (rfl)
theorem re_var (i : Nat) (r : Out W) : retE (.var i) r ρ = retK ρ[i]? := (rfl)
theorem bo_var (i : Nat) (r : Out W) : bor (.var i) r ρ = slotK ρ[i]? := (rfl)
theorem bo_cst (d : Const) (r : Out W) : bor (.cst d) r ρ = r.bind W.share := (rfl)
theorem re_cst (d : Const) (r : Out W) : retE (.cst d) r ρ = r := (rfl)
theorem she_cst (d : Const) : shE (.cst d) ρ = true := (rfl)
theorem bo_glob (i : Nat) (r : Out W) : bor (.glob i) r ρ = r.bind W.share := (rfl)
theorem re_glob (i : Nat) (r : Out W) : retE (.glob i) r ρ = r := (rfl)
theorem she_glob (i : Nat) : shE (.glob i) ρ = true := (rfl)
theorem bo_bin (o : BOp) (a b : E) (r : Out W) : bor (.bin o a b) r ρ = r.bind W.share := (rfl)
theorem re_bin (o : BOp) (a b : E) (r : Out W) : retE (.bin o a b) r ρ = r := (rfl)
theorem she_bin (o : BOp) (a b : E) : shE (.bin o a b) ρ = true := (rfl)
theorem bo_neg (a : E) (r : Out W) : bor (.neg a) r ρ = r.bind W.share := (rfl)
theorem re_neg (a : E) (r : Out W) : retE (.neg a) r ρ = r := (rfl)
theorem she_neg (a : E) : shE (.neg a) ρ = true := (rfl)
theorem bo_notv (a : E) (r : Out W) : bor (.notv a) r ρ = r.bind W.share := (rfl)
theorem re_notv (a : E) (r : Out W) : retE (.notv a) r ρ = r := (rfl)
theorem she_notv (a : E) : shE (.notv a) ρ = true := (rfl)
theorem bo_cmp (o : COp) (a b : E) (r : Out W) : bor (.cmp o a b) r ρ = r.bind W.share := (rfl)
theorem re_cmp (o : COp) (a b : E) (r : Out W) : retE (.cmp o a b) r ρ = r := (rfl)
theorem she_cmp (o : COp) (a b : E) : shE (.cmp o a b) ρ = true := (rfl)
theorem bo_chn (o o2 : COp) (a b c : E) (r : Out W) : bor (.chn o o2 a b c) r ρ = r.bind W.share := (rfl)
theorem re_chn (o o2 : COp) (a b c : E) (r : Out W) : retE (.chn o o2 a b c) r ρ = r := (rfl)
theorem she_chn (o o2 : COp) (a b c : E) : shE (.chn o o2 a b c) ρ = true := (rfl)
theorem bo_andv (es : Es) (r : Out W) : bor (.andv es) r ρ = r.bind W.share := (rfl)
theorem re_andv (es : Es) (r : Out W) : retE (.andv es) r ρ = r := (rfl)
theorem she_andv (es : Es) : shE (.andv es) ρ = true := (rfl)
theorem bo_orv (es : Es) (r : Out W) : bor (.orv es) r ρ = r.bind W.share := (rfl)
theorem re_orv (es : Es) (r : Out W) : retE (.orv es) r ρ = r := (rfl)
theorem she_orv (es : Es) : shE (.orv es) ρ = true := (rfl)
theorem bo_ite (c : T) (a b : E) (r : Out W) : bor (.ite c a b) r ρ = r.bind W.share := (rfl)
theorem re_ite (c : T) (a b : E) (r : Out W) : retE (.ite c a b) r ρ = r := (rfl)
theorem she_ite (c : T) (a b : E) : shE (.ite c a b) ρ = true := (rfl)
theorem bo_tup (es : Es) (r : Out W) : bor (.tup es) r ρ = r.bind W.share := (rfl)
theorem re_tup (es : Es) (r : Out W) : retE (.tup es) r ρ = r := (rfl)
theorem she_tup (es : Es) : shE (.tup es) ρ = true := (rfl)
theorem bo_lst (es : Es) (r : Out W) : bor (.lst es) r ρ = r.bind W.share := (rfl)
theorem re_lst (es : Es) (r : Out W) : retE (.lst es) r ρ = r := (rfl)
theorem she_lst (es : Es) : shE (.lst es) ρ = true := (rfl)
theorem bo_ix (a i : E) (r : Out W) : bor (.ix a i) r ρ = r.bind W.share := (rfl)
theorem re_ix (a i : E) (r : Out W) : retE (.ix a i) r ρ = r := (rfl)
theorem she_ix (a i : E) : shE (.ix a i) ρ = true := (rfl)
theorem bo_sl (a lo hi : E) (r : Out W) : bor (.sl a lo hi) r ρ = r.bind W.share := (rfl)
theorem re_sl (a lo hi : E) (r : Out W) : retE (.sl a lo hi) r ρ = r := (rfl)
theorem she_sl (a lo hi : E) : shE (.sl a lo hi) ρ = true := (rfl)
theorem bo_repl (a b : E) (r : Out W) : bor (.repl a b) r ρ = r.bind W.share := (rfl)
theorem re_repl (a b : E) (r : Out W) : retE (.repl a b) r ρ = r := (rfl)
theorem she_repl (a b : E) : shE (.repl a b) ρ = true := (rfl)
theorem bo_cat (a b : E) (r : Out W) : bor (.cat a b) r ρ = r.bind W.share := (rfl)
theorem re_cat (a b : E) (r : Out W) : retE (.cat a b) r ρ = r := (rfl)
theorem she_cat (a b : E) : shE (.cat a b) ρ = true := (rfl)
theorem bo_call0 (f : Nat) (r : Out W) : bor (.call0 f) r ρ = r.bind W.share := (rfl)
theorem re_call0 (f : Nat) (r : Out W) : retE (.call0 f) r ρ = r := (rfl)
theorem she_call0 (f : Nat) : shE (.call0 f) ρ = true := (rfl)
theorem bo_call (f : Nat) (es : Es) (r : Out W) : bor (.call f es) r ρ = r.bind W.share := (rfl)
theorem re_call (f : Nat) (es : Es) (r : Out W) : retE (.call f es) r ρ = r := (rfl)
theorem she_call (f : Nat) (es : Es) : shE (.call f es) ρ = true := (rfl)
theorem bo_bi (b : Bi) (es : Es) (r : Out W) : bor (.bi b es) r ρ = r.bind W.share := (rfl)
theorem re_bi (b : Bi) (es : Es) (r : Out W) : retE (.bi b es) r ρ = r := (rfl)
theorem she_bi (b : Bi) (es : Es) : shE (.bi b es) ρ = true := (rfl)
theorem bo_isi (t : Ty) (a : E) (r : Out W) : bor (.isi t a) r ρ = r.bind W.share := (rfl)
theorem re_isi (t : Ty) (a : E) (r : Out W) : retE (.isi t a) r ρ = r := (rfl)
theorem she_isi (t : Ty) (a : E) : shE (.isi t a) ρ = true := (rfl)
theorem bo_me (m : Me) (o : E) (es : Es) (r : Out W) : bor (.me m o es) r ρ = r.bind W.share := (rfl)
theorem re_me (m : Me) (o : E) (es : Es) (r : Out W) : retE (.me m o es) r ρ = r := (rfl)
theorem she_me (m : Me) (o : E) (es : Es) : shE (.me m o es) ρ = true := (rfl)
theorem bo_lc (src : Src) (tg : Tg) (own : List (Str × Nat)) (c : T) (elt : E) (r : Out W) : bor (.lc src tg own c elt) r ρ = r.bind W.share := (rfl)
theorem re_lc (src : Src) (tg : Tg) (own : List (Str × Nat)) (c : T) (elt : E) (r : Out W) : retE (.lc src tg own c elt) r ρ = r := (rfl)
theorem she_lc (src : Src) (tg : Tg) (own : List (Str × Nat)) (c : T) (elt : E) : shE (.lc src tg own c elt) ρ = true := (rfl)
theorem bo_edc (r : Out W) : bor .edc r ρ = r.bind W.share := (rfl)
theorem re_edc (r : Out W) : retE .edc r ρ = r := (rfl)
theorem ssh_seq (e : E) : srcSh (.seq e) ρ = shE e ρ := (rfl)
theorem ssh_rev (e : E) : srcSh (.rev e) ρ = shE e ρ := (rfl)
theorem ssh_enm (e : E) : srcSh (.enm e) ρ = shE e ρ := (rfl)
theorem ssh_zip (a b : E) : srcSh (.zip a b) ρ = (shE a ρ && shE b ρ) := (rfl)
theorem ssh_zps (a b : E) : srcSh (.zps a b) ρ = (shE a ρ && shE b ρ) := (rfl)
theorem ssh_zip3 (a b c : E) : srcSh (.zip3 a b c) ρ = (shE a ρ && (shE b ρ && shE c ρ)) := (rfl)
theorem ssh_r1 (a : E) : srcSh (.rng1 a) ρ = true := (rfl)
theorem ssh_r2 (a b : E) : srcSh (.rng2 a b) ρ = true := (rfl)
theorem ssh_r3 (a b c : E) : srcSh (.rng3 a b c) ρ = true := (rfl)
theorem bd_some (e : E) (r : Out PyData) (h : isNulE e = false) : bnd e r = r.bind intOf := by cases e <;> first | rfl | cases h
theorem bnd_k (e : E) (r : Out PyData) : bnd e r = if isNulE e then .ok none else r.bind intOf := by cases e <;> exact (rfl)
theorem bd_nul (r : Out PyData) : bnd .nul r = .ok none := (rfl)
theorem int_of (i : Int) : intOf (.int i) = .ok (some i) := (rfl)
def varK : Option (Option W) → Out W
  | some (some (.sh d)) => .ok (.sh d)
  | _ => .stuck
theorem ev_var (i : Nat) : evE P cl (.var i) ρ = varK ρ[i]? := by simp only [evE] <;> exact (rfl)
theorem vk_sh (d : PyData) : varK (some (some (.sh d))) = .ok (.sh d) := (rfl)
theorem ev_and (es : Es) : evE P cl (.andv es) ρ = evAnd P cl es ρ := by simp only [evE]
theorem ev_or (es : Es) : evE P cl (.orv es) ρ = evOr P cl es ρ := by simp only [evE]
theorem ev_notv (a : E) : evE P cl (.notv a) ρ = (bor a (evE P cl a ρ) ρ).bind notK := by simp only [evE] <;> exact (rfl)
theorem ev_cst (c : Const) : evE P cl (.cst c) ρ = constD c := by simp only [evE]
theorem ev_bin (o : BOp) (a b : E) : evE P cl (.bin o a b) ρ = (bor a (evE P cl a ρ) ρ).bind fun x => (bor b (evE P cl b ρ) ρ).bind fun y => opD o x y := by simp only [evE]
theorem ev_neg (a : E) : evE P cl (.neg a) ρ = (bor a (evE P cl a ρ) ρ).bind negD := by simp only [evE]
theorem ev_cmp (o : COp) (a b : E) : evE P cl (.cmp o a b) ρ = (bor a (evE P cl a ρ) ρ).bind fun x => (bor b (evE P cl b ρ) ρ).bind fun y => cmpD o x y := by simp only [evE]
theorem ev_ite (c : T) (a b : E) : evE P cl (.ite c a b) ρ = (evT P cl c ρ).bind fun x => if x then evE P cl a ρ else evE P cl b ρ := by simp only [evE]
theorem ev_tup (es : Es) : evE P cl (.tup es) ρ = (evEs P cl es ρ).bind fun ds => .ok (.sh (.tuple ds)) := by simp only [evE]
theorem ev_lst (es : Es) : evE P cl (.lst es) ρ = (evEs P cl es ρ).bind fun ds => .ok (.nl ds) := by simp only [evE]
theorem ev_ix (a i : E) : evE P cl (.ix a i) ρ = (bor a (evE P cl a ρ) ρ).bind fun x => (bor i (evE P cl i ρ) ρ).bind fun y => ixD x y := by simp only [evE]
theorem ev_sl (a lo hi : E) : evE P cl (.sl a lo hi) ρ = (bor a (evE P cl a ρ) ρ).bind fun x => (bnd lo (bor lo (evE P cl lo ρ) ρ)).bind fun y => (bnd hi (bor hi (evE P cl hi ρ) ρ)).bind fun z => slD x y z := by simp only [evE]
theorem ev_call (f : Nat) (es : Es) : evE P cl (.call f es) ρ = (evEs P cl es ρ).bind fun ds => cl f ds := by simp only [evE]
theorem ev_call0 (f : Nat) : evE P cl (.call0 f) ρ = match cl f [] with | .ok r => .ok r | _ => .stuck := by simp only [evE] <;> exact (rfl)
theorem ev_bi (b : Bi) (es : Es) : evE P cl (.bi b es) ρ = (evBs P cl es ρ).bind fun ds => biD b ds := by simp only [evE]
theorem ev_isi (t : Ty) (a : E) : evE P cl (.isi t a) ρ = (bor a (evE P cl a ρ) ρ).bind fun x => okB (tyD t x) := by simp only [evE]
theorem ev_cat (a b : E) : evE P cl (.cat a b) ρ = (borN a (evE P cl a ρ) ρ).bind fun x => (borN b (evE P cl b ρ) ρ).bind fun y => catD x y := by simp only [evE]
def lcT (tg : Tg) (own : List (Str × Nat)) (c : T) (elt : E) (x : PyData) : Out (Option PyData) := lcTurn tg own ρ (fun ρ' => evT P cl c ρ') (fun ρ' => evE P cl elt ρ') x
def lcEnd (l : List PyData) : Out W := if lenOk l.length then .ok (.nl l) else .stuck
theorem ev_lc (src : Src) (tg : Tg) (own : List (Str × Nat)) (c : T) (elt : E) : evE P cl (.lc src tg own c elt) ρ = (evI P cl src ρ).bind fun items => (lcLoop (lcT P cl ρ tg own c elt) items).bind lcEnd := by simp only [evE] <;> exact (rfl)
theorem es_nil : evEs P cl .nil ρ = .ok [] := by simp only [evEs]
theorem es_cons (e : E) (es : Es) : evEs P cl (.cons e es) ρ = (evE P cl e ρ).bind fun w => w.share.bind fun d => (evEs P cl es ρ).bind fun ds => .ok (d :: ds) := by simp only [evEs]
theorem bs_nil : evBs P cl .nil ρ = .ok [] := by simp only [evBs]
theorem bs_cons (e : E) (es : Es) : evBs P cl (.cons e es) ρ = (bor e (evE P cl e ρ) ρ).bind fun d => (evBs P cl es ρ).bind fun ds => .ok (d :: ds) := by simp only [evBs]
theorem et_yes : evT P cl .yes ρ = .ok true := by simp only [evT]
theorem et_val (e : E) : evT P cl (.val e) ρ = (bor e (evE P cl e ρ) ρ).bind truth := by simp only [evT]
theorem et_nt (t : T) : evT P cl (.nt t) ρ = (evT P cl t ρ).bind fun b => .ok (!b) := by simp only [evT]
theorem et_and (ts : Ts) : evT P cl (.and ts) ρ = evAll P cl ts ρ := by simp only [evT]
theorem et_or (ts : Ts) : evT P cl (.or ts) ρ = evAny P cl ts ρ := by simp only [evT]
theorem al1 (t : T) : evAll P cl (.one t) ρ = evT P cl t ρ := by simp only [evAll]
theorem al2 (t : T) (ts : Ts) : evAll P cl (.cons t ts) ρ = (evT P cl t ρ).bind fun b => if b then evAll P cl ts ρ else .ok false := by simp only [evAll]
theorem an1 (t : T) : evAny P cl (.one t) ρ = evT P cl t ρ := by simp only [evAny]
theorem an2 (t : T) (ts : Ts) : evAny P cl (.cons t ts) ρ = (evT P cl t ρ).bind fun b => if b then .ok true else evAny P cl ts ρ := by simp only [evAny]
theorem ei_seq (e : E) : evI P cl (.seq e) ρ = (bor e (evE P cl e ρ) ρ).bind seqD := by simp only [evI]
theorem ei_r1 (a : E) : evI P cl (.rng1 a) ρ = (bor a (evE P cl a ρ) ρ).bind rng1D := by simp only [evI]
theorem ei_r2 (a b : E) : evI P cl (.rng2 a b) ρ = (bor a (evE P cl a ρ) ρ).bind fun x => (bor b (evE P cl b ρ) ρ).bind fun y => rng2D x y := by simp only [evI]
theorem s_asg' (i : Nat) (e : E) : evS P cl fu (.asg i e) ρ = (evE P cl e ρ).res ρ fun w => setR ρ i w := by simp only [evS]
def tasgR (is : List Nat) (ρ : Env) (d : PyData) : Res := match bindTg (.tp is) d ρ with
  | some ρ' => .nx ρ'
  | none => .stuck
theorem s_tasg' (is : List Nat) (e : E) : evS P cl fu (.tasg is e) ρ = (bor e (evE P cl e ρ) ρ).res ρ fun d => tasgR is ρ d := by simp only [evS] <;> exact (rfl)
theorem ta_2 (i j : Nat) (a b : PyData) (h1 : i < ρ.length) (h2 : j < ρ.length) : tasgR [i, j] ρ (.tuple [a, b]) = .nx ((ρ.set i (some (.sh a))).set j (some (.sh b))) := by
  have e : bindTg (.tp [i, j]) (.tuple [a, b]) ρ = some ((ρ.set i (some (.sh a))).set j (some (.sh b))) := by
    show (if _ ∧ _ then _ else _) = _
    rw [if_pos ⟨rfl, by simp [h1, h2]⟩]
    rfl
  unfold tasgR
  rw [e]
theorem ta_3 (i j l : Nat) (a b c : PyData) (h1 : i < ρ.length) (h2 : j < ρ.length) (h3 : l < ρ.length) : tasgR [i, j, l] ρ (.tuple [a, b, c]) = .nx (((ρ.set i (some (.sh a))).set j (some (.sh b))).set l (some (.sh c))) := by
  have e : bindTg (.tp [i, j, l]) (.tuple [a, b, c]) ρ = some (((ρ.set i (some (.sh a))).set j (some (.sh b))).set l (some (.sh c))) := by
    show (if _ ∧ _ then _ else _) = _
    rw [if_pos ⟨rfl, by simp [h1, h2, h3]⟩]
    rfl
  unfold tasgR
  rw [e]
theorem s_par' (i j : Nat) (a b : E) : evS P cl fu (.par i j a b) ρ = (evE P cl a ρ).res ρ fun w => w.share.res ρ fun d => (evE P cl b ρ).res ρ fun w' => w'.share.res ρ fun d' => if i < ρ.length ∧ j < ρ.length then .nx ((ρ.set i (some (.sh d))).set j (some (.sh d'))) else .stuck := by simp only [evS]
theorem s_aug' (i : Nat) (o : BOp) (e : E) : evS P cl fu (.aug i o e) ρ = (slotS ρ i).res ρ fun x => (bor e (evE P cl e ρ) ρ).res ρ fun y => (augD o x y).res ρ fun w => setR ρ i w := by simp only [evS]
theorem s_ifs' (c : T) (a b : B) : evS P cl fu (.ifs c a b) ρ = (evT P cl c ρ).res ρ fun t => if t then evBk P cl fu a ρ else evBk P cl fu b ρ := by simp only [evS]
def fBody (tg : Tg) (b : B) (x : PyData) (ρ' : Env) : Res := match bindTg tg x ρ' with
  | some ρ2 => evBk P cl fu b ρ2
  | none => .stuck
theorem fb_tp (is : List Nat) (b : B) (x : PyData) (ρ' : Env) (h : tasgR is ρ x = .nx ρ') : fBody P cl fu (.tp is) b x ρ = evBk P cl fu b ρ' := by
  unfold tasgR at h
  unfold fBody
  cases e : bindTg (.tp is) x ρ with
  | none => rw [e] at h; cases h
  | some z => rw [e] at h; cases h <;> exact (rfl)
theorem fb_nm (i : Nat) (b : B) (x : PyData) (h : i < ρ.length) : fBody P cl fu (.nm i) b x ρ = evBk P cl fu b (ρ.set i (some (.sh x))) := by
  have e : bindTg (.nm i) x ρ = some (ρ.set i (some (.sh x))) := if_pos h
  unfold fBody
  rw [e]
theorem s_for' (tg : Tg) (src : Src) (b : B) : evS P cl fu (.for tg src b) ρ = if srcSh src ρ then (evI P cl src ρ).res ρ fun items => forLoop (fBody P cl fu tg b) items ρ else .stuck := by simp only [evS] <;> exact (rfl)
theorem s_whl' (c : T) (b : B) : evS P cl fu (.whl c b) ρ = whlLoop (evT P cl c) (evBk P cl fu b) fu ρ := by simp only [evS]
theorem s_ret' (e : E) : evS P cl fu (.ret e) ρ = (retE e (evE P cl e ρ) ρ).res ρ fun w => .ret w := by simp only [evS]
theorem s_app' (i : Nat) (e : E) : evS P cl fu (.app i e) ρ = match ρ[i]? with | some (some (.nl l)) => (evE P cl e ρ).res ρ fun w => w.share.res ρ fun d => if lenOk (l.length + 1) then .nx (ρ.set i (some (.nl (l ++ [d])))) else .stuck | _ => .stuck := by simp only [evS] <;> exact (rfl)
theorem s_brk' : evS P cl fu .brk ρ = .brk ρ := by simp only [evS]
theorem s_cnt' : evS P cl fu .cnt ρ = .cnt ρ := by simp only [evS]
theorem s_pass' : evS P cl fu .pass ρ = .nx ρ := by simp only [evS]
theorem s_raise' (c : Nat) : evS P cl fu (.raise c) ρ = .exc c ρ := by simp only [evS]
theorem ev_ndc : evE P cl .ndc ρ = .ok (.nd []) := by simp only [evE]
theorem ev_lix (a b : E) : evE P cl (.lix a b) ρ = (bor a (evE P cl a ρ) ρ).bind fun x => (lsO x).bind fun _ => (bor b (evE P cl b ρ) ρ).bind fun y => lixD x y := by simp only [evE]
theorem bo_lix (a b : E) (r : Out W) : bor (.lix a b) r ρ = r.bind W.share := (rfl)
theorem re_lix (a b : E) (r : Out W) : retE (.lix a b) r ρ = r := (rfl)
theorem she_lix (a b : E) : shE (.lix a b) ρ = true := (rfl)
theorem ev_mth (m : Me) (a b : E) : evE P cl (.mth m a b) ρ = (bor a (evE P cl a ρ) ρ).bind fun x => (strU x).bind fun _ => (bor b (evE P cl b ρ) ρ).bind fun y => mthD m x y := by simp only [evE]
theorem bo_mth (m : Me) (a b : E) (r : Out W) : bor (.mth m a b) r ρ = r.bind W.share := (rfl)
theorem re_mth (m : Me) (a b : E) (r : Out W) : retE (.mth m a b) r ρ = r := (rfl)
theorem she_mth (m : Me) (a b : E) : shE (.mth m a b) ρ = true := (rfl)
theorem strU_s (s : Str) : strU (.str s) = .ok () := (rfl)
theorem ev_lct (a b : E) : evE P cl (.lct a b) ρ = (bor a (evE P cl a ρ) ρ).bind fun x => (lsO x).bind fun _ => (bor b (evE P cl b ρ) ρ).bind fun y => lctD x y := by simp only [evE]
theorem bo_lct (a b : E) (r : Out W) : bor (.lct a b) r ρ = r.bind W.share := (rfl)
theorem re_lct (a b : E) (r : Out W) : retE (.lct a b) r ρ = r := (rfl)
theorem she_lct (a b : E) : shE (.lct a b) ρ = true := (rfl)
theorem lsO_l (l : List PyData) : lsO (.list l) = .ok () := (rfl)
theorem ev_rsl (a : E) : evE P cl (.rsl a) ρ = (bor a (evE P cl a ρ) ρ).bind revS := by simp only [evE]
theorem ev_stp (i : Nat) (a : E) : evE P cl (.stp i a) ρ = (bor a (evE P cl a ρ) ρ).bind (stpD i) := by simp only [evE]
theorem bo_stp (i : Nat) (a : E) (r : Out W) : bor (.stp i a) r ρ = r.bind W.share := (rfl)
theorem re_stp (i : Nat) (a : E) (r : Out W) : retE (.stp i a) r ρ = r := (rfl)
theorem ev_mxd (a d : E) : evE P cl (.mxd a d) ρ = (bor a (evE P cl a ρ) ρ).bind fun x => (bor d (evE P cl d ρ) ρ).bind fun y => mxdD x y := by simp only [evE]
theorem bo_mxd (a d : E) (r : Out W) : bor (.mxd a d) r ρ = r.bind W.share := (rfl)
theorem re_mxd (a d : E) (r : Out W) : retE (.mxd a d) r ρ = r := (rfl)
theorem she_mxd (a d : E) : shE (.mxd a d) ρ = true := (rfl)
def lc2T (src2 : Src) (tg : Tg) (own : List (Str × Nat)) (tg2 : Tg) (own2 : List (Str × Nat)) (elt : E) (x : PyData) : Out (List PyData) := lc2Turn tg own ρ (srcSh src2) (fun ρ' => evI P cl src2 ρ') tg2 own2 (fun ρ' => evE P cl elt ρ') x
theorem ev_lc2 (src : Src) (tg : Tg) (src2 : Src) (tg2 : Tg) (own own2 : List (Str × Nat)) (elt : E) : evE P cl (.lc2 src tg src2 tg2 own own2 elt) ρ = (evI P cl src ρ).bind fun items => (lc2Loop (lc2T P cl ρ src2 tg own tg2 own2 elt) items).bind lcEnd := by simp only [evE] <;> exact (rfl)
theorem bo_lc2 (src : Src) (tg : Tg) (src2 : Src) (tg2 : Tg) (own own2 : List (Str × Nat)) (elt : E) (r : Out W) : bor (.lc2 src tg src2 tg2 own own2 elt) r ρ = r.bind W.share := (rfl)
theorem re_lc2 (src : Src) (tg : Tg) (src2 : Src) (tg2 : Tg) (own own2 : List (Str × Nat)) (elt : E) (r : Out W) : retE (.lc2 src tg src2 tg2 own own2 elt) r ρ = r := (rfl)
theorem bo_rsl (a : E) (r : Out W) : bor (.rsl a) r ρ = r.bind W.share := (rfl)
theorem re_rsl (a : E) (r : Out W) : retE (.rsl a) r ρ = r := (rfl)
theorem ev_dd (k e : E) : evE P cl (.dd k e) ρ = (evE P cl k ρ).bind fun w => w.share.bind fun kd => (evE P cl e ρ).bind fun w' => w'.share.bind fun d => ddD kd d := by simp only [evE]
theorem bo_dd (k e : E) (r : Out W) : bor (.dd k e) r ρ = r.bind W.share := (rfl)
theorem re_dd (k e : E) (r : Out W) : retE (.dd k e) r ρ = r := (rfl)
theorem bo_ndc (r : Out W) : bor .ndc r ρ = r.bind W.share := (rfl)
theorem re_ndc (r : Out W) : retE .ndc r ρ = r := (rfl)
theorem ev_edc : evE P cl .edc ρ = .ok (.sh (.dict [])) := by simp only [evE]
theorem ev_me (m : Me) (o : E) (es : Es) : evE P cl (.me m o es) ρ = (bor o (evE P cl o ρ) ρ).bind fun x => (meOk m x).bind fun _ => (evEs P cl es ρ).bind fun ds => meD m x ds := by simp only [evE]
def dsK (o : Option (Option W)) (ρ : Env) (i : Nat) (f : List (List Int × PyData) → Res) : Res := match o with
  | some (some (.nd kvs)) => f kvs
  | _ => .stuck
theorem dsK_nd (ρ : Env) (i : Nat) (kvs : List (List Int × PyData)) (f : List (List Int × PyData) → Res) : dsK (some (some (.nd kvs))) ρ i f = f kvs := (rfl)
def setK (ρ : Env) (i : Nat) (kvs : List (List Int × PyData)) (d : PyData) : Option (List Int) → Res
  | some ns => if lenOk (kvs.length + 1) then .nx (ρ.set i (some (.nd (putK kvs ns d)))) else .stuck
  | none => .stuck
def ndK (ρ : Env) (i : Nat) : W → Res
  | .nd kvs' => .nx (ρ.set i (some (.nd kvs')))
  | _ => .stuck
theorem ndK_nd (ρ : Env) (i : Nat) (kvs : List (List Int × PyData)) : ndK ρ i (.nd kvs) = .nx (ρ.set i (some (.nd kvs))) := (rfl)
theorem s_mut' (f i : Nat) (es : Es) : evS P cl fu (.mutS f i es) ρ = dsK ρ[i]? ρ i fun kvs => (evEs P cl es ρ).res ρ fun ds => (cl f (toD kvs :: ds)).res ρ (ndK ρ i) := by
  simp only [evS]
  cases ρ[i]? with
  | none => exact (rfl)
  | some o =>
    cases o with
    | none => exact (rfl)
    | some w => cases w <;> exact (rfl)
theorem s_dset' (i : Nat) (k e : E) : evS P cl fu (.dset i k e) ρ = dsK ρ[i]? ρ i fun kvs => (evE P cl e ρ).res ρ fun w => w.share.res ρ fun d => (bor k (evE P cl k ρ) ρ).res ρ fun kd => setK ρ i kvs d (keyI kd) := by
  simp only [evS]
  cases ρ[i]? with
  | none => exact (rfl)
  | some o =>
    cases o with
    | none => exact (rfl)
    | some w => cases w <;> exact (rfl)
theorem s_try' (b : B) (hs : List (Nat × Const)) : evS P cl fu (.tryR b hs) ρ = tryK P hs (evBk P cl fu b ρ) := by simp only [evS]
theorem tk_ret (hs : List (Nat × Const)) (w : W) : tryK P hs (.ret w) = .ret w := (rfl)
theorem tk_nx (hs : List (Nat × Const)) : tryK P hs (.nx ρ) = .nx ρ := (rfl)
theorem tk_exc (hs : List (Nat × Const)) (c : Nat) : tryK P hs (.exc c ρ) = catchR P c ρ hs := (rfl)
def hdK : Out W → Res
  | .ok w => .ret w
  | _ => .stuck
theorem hdK_ok (w : W) : hdK (.ok w) = .ret w := (rfl)
theorem ct_nil (c : Nat) : catchR P c ρ [] = .exc c ρ := (rfl)
theorem ct_hit {c h : Nat} (d : Const) (r : List (Nat × Const)) (e : P.subs.contains (c, h) = true) : catchR P c ρ ((h, d) :: r) = hdK (constD d) := by
  show (if P.subs.contains (c, h) then (match constD d with | .ok w => .ret w | _ => .stuck) else catchR P c ρ r) = _
  rw [if_pos e]
  cases constD d <;> exact (rfl)
theorem ct_miss {c h : Nat} (d : Const) (r : List (Nat × Const)) (e : P.subs.contains (c, h) = false) : catchR P c ρ ((h, d) :: r) = catchR P c ρ r := by
  show (if P.subs.contains (c, h) then (match constD d with | .ok w => .ret w | _ => .stuck) else catchR P c ρ r) = _
  rw [if_neg (by rw [e]; decide)]
def thenB (r : Res) (f : Env → Res) : Res := match r with
  | .nx ρ' => f ρ'
  | r => r
theorem bk_nil : evBk P cl fu .nil ρ = .nx ρ := by simp only [evBk]
theorem bk_cons (s : S) (b : B) : evBk P cl fu (.cons s b) ρ = thenB (evS P cl fu s ρ) (evBk P cl fu b) := by simp only [evBk] <;> exact (rfl)
theorem bk_pub (i : Nat) (b : B) : evBk P cl fu (.pub i b) ρ = evBk P cl fu b (pubE ρ i) := by simp only [evBk]
theorem th_nx (f : Env → Res) : thenB (.nx ρ) f = f ρ := (rfl)
theorem th_ret (w : W) (f : Env → Res) : thenB (.ret w) f = .ret w := (rfl)
theorem th_brk (f : Env → Res) : thenB (.brk ρ) f = .brk ρ := (rfl)
theorem th_cnt (f : Env → Res) : thenB (.cnt ρ) f = .cnt ρ := (rfl)
theorem th_exc (c : Nat) (f : Env → Res) : thenB (.exc c ρ) f = .exc c ρ := (rfl)
theorem th_ite (b : Prop) [Decidable b] (x y : Res) (f : Env → Res) : thenB (if b then x else y) f = if b then thenB x f else thenB y f := by split <;> rfl
def outR : Res → Out W
  | .ret r => .ok r
  | .nx _ => .ok (.sh .none)
  | .exc c _ => .exc c
  | _ => .stuck
theorem run_eq (d : DefIR) (ds : List PyData) (h : ds.length = d.ps.length) (hm : d.mu = false) : runDef P fu cl d ds = outR (evBk P cl fu d.body (ds.map (fun d => some (.sh d)) ++ List.replicate (d.N.length - ds.length) none)) := by
  unfold runDef
  rw [if_pos h, if_neg (by rw [hm]; decide)]
  cases evBk P cl fu d.body (ds.map (fun d => some (.sh d)) ++ List.replicate (d.N.length - ds.length) none) <;> rfl
theorem out_ret (r : W) : outR (.ret r) = .ok r := (rfl)
theorem out_nx (ρ : Env) : outR (.nx ρ) = .ok (.sh .none) := (rfl)
theorem out_exc (c : Nat) (ρ : Env) : outR (.exc c ρ) = .exc c := (rfl)
theorem bi_ite {α β : Type} (b : Prop) [Decidable b] (x y : Out α) (f : α → Out β) : (if b then x else y).bind f = if b then x.bind f else y.bind f := by split <;> rfl
theorem rs_ite {α : Type} (b : Prop) [Decidable b] (x y : Out α) (ρ : Env) (f : α → Res) : (if b then x else y).res ρ f = if b then x.res ρ f else y.res ρ f := by split <;> rfl
theorem constD_i (i : Int) : constD (.int i) = .ok (.sh (.int i)) := (rfl)
theorem constD_b (i : Bool) : constD (.bool i) = .ok (.sh (.bool i)) := (rfl)
theorem constD_s (i : Str) : constD (.str i) = .ok (.sh (.str i)) := (rfl)
theorem constD_n : constD .none = .ok (.sh .none) := (rfl)
theorem len_l (l : List PyData) : lenD (.list l) = okI l.length := (rfl)
theorem len_t (l : List PyData) : lenD (.tuple l) = okI l.length := (rfl)
theorem abs_i (i : Int) : absD (.int i) = okI (if i < 0 then -i else i) := (rfl)
theorem int_i (i : Int) : intD (.int i) = okI i := (rfl)
theorem int_b (b : Bool) : intD (.bool b) = okI (b2I b) := (rfl)
theorem neg_i (i : Int) : negD (.int i) = okI (-i) := (rfl)
theorem gcd_i (a b : Int) : gcdD (.int a) (.int b) = okI ((Nat.gcd a.natAbs b.natAbs : Nat) : Int) := (rfl)
theorem max1_l {l : List PyData} {ns : List Int} (h : intsOf l = some ns) (h0 : 0 < ns.length) : max1D (.list l) = okI (maxL ns) := by
  show (match intsOf l with | some ns => if 0 < ns.length then okI (maxL ns) else .stuck | none => .stuck) = _
  rw [h]; exact if_pos h0
theorem max1_t {l : List PyData} {ns : List Int} (h : intsOf l = some ns) (h0 : 0 < ns.length) : max1D (.tuple l) = okI (maxL ns) := by
  show (match intsOf l with | some ns => if 0 < ns.length then okI (maxL ns) else .stuck | none => .stuck) = _
  rw [h]; exact if_pos h0
theorem mxd_l {l : List PyData} {ns : List Int} {i : Int} (h : intsOf l = some ns) : mxdD (.list l) (.int i) = okI (if ns = [] then i else maxL ns) := by
  show (match intsOf l with | some ns => if ns = [] then okI i else okI (maxL ns) | none => .stuck) = _
  rw [h]
  by_cases z : ns = []
  · rw [if_pos z]; exact if_pos z
  · rw [if_neg z]; exact if_neg z
theorem stp_l (i : Nat) (l : List PyData) : stpD i (.list l) = .ok (.nl (evr (l.drop i))) := (rfl)
theorem max_i (a b : Int) : max2D (.int a) (.int b) = okI (if b > a then b else a) := (rfl)
theorem min_i (a b : Int) : min2D (.int a) (.int b) = okI (if b < a then b else a) := (rfl)
theorem seq_l (l : List PyData) : seqD (.list l) = .ok l := (rfl)
theorem seq_t (l : List PyData) : seqD (.tuple l) = .ok l := (rfl)
theorem outR_ite (b : Prop) [Decidable b] (x y : Res) : outR (if b then x else y) = if b then outR x else outR y := by split <;> rfl
end
theorem call_run {P : Prg} {fu k f : Nat} {d : DefIR} {ds : List PyData} (h : P.defs[f]? = some d) (hl : ds.length = d.ps.length) (hm : d.mu = false) : callF P fu (k + 1) f ds = outR (evBk P (callF P fu k) fu d.body (ds.map (fun d => some (.sh d)) ++ List.replicate (d.N.length - ds.length) none)) := by
  rw [callF_eq h, run_eq _ _ _ _ _ hl hm]
theorem set_r (ρ : Env) (i : Nat) (w : W) (h : i < ρ.length) : setR ρ i w = .nx (ρ.set i (some w)) := if_pos h
theorem fl_nil (f : PyData → Env → Res) (ρ : Env) : forLoop f [] ρ = .nx ρ := (rfl)
theorem fl_nx {f : PyData → Env → Res} {x : PyData} {xs : List PyData} {ρ ρ' : Env} (h : f x ρ = .nx ρ') : forLoop f (x :: xs) ρ = forLoop f xs ρ' := by
  show (match f x ρ with | .nx ρ' => forLoop f xs ρ' | .cnt ρ' => forLoop f xs ρ' | .brk ρ' => .nx ρ' | r => r) = _
  rw [h]
theorem fl_cnt {f : PyData → Env → Res} {x : PyData} {xs : List PyData} {ρ ρ' : Env} (h : f x ρ = .cnt ρ') : forLoop f (x :: xs) ρ = forLoop f xs ρ' := by
  show (match f x ρ with | .nx ρ' => forLoop f xs ρ' | .cnt ρ' => forLoop f xs ρ' | .brk ρ' => .nx ρ' | r => r) = _
  rw [h]
theorem fl_ret {f : PyData → Env → Res} {x : PyData} {xs : List PyData} {ρ : Env} {w : W} (h : f x ρ = .ret w) : forLoop f (x :: xs) ρ = .ret w := by
  show (match f x ρ with | .nx ρ' => forLoop f xs ρ' | .cnt ρ' => forLoop f xs ρ' | .brk ρ' => .nx ρ' | r => r) = _
  rw [h]
theorem for_inv {f : PyData → Env → Res} {I : List PyData → Env → Prop} : ∀ (xs : List PyData) (ρ : Env), I xs ρ → (∀ x r ρ, I (x :: r) ρ → ∃ ρ', (f x ρ = .nx ρ' ∨ f x ρ = .cnt ρ') ∧ I r ρ') → ∃ ρ', forLoop f xs ρ = .nx ρ' ∧ I [] ρ'
  | [], ρ, h, _ => ⟨ρ, rfl, h⟩
  | x :: r, ρ, h, s => by
    obtain ⟨ρ', e | e, h'⟩ := s x r ρ h
    · rw [fl_nx e]; exact for_inv r ρ' h' s
    · rw [fl_cnt e]; exact for_inv r ρ' h' s
theorem for_rng {f : PyData → Env → Res} {I : Nat → Env → Prop} {n : Int} {ρ : Env} (h0 : I 0 ρ) (s : ∀ (i : Nat) ρ, i < n.toNat → I i ρ → ∃ ρ', (f (.int i) ρ = .nx ρ' ∨ f (.int i) ρ = .cnt ρ') ∧ I (i + 1) ρ') : ∃ ρ', forLoop f (rngD 0 n) ρ = .nx ρ' ∧ I n.toNat ρ' := by
  have key : ∀ (m j : Nat) (ρ : Env), j + m = n.toNat → I j ρ → ∃ ρ', forLoop f ((List.range' j m).map fun k => .int ((0 : Int) + (k : Nat))) ρ = .nx ρ' ∧ I n.toNat ρ' := by
    intro m
    induction m with
    | zero => intro j ρ e h; rw [Nat.add_zero] at e; subst e; exact ⟨ρ, rfl, h⟩
    | succ m ih =>
      intro j ρ e h
      obtain ⟨ρ', h1, h2⟩ := s j ρ (by omega) h
      obtain ⟨ρ2, h3, h4⟩ := ih (j + 1) ρ' (by omega) h2
      refine ⟨ρ2, ?_, h4⟩
      rw [List.range'_succ, List.map_cons, Int.zero_add]
      rcases h1 with h1 | h1
      · rw [fl_nx h1]; exact h3
      · rw [fl_cnt h1]; exact h3
  have := key n.toNat 0 ρ (by omega) h0
  unfold rngD
  rw [List.range_eq_range']
  exact this
theorem for_rng_ret {f : PyData → Env → Res} {I : Nat → Env → Prop} {w : W} (bad : Nat → Bool) {n : Int} {ρ : Env} (h0 : I 0 ρ) (s : ∀ (i : Nat) ρ, i < n.toNat → I i ρ → (bad i = false → ∃ ρ', f (.int i) ρ = .nx ρ' ∧ I (i + 1) ρ') ∧ (bad i = true → f (.int i) ρ = .ret w)) :
    ((∀ i, i < n.toNat → bad i = false) ∧ ∃ ρ', forLoop f (rngD 0 n) ρ = .nx ρ' ∧ I n.toNat ρ') ∨ ((∃ i, i < n.toNat ∧ bad i = true) ∧ forLoop f (rngD 0 n) ρ = .ret w) := by
  have key : ∀ (m j : Nat) (ρ : Env), j + m = n.toNat → I j ρ → ((∀ i, j ≤ i → i < n.toNat → bad i = false) ∧ ∃ ρ', forLoop f ((List.range' j m).map fun k => .int ((0 : Int) + (k : Nat))) ρ = .nx ρ' ∧ I n.toNat ρ') ∨ ((∃ i, i < n.toNat ∧ bad i = true) ∧ forLoop f ((List.range' j m).map fun k => .int ((0 : Int) + (k : Nat))) ρ = .ret w) := by
    intro m
    induction m with
    | zero => intro j ρ e h; rw [Nat.add_zero] at e; subst e; exact .inl ⟨fun i h1 h2 => by omega, ρ, rfl, h⟩
    | succ m ih =>
      intro j ρ e h
      obtain ⟨s1, s2⟩ := s j ρ (by omega) h
      rw [List.range'_succ, List.map_cons, Int.zero_add]
      cases hb : bad j with
      | true => exact .inr ⟨⟨j, by omega, hb⟩, fl_ret (s2 hb)⟩
      | false =>
        obtain ⟨ρ', h1, h2⟩ := s1 hb
        rw [fl_nx h1]
        rcases ih (j + 1) ρ' (by omega) h2 with ⟨a, b⟩ | c
        · refine .inl ⟨fun i h3 h4 => ?_, b⟩
          by_cases e : i = j
          · rw [e]; exact hb
          · exact a i (by omega) h4
        · exact .inr c
  have := key n.toNat 0 ρ (by omega) h0
  unfold rngD
  rw [List.range_eq_range']
  rcases this with ⟨a, b⟩ | c
  · exact .inl ⟨fun i h => a i (Nat.zero_le _) h, b⟩
  · exact .inr c
theorem whl_inv {c : Env → Out Bool} {f : Env → Res} {I : Env → Prop} {m : Env → Nat} : ∀ (fu : Nat) (ρ : Env), m ρ < fu → I ρ → (∀ ρ, I ρ → (∃ ρ', c ρ = .ok true ∧ (f ρ = .nx ρ' ∨ f ρ = .cnt ρ') ∧ I ρ' ∧ m ρ' < m ρ) ∨ c ρ = .ok false) → ∃ ρ', whlLoop c f fu ρ = .nx ρ' ∧ I ρ' ∧ c ρ' = .ok false
  | 0, ρ, h, _, _ => absurd h (Nat.not_lt_zero _)
  | fu + 1, ρ, h, hI, s => by
    have e : whlLoop c f (fu + 1) ρ = match c ρ with
      | .ok true => (match f ρ with
        | .nx ρ' => whlLoop c f fu ρ'
        | .cnt ρ' => whlLoop c f fu ρ'
        | .brk ρ' => .nx ρ'
        | r => r)
      | .ok false => .nx ρ
      | .exc x => .exc x ρ
      | .stuck => .stuck := (rfl)
    rcases s ρ hI with ⟨ρ', h1, h2, h3, h4⟩ | h1
    · obtain ⟨ρ2, q⟩ := whl_inv fu ρ' (by omega) h3 s
      refine ⟨ρ2, ?_, q.2⟩
      rw [e, h1]
      rcases h2 with h2 | h2 <;> rw [h2] <;> exact q.1
    · refine ⟨ρ, ?_, hI, h1⟩
      rw [e, h1]
def FuOk (fu : Nat) : Prop := ∀ n : Nat, n ≤ 2000000 → 2 ^ n < fu
theorem fu_ok : FuOk (2 ^ 3000000) := fun n h => Nat.pow_lt_pow_right (by decide) (by omega)
theorem rng1_ok {n : Nat} (h : n ≤ 16000000) : rng1D (.int n) = .ok (rngD 0 n) := by
  show (if smallI (n : Int) = true then Out.ok (rngD 0 n) else .stuck) = _
  rw [if_pos]
  unfold smallI
  rw [Bool.and_eq_true]
  exact ⟨decide_eq_true (by omega), decide_eq_true (by omega)⟩
theorem lenOk_of {n : Nat} (h : n ≤ 16000000) : lenOk n = true := decide_eq_true h
def outM : Res → Out W
  | .nx (some (.nd kvs') :: _) => .ok (.nd kvs')
  | _ => .stuck
theorem outM_nd (kvs : List (List Int × PyData)) (r : Env) : outM (.nx (some (.nd kvs) :: r)) = .ok (.nd kvs) := (rfl)
def lookD (kvs : List (List Int × PyData)) (ns : List Int) : Option PyData := (kvs.find? fun p => decide (p.1 = ns)).map (·.2)
theorem ints_map : ∀ ns : List Int, intsOf (ns.map .int) = some ns
  | [] => rfl
  | n :: ns => by
    show (intsOf (ns.map .int)).map (n :: ·) = _
    rw [ints_map ns]; rfl
def tupI (ns : List Int) : PyData := .tuple (ns.map .int)
theorem key_map (ns : List Int) : keyI (tupI ns) = some ns := ints_map ns
theorem key_mapt (ns : List Int) : keyI (.tuple (ns.map .int)) = some ns := ints_map ns
def enD (kvs : List (List Int × PyData)) : List (PyData × PyData) := kvs.map fun p => (.tuple (p.1.map .int), p.2)
theorem enD_len (kvs : List (List Int × PyData)) : (enD kvs).length = kvs.length := List.length_map ..
theorem kvGet_to (ns : List Int) : ∀ kvs : List (List Int × PyData), kvGet (enD kvs) ns = lookD kvs ns
  | [] => rfl
  | (ms, d) :: r => by
    unfold kvGet lookD
    have e : keyB ns (.tuple (ms.map .int), d) = decide (ms = ns) := by
      show (match intsOf (ms.map .int) with | some m => decide (m = ns) | none => false) = _
      rw [ints_map]
    show (((PyData.tuple (ms.map .int), d) :: enD r).find? (keyB ns)).map (·.2) = _
    rw [List.find?_cons, List.find?_cons, e]
    by_cases h : ms = ns
    · rw [decide_eq_true h]; rfl
    · rw [decide_eq_false h]
      exact kvGet_to ns r
theorem inn_d (kvs : List (List Int × PyData)) (ns : List Int) : cmpD .inn (tupI ns) (toD kvs) = okB (lookD kvs ns).isSome := by
  show (match keyI (tupI ns) with | some ns => okB (kvGet (enD kvs) ns).isSome | none => (Out.stuck : Out W)) = _
  rw [key_map]
  show okB (kvGet (enD kvs) ns).isSome = _
  rw [kvGet_to]
theorem ix_d {kvs : List (List Int × PyData)} {ns : List Int} {d : PyData} (h : lookD kvs ns = some d) : ixD (toD kvs) (tupI ns) = .ok (.sh d) := by
  show (match keyI (tupI ns) with | some ns => (match kvGet (enD kvs) ns with | some d => (Out.ok (W.sh d) : Out W) | none => Out.stuck) | none => Out.stuck) = _
  rw [key_map]
  show (match kvGet (enD kvs) ns with | some d => (Out.ok (W.sh d) : Out W) | none => Out.stuck) = _
  rw [kvGet_to, h]
theorem get_d (kvs : List (List Int × PyData)) (ns : List Int) (d : PyData) : meD .get (toD kvs) [tupI ns, d] = .ok (.sh ((lookD kvs ns).getD d)) := by
  show (match keyI (tupI ns) with | some ns => (Out.ok (W.sh ((kvGet (enD kvs) ns).getD d)) : Out W) | none => Out.stuck) = _
  rw [key_map]
  show (Out.ok (W.sh ((kvGet (enD kvs) ns).getD d)) : Out W) = _
  rw [kvGet_to]
theorem me_ok (kvs : List (List Int × PyData)) : meOk .get (toD kvs) = .ok () := (rfl)
theorem keys_to : ∀ kvs : List (List Int × PyData), keysI (enD kvs) = some (kvs.map (·.1))
  | [] => rfl
  | (ns, d) :: r => by
    show (match intsOf (ns.map .int), keysI (enD r) with | some ns, some q => some (ns :: q) | _, _ => none) = _
    rw [ints_map, keys_to r]; rfl
theorem sorted_d {kvs : List (List Int × PyData)} {n : Nat} (h : kvs.length ≤ 1000000) (hn : 1 ≤ n) (hk : ∀ p ∈ kvs, keyFit n p.1 = true) : sortedD (toD kvs) = .ok (.nl ((sortK (kvs.map (·.1))).map tupI)) := by
  show (match keysI (enD kvs) with
    | some ks => if decide ((enD kvs).length ≤ 1000000) && (match ks with | [] => true | k :: _ => decide (1 ≤ k.length) && ks.all (keyFit k.length)) then (Out.ok (W.nl ((sortK ks).map fun ns : List Int => .tuple (ns.map .int))) : Out W) else Out.stuck
    | none => Out.stuck) = _
  rw [keys_to]
  have c : (decide ((enD kvs).length ≤ 1000000) && (match kvs.map (·.1) with | [] => true | k :: _ => decide (1 ≤ k.length) && (kvs.map (·.1)).all (keyFit k.length))) = true := by
    rw [enD_len, decide_eq_true h, Bool.true_and]
    cases kvs with
    | nil => rfl
    | cons p r =>
      have hp := hk p (List.mem_cons_self ..)
      have hl : p.1.length = n := of_decide_eq_true (Bool.and_eq_true_iff.mp (show (decide (p.1.length = n) && _) = true from hp)).1
      show (decide (1 ≤ p.1.length) && ((p :: r).map (·.1)).all (keyFit p.1.length)) = true
      rw [hl, decide_eq_true hn, Bool.true_and, List.all_eq_true]
      intro x hx
      obtain ⟨q, hq, rfl⟩ := List.mem_map.mp hx
      exact hk q hq
  show (if _ then _ else _) = _
  rw [if_pos c]
  rfl
theorem ofD_map : ∀ kvs : List (List Int × PyData), ofD (enD kvs) = some kvs
  | [] => rfl
  | (ns, d) :: r => by
    show (match intsOf (ns.map .int), ofD (enD r) with | some ns, some q => some ((ns, d) :: q) | _, _ => none) = _
    rw [ints_map, ofD_map r]
theorem call_runM {P : Prg} {fu k f : Nat} {d : DefIR} {kvs : List (List Int × PyData)} {ds : List PyData} {kE eE : E} (h : P.defs[f]? = some d) (hl : ds.length + 1 = d.ps.length) (hm : d.mu = true) (hb : d.body = .cons (.dset 0 kE eE) .nil) :
    callF P fu (k + 1) f (toD kvs :: ds) = outM (evS P (callF P fu k) fu (.dset 0 kE eE) (some (.nd kvs) :: (ds.map (fun d => some (.sh d)) ++ List.replicate (d.N.length - (ds.length + 1)) none))) := by
  rw [callF_eq h]
  unfold runDef
  rw [if_pos (by rw [List.length_cons]; exact hl), if_pos hm]
  show runMut P fu (callF P fu k) d (enD kvs) ds = _
  unfold runMut
  rw [ofD_map, hb]
  show (match evS P (callF P fu k) fu (.dset 0 kE eE) (some (W.nd kvs) :: (ds.map (fun d => some (W.sh d)) ++ List.replicate (d.N.length - (ds.length + 1)) none)) with | Res.nx (some (W.nd kvs') :: _) => (Out.ok (W.nd kvs') : Out W) | _ => Out.stuck) = _
  unfold outM
  rfl
theorem app_ok {P : Prg} {cl : Nat → List PyData → Out W} {fu i : Nat} {e : E} {ρ : Env} {l : List PyData} {w : W} {d : PyData} (h1 : ρ[i]? = some (some (.nl l))) (h2 : evE P cl e ρ = .ok w) (h3 : w.share = .ok d) (h4 : l.length < 16000000) : evS P cl fu (.app i e) ρ = .nx (ρ.set i (some (.nl (l ++ [d])))) := by
  rw [s_app', h1]
  show (evE P cl e ρ).res ρ _ = _
  rw [h2]
  show w.share.res ρ _ = _
  rw [h3]
  show (if lenOk (l.length + 1) = true then _ else _) = _
  rw [if_pos (lenOk_of (by omega))]
theorem ite_ite {α : Type} {p q : Prop} [Decidable p] [Decidable q] (a b : α) : (if p then (if q then a else b) else b) = if p ∧ q then a else b := by
  by_cases hp : p <;> by_cases hq : q <;> simp [hp, hq]
theorem fmod_lt {a b : Int} (h : 0 < b) : 0 ≤ a.fmod b ∧ a.fmod b < b := ⟨Int.fmod_nonneg_of_pos a h, Int.fmod_lt_of_pos a h⟩
theorem abs_nat (a : Int) : (if a < 0 then -a else a) = (a.natAbs : Int) := by split <;> omega
theorem at_nat {l : List PyData} {j : Nat} {d : PyData} (h : l[j]? = some d) : ixD (.list l) (.int j) = .ok (.sh d) := by
  rw [ix_l, atI_nat h]
theorem at_tup {l : List PyData} {j : Nat} {d : PyData} (h : l[j]? = some d) : ixD (.tuple l) (.int j) = .ok (.sh d) := by
  rw [ix_t, atI_nat h]
theorem at_ints {ds : List Int} {n : Int} (j : Nat) (h : n = j) (hj : j < ds.length) : ixD (.list (ds.map .int)) (.int n) = .ok (.sh (.int (ds.getD j 0))) := by
  subst h
  refine at_nat ?_
  rw [List.getElem?_map, List.getD_eq_getElem?_getD, List.getElem?_eq_getElem hj]
  exact (rfl)
theorem mul_small {a b : Int} (h : b.natAbs < 2 ^ 64) : mulOk a b = true := by
  unfold mulOk
  rw [decide_eq_true h, Bool.or_true, Bool.true_or]
theorem mul_small' {a b : Int} (h : a.natAbs < 2 ^ 64) : mulOk a b = true := by
  unfold mulOk
  rw [decide_eq_true h, Bool.true_or, Bool.true_or]
theorem mul_bits {a b : Int} {n m : Nat} (ha : a.natAbs < 2 ^ n) (hb : b.natAbs < 2 ^ m) (h : n + m ≤ 1000000) : mulOk a b = true := by
  by_cases a0 : a.natAbs = 0
  · exact mul_small' (by rw [a0]; decide)
  · by_cases b0 : b.natAbs = 0
    · exact mul_small (by rw [b0]; decide)
    · unfold mulOk
      have h1 := (Nat.log2_lt a0).mpr ha
      have h2 := (Nat.log2_lt b0).mpr hb
      rw [decide_eq_true (show a.natAbs.log2 + b.natAbs.log2 < 1000000 by omega), Bool.or_true]
theorem div_small {a b : Int} (h0 : b ≠ 0) (h : b.natAbs < 2 ^ 9000) : divOk a b = true := by
  unfold divOk
  rw [decide_eq_true h0, Bool.true_and]
  have hb : b.natAbs ≠ 0 := by omega
  have h1 : b.natAbs.log2 < 9000 := (Nat.log2_lt hb).mpr h
  unfold Builtin.divisionGoesByPylong
  have e : (b == 0) = false := beq_eq_false_iff_ne.mpr h0
  simp only [e]
  have : ¬ (b.natAbs.log2 / 30 + 1 > 300) := by omega
  simp [this]
theorem o_subb (a b : Bool) : opD .sub (.bool a) (.bool b) = okI (b2I a - b2I b) := (rfl)
theorem wipe_length (ρ : Env) : ∀ vs : List Nat, (wipeE ρ vs).length = ρ.length
  | [] => rfl
  | v :: vs => by
    show ((wipeE ρ vs).set v none).length = _
    rw [List.length_set, wipe_length ρ vs]
theorem lt_nm {P : Prg} {cl : Nat → List PyData → Out W} {ρ : Env} {i : Nat} {own : List (Str × Nat)} {c : T} {elt : E} {x : PyData} (h : i < ρ.length) : lcT P cl ρ (.nm i) own c elt x = (evT P cl c ((wipeE ρ (own.map (·.2))).set i (some (.sh x)))).bind fun t => if t then (evE P cl elt ((wipeE ρ (own.map (·.2))).set i (some (.sh x)))).bind fun w => w.share.bind fun d => .ok (some d) else .ok none := by
  have e : bindTg (.nm i) x (wipeE ρ (own.map (·.2))) = some ((wipeE ρ (own.map (·.2))).set i (some (.sh x))) := if_pos (by rw [wipe_length]; exact h)
  unfold lcT lcTurn
  rw [e]
theorem lc2_nm {P : Prg} {cl : Nat → List PyData → Out W} {ρ : Env} {i j : Nat} {own own2 : List (Str × Nat)} {src2 : Src} {elt : E} {x : PyData} {its : List PyData} (h : i < ρ.length) (hs : srcSh src2 ((wipeE ρ (own.map (·.2))).set i (some (.sh x))) = true) (hi : evI P cl src2 ((wipeE ρ (own.map (·.2))).set i (some (.sh x))) = .ok its) :
    lc2T P cl ρ src2 (.nm i) own (.nm j) own2 elt x = lcLoop (lcT P cl ((wipeE ρ (own.map (·.2))).set i (some (.sh x))) (.nm j) own2 .yes elt) its := by
  have e : bindTg (.nm i) x (wipeE ρ (own.map (·.2))) = some ((wipeE ρ (own.map (·.2))).set i (some (.sh x))) := if_pos (by rw [wipe_length]; exact h)
  unfold lc2T lc2Turn
  rw [e]
  dsimp only
  rw [if_pos hs, hi]
  dsimp only
  refine congrArg (fun f => lcLoop f its) (funext fun y => ?_)
  unfold lcT lcTurn
  refine congrArg (fun (g : Env → Out (Option PyData)) => match bindTg (.nm j) y (wipeE ((wipeE ρ (own.map (·.2))).set i (some (.sh x))) (own2.map (·.2))) with | none => Out.stuck | some ρ' => g ρ') (funext fun ρ' => ?_)
  simp only [evT]
theorem lc2_of {α : Type} {f : PyData → Out (List PyData)} {e : α → PyData} {g : α → List PyData} : ∀ (l : List α), (∀ x ∈ l, f (e x) = .ok (g x)) → lc2Loop f (l.map e) = .ok (l.map g).flatten
  | [], _ => rfl
  | x :: xs, h => by
    show (match f (e x) with | .ok l => (lc2Loop f (xs.map e)).bind fun q => .ok (l ++ q) | _ => .stuck) = _
    rw [h x (List.mem_cons_self ..), lc2_of xs fun y hy => h y (List.mem_cons_of_mem _ hy)]
    exact (rfl)
theorem wipe_nil (ρ : Env) : wipeE ρ [] = ρ := (rfl)
theorem wipe_cons (ρ : Env) (v : Nat) (vs : List Nat) : wipeE ρ (v :: vs) = (wipeE ρ vs).set v none := (rfl)
theorem lc_nil (f : PyData → Out (Option PyData)) : lcLoop f [] = .ok [] := (rfl)
theorem lc_none {f : PyData → Out (Option PyData)} : ∀ {l : List PyData}, (∀ x ∈ l, f x = .ok none) → lcLoop f l = .ok []
  | [], _ => rfl
  | x :: xs, h => by
    show (match f x with | .ok r => (lcLoop f xs).bind fun q => .ok (match r with | some d => d :: q | none => q) | _ => .stuck) = _
    rw [h x (List.mem_cons_self ..), lc_none fun y hy => h y (List.mem_cons_of_mem _ hy)]
    exact (rfl)
theorem lc_map {f : PyData → Out (Option PyData)} {g : PyData → PyData} : ∀ {l : List PyData}, (∀ x ∈ l, f x = .ok (some (g x))) → lcLoop f l = .ok (l.map g)
  | [], _ => rfl
  | x :: xs, h => by
    show (match f x with | .ok r => (lcLoop f xs).bind fun q => .ok (match r with | some d => d :: q | none => q) | _ => .stuck) = _
    rw [h x (List.mem_cons_self ..), lc_map fun y hy => h y (List.mem_cons_of_mem _ hy)]
    exact (rfl)
theorem lce {l : List PyData} (h : l.length ≤ 16000000) : lcEnd l = .ok (.nl l) := if_pos (lenOk_of h)
theorem rng_mem {n : Int} {x : PyData} (h : x ∈ rngD 0 n) : ∃ j : Nat, x = .int j ∧ (j : Int) < n := by
  unfold rngD at h
  obtain ⟨j, hj, e⟩ := List.mem_map.mp h
  have := List.mem_range.mp hj
  exact ⟨j, by rw [← e, Int.zero_add], by omega⟩
def nlK : W → Out (List PyData)
  | .nl l => .ok l
  | .sh (.list l) => .ok l
  | _ => .stuck
theorem nlK_nl (l : List PyData) : nlK (.nl l) = .ok l := (rfl)
theorem nlK_sh (l : List PyData) : nlK (.sh (.list l)) = .ok l := (rfl)
def ownK : Option (Option W) → Out (List PyData)
  | some (some (.nl l)) => .ok l
  | some (some (.sh (.list l))) => .ok l
  | _ => .stuck
theorem ownK_nl (l : List PyData) : ownK (some (some (.nl l))) = .ok l := (rfl)
theorem ownK_sh (l : List PyData) : ownK (some (some (.sh (.list l)))) = .ok l := (rfl)
theorem bn_var (i : Nat) (r : Out W) (ρ : Env) : borN (.var i) r ρ = ownK ρ[i]? := (rfl)
theorem bn_lc (src : Src) (tg : Tg) (own : List (Str × Nat)) (c : T) (elt : E) (r : Out W) (ρ : Env) : borN (.lc src tg own c elt) r ρ = r.bind nlK := (rfl)
theorem bn_lst (es : Es) (r : Out W) (ρ : Env) : borN (.lst es) r ρ = r.bind nlK := (rfl)
theorem bn_cat (a b : E) (r : Out W) (ρ : Env) : borN (.cat a b) r ρ = r.bind nlK := (rfl)
theorem bn_call (f : Nat) (es : Es) (r : Out W) (ρ : Env) : borN (.call f es) r ρ = r.bind nlK := (rfl)
theorem bn_repl (a b : E) (r : Out W) (ρ : Env) : borN (.repl a b) r ρ = r.bind nlK := (rfl)
theorem bn_sl (a lo hi : E) (r : Out W) (ρ : Env) : borN (.sl a lo hi) r ρ = r.bind nlK := (rfl)
theorem bn_bi (b : Bi) (es : Es) (r : Out W) (ρ : Env) : borN (.bi b es) r ρ = r.bind nlK := (rfl)
theorem cat_ok {a b : List PyData} (h : a.length + b.length ≤ 16000000) : catD a b = .ok (.nl (a ++ b)) := if_pos (lenOk_of h)
def lcK (o : Out (Option PyData)) (r : Out (List PyData)) : Out (List PyData) := match o with
  | .ok (some d) => r.bind fun q => .ok (d :: q)
  | .ok none => r.bind fun q => .ok q
  | _ => .stuck
theorem lc_step (f : PyData → Out (Option PyData)) (x : PyData) (xs : List PyData) : lcLoop f (x :: xs) = lcK (f x) (lcLoop f xs) := by
  show (match f x with | .ok r => (lcLoop f xs).bind fun q => .ok (match r with | some d => d :: q | none => q) | _ => .stuck) = _
  cases f x with
  | ok r => cases r <;> exact (rfl)
  | exc c => exact (rfl)
  | stuck => exact (rfl)
theorem lcK_s (d : PyData) (r : Out (List PyData)) : lcK (.ok (some d)) r = r.bind fun q => .ok (d :: q) := (rfl)
theorem lcK_n (r : Out (List PyData)) : lcK (.ok none) r = r.bind fun q => .ok q := (rfl)
def flK (r : Res) (g : Env → Res) : Res := match r with
  | .nx ρ => g ρ
  | .cnt ρ => g ρ
  | .brk ρ => .nx ρ
  | r => r
theorem fl_step (f : PyData → Env → Res) (x : PyData) (xs : List PyData) (ρ : Env) : forLoop f (x :: xs) ρ = flK (f x ρ) (forLoop f xs) := (rfl)
theorem flK_nx (ρ : Env) (g : Env → Res) : flK (.nx ρ) g = g ρ := (rfl)
theorem flK_cnt (ρ : Env) (g : Env → Res) : flK (.cnt ρ) g = g ρ := (rfl)
theorem flK_brk (ρ : Env) (g : Env → Res) : flK (.brk ρ) g = .nx ρ := (rfl)
theorem flK_ret (w : W) (g : Env → Res) : flK (.ret w) g = .ret w := (rfl)
theorem flK_ite (b : Prop) [Decidable b] (x y : Res) (g : Env → Res) : flK (if b then x else y) g = if b then flK x g else flK y g := by split <;> rfl
theorem ixl0 (a : PyData) (l : List PyData) : ixD (.list (a :: l)) (.int 0) = .ok (.sh a) := at_nat (j := 0) rfl
theorem ixl1 (a b : PyData) (l : List PyData) : ixD (.list (a :: b :: l)) (.int 1) = .ok (.sh b) := at_nat (j := 1) rfl
theorem ixl2 (a b c : PyData) (l : List PyData) : ixD (.list (a :: b :: c :: l)) (.int 2) = .ok (.sh c) := at_nat (j := 2) rfl
theorem ixl3 (a b c d : PyData) (l : List PyData) : ixD (.list (a :: b :: c :: d :: l)) (.int 3) = .ok (.sh d) := at_nat (j := 3) rfl
theorem ixl4 (a b c d e : PyData) (l : List PyData) : ixD (.list (a :: b :: c :: d :: e :: l)) (.int 4) = .ok (.sh e) := at_nat (j := 4) rfl
theorem ixl5 (a b c d e f : PyData) (l : List PyData) : ixD (.list (a :: b :: c :: d :: e :: f :: l)) (.int 5) = .ok (.sh f) := at_nat (j := 5) rfl
theorem ixl6 (a b c d e f g : PyData) (l : List PyData) : ixD (.list (a :: b :: c :: d :: e :: f :: g :: l)) (.int 6) = .ok (.sh g) := at_nat (j := 6) rfl
theorem ixt0 (a : PyData) (l : List PyData) : ixD (.tuple (a :: l)) (.int 0) = .ok (.sh a) := at_tup (j := 0) rfl
theorem ixt1 (a b : PyData) (l : List PyData) : ixD (.tuple (a :: b :: l)) (.int 1) = .ok (.sh b) := at_tup (j := 1) rfl
theorem ixt2 (a b c : PyData) (l : List PyData) : ixD (.tuple (a :: b :: c :: l)) (.int 2) = .ok (.sh c) := at_tup (j := 2) rfl
theorem ixt3 (a b c d : PyData) (l : List PyData) : ixD (.tuple (a :: b :: c :: d :: l)) (.int 3) = .ok (.sh d) := at_tup (j := 3) rfl
theorem ixt4 (a b c d e : PyData) (l : List PyData) : ixD (.tuple (a :: b :: c :: d :: e :: l)) (.int 4) = .ok (.sh e) := at_tup (j := 4) rfl
theorem ixt5 (a b c d e f : PyData) (l : List PyData) : ixD (.tuple (a :: b :: c :: d :: e :: f :: l)) (.int 5) = .ok (.sh f) := at_tup (j := 5) rfl
theorem ixt6 (a b c d e f g : PyData) (l : List PyData) : ixD (.tuple (a :: b :: c :: d :: e :: f :: g :: l)) (.int 6) = .ok (.sh g) := at_tup (j := 6) rfl
theorem andK_ok (b c : Bool) : andK (.bool b) (.ok (.sh (.bool c))) = .ok (.sh (.bool (b && c))) := by cases b <;> exact (rfl)
theorem andK_t (r : Out W) : andK (.bool true) r = r := (rfl)
theorem andK_f (r : Out W) : andK (.bool false) r = .ok (.sh (.bool false)) := (rfl)
theorem orK_ok (b c : Bool) : orK (.bool b) (.ok (.sh (.bool c))) = .ok (.sh (.bool (b || c))) := by cases b <;> exact (rfl)
theorem orK_t (r : Out W) : orK (.bool true) r = .ok (.sh (.bool true)) := (rfl)
theorem orK_f (r : Out W) : orK (.bool false) r = r := (rfl)
def allK (b : Bool) (r : Out Bool) : Out Bool := if b then r else .ok false
def anyK (b : Bool) (r : Out Bool) : Out Bool := if b then .ok true else r
theorem allK_ok (b c : Bool) : allK b (.ok c) = .ok (b && c) := by cases b <;> exact (rfl)
theorem allK_t (r : Out Bool) : allK true r = r := (rfl)
theorem allK_f (r : Out Bool) : allK false r = .ok false := (rfl)
theorem anyK_ok (b c : Bool) : anyK b (.ok c) = .ok (b || c) := by cases b <;> exact (rfl)
theorem anyK_t (r : Out Bool) : anyK true r = .ok true := (rfl)
theorem anyK_f (r : Out Bool) : anyK false r = r := (rfl)
section
variable (P : Prg) (cl : Nat → List PyData → Out W) (ρ : Env)
theorem al3 (t : T) (ts : Ts) : evAll P cl (.cons t ts) ρ = (evT P cl t ρ).bind fun b => allK b (evAll P cl ts ρ) := by simp only [evAll] <;> exact (rfl)
theorem an3 (t : T) (ts : Ts) : evAny P cl (.cons t ts) ρ = (evT P cl t ρ).bind fun b => anyK b (evAny P cl ts ρ) := by simp only [evAny] <;> exact (rfl)
theorem fb_tp2 (fu i j : Nat) (b : B) (x y : PyData) (h1 : i < ρ.length) (h2 : j < ρ.length) : fBody P cl fu (.tp [i, j]) b (.tuple [x, y]) ρ = evBk P cl fu b ((ρ.set i (some (.sh x))).set j (some (.sh y))) := fb_tp _ _ _ _ _ _ _ _ (ta_2 _ _ _ _ _ h1 h2)
end
theorem aug_i (o : BOp) (a b : Int) : augD o (.int a) (.int b) = opD o (.int a) (.int b) := (rfl)
def globK : Option (Str × PyData) → Out W
  | some (_, d) => .ok (.sh d)
  | none => .stuck
theorem globK_s (x : Str) (d : PyData) : globK (some (x, d)) = .ok (.sh d) := (rfl)
theorem ev_glob (P : Prg) (cl : Nat → List PyData → Out W) (ρ : Env) (i : Nat) : evE P cl (.glob i) ρ = globK P.consts[i]? := by
  simp only [evE]
  cases P.consts[i]? with
  | none => exact (rfl)
  | some p => obtain ⟨x, d⟩ := p; exact (rfl)
theorem o_band (a b : Int) : opD .band (.int a) (.int b) = okI (Builtin.bitAnd a b) := (rfl)
theorem sl_l (l : List PyData) (lo hi : Option Int) : slD (.list l) lo hi = .ok (.nl (cutD l lo hi)) := (rfl)
theorem sl_t (l : List PyData) (lo hi : Option Int) : slD (.tuple l) lo hi = .ok (.sh (.tuple (cutD l lo hi))) := (rfl)
theorem cut_mem {l : List PyData} {lo hi : Option Int} {x : PyData} (h : x ∈ cutD l lo hi) : x ∈ l := List.mem_of_mem_drop (List.mem_of_mem_take h)
theorem o_mulR {a b : Int} (h1 : -18446744073709551616 < b) (h2 : b < 18446744073709551616) : opD .mul (.int a) (.int b) = okI (a * b) := o_mul (mul_small (by omega))
theorem o_mulL {a b : Int} (h1 : -18446744073709551616 < a) (h2 : a < 18446744073709551616) : opD .mul (.int a) (.int b) = okI (a * b) := o_mul (mul_small' (by omega))
theorem o_fdivL {a b : Int} (h : b ≠ 0) (h1 : -18446744073709551616 < b) (h2 : b < 18446744073709551616) : opD .fdiv (.int a) (.int b) = okI (a.fdiv b) := o_fdiv (div_small h (Nat.lt_trans (show b.natAbs < 18446744073709551617 by omega) (Nat.lt_of_lt_of_le (by decide : 18446744073709551617 < 2 ^ 65) (Nat.pow_le_pow_right (by decide) (by decide)))))
theorem o_powL {a b : Int} (h1 : 0 ≤ b) (h2 : b ≤ 1000000) (h3 : -18446744073709551616 < a) (h4 : a < 18446744073709551616) : opD .pow (.int a) (.int b) = okI (a ^ b.toNat) := o_pow ⟨h1, h2, by omega⟩
theorem lc_of {α : Type} {f : PyData → Out (Option PyData)} {e : α → PyData} {g : α → Option PyData} : ∀ (l : List α), (∀ x ∈ l, f (e x) = .ok (g x)) → lcLoop f (l.map e) = .ok (l.filterMap g)
  | [], _ => rfl
  | x :: xs, h => by
    rw [List.map_cons, lc_step, h x (List.mem_cons_self ..), lc_of xs fun y hy => h y (List.mem_cons_of_mem _ hy)]
    cases q : g x with
    | none => rw [List.filterMap_cons_none q]; exact (rfl)
    | some d => rw [List.filterMap_cons_some q]; exact (rfl)
theorem lc_ofm {α : Type} {f : PyData → Out (Option PyData)} {e g : α → PyData} (l : List α) (h : ∀ x ∈ l, f (e x) = .ok (some (g x))) : lcLoop f (l.map e) = .ok (l.map g) := by
  rw [lc_of (g := fun x => some (g x)) l h, List.filterMap_eq_map']
theorem rngD_nat (n : Nat) : rngD 0 n = (List.range n).map fun k => .int (k : Nat) := by
  unfold rngD
  rw [Int.toNat_natCast]
  exact List.map_congr_left fun k _ => by rw [Int.zero_add]
theorem lc_rng {f : PyData → Out (Option PyData)} {g : Nat → Option PyData} (n : Nat) (h : ∀ k, k < n → f (.int k) = .ok (g k)) : lcLoop f (rngD 0 n) = .ok ((List.range n).filterMap g) := by
  rw [rngD_nat]
  exact lc_of _ fun k hk => h k (List.mem_range.mp hk)
theorem lc_rngm {f : PyData → Out (Option PyData)} {g : Nat → PyData} (n : Nat) (h : ∀ k, k < n → f (.int k) = .ok (some (g k))) : lcLoop f (rngD 0 n) = .ok ((List.range n).map g) := by
  rw [lc_rng (g := fun x => some (g x)) n h, List.filterMap_eq_map']
theorem range_map {α β : Type} {l : List α} {g : α → β} {h : Nat → β} (e : ∀ (k : Nat) (x : α), l[k]? = some x → h k = g x) : (List.range l.length).map h = l.map g := by
  refine List.ext_getElem (by simp) fun k h1 h2 => ?_
  rw [List.getElem_map, List.getElem_map, List.getElem_range]
  exact e k _ (List.getElem?_eq_getElem _)
theorem kept_len {n : Nat} {c : Nat → Bool} : ((List.range n).filterMap fun k => if c k then some (PyData.int k) else none).length = ((List.range n).filter c).length := by
  induction List.range n with
  | nil => rfl
  | cons x xs ih =>
    by_cases h : c x = true
    · rw [List.filterMap_cons_some (b := PyData.int x) (by rw [if_pos h]), List.filter_cons_of_pos h, List.length_cons, List.length_cons, ih]
    · rw [List.filterMap_cons_none (by rw [if_neg h]), List.filter_cons_of_neg h, ih]
theorem kept_none {n : Nat} {c : Nat → Bool} : (((((List.range n).filterMap fun k => if c k then some (PyData.int k) else none).length : Nat) : Int) = 0) ↔ ∀ k, k < n → c k = false := by
  rw [kept_len]
  constructor
  · intro h k hk
    have h0 : ((List.range n).filter c) = [] := List.length_eq_zero_iff.mp (by omega)
    have := List.filter_eq_nil_iff.mp h0 k (List.mem_range.mpr hk)
    simpa using this
  · intro h
    have h0 : ((List.range n).filter c) = [] := List.filter_eq_nil_iff.mpr fun k hk => by rw [h k (List.mem_range.mp hk)]; decide
    rw [h0]; rfl
theorem lt_tp {P : Prg} {cl : Nat → List PyData → Out W} {ρ : Env} {i j : Nat} {own : List (Str × Nat)} {c : T} {elt : E} {x y : PyData} (h1 : i < ρ.length) (h2 : j < ρ.length) : lcT P cl ρ (.tp [i, j]) own c elt (.tuple [x, y]) = (evT P cl c (((wipeE ρ (own.map (·.2))).set i (some (.sh x))).set j (some (.sh y)))).bind fun t => if t then (evE P cl elt (((wipeE ρ (own.map (·.2))).set i (some (.sh x))).set j (some (.sh y)))).bind fun w => w.share.bind fun d => .ok (some d) else .ok none := by
  have e : bindTg (.tp [i, j]) (.tuple [x, y]) (wipeE ρ (own.map (·.2))) = some (((wipeE ρ (own.map (·.2))).set i (some (.sh x))).set j (some (.sh y))) := by
    show (if _ ∧ _ then _ else _) = _
    rw [if_pos ⟨rfl, by simp [wipe_length, h1, h2]⟩]
    rfl
  unfold lcT lcTurn
  rw [e]
theorem zip_l (a b : List PyData) : zipD (.list a) (.list b) = .ok (List.zipWith pairD a b) := (rfl)
theorem zip_t (a b : List PyData) : zipD (.tuple a) (.tuple b) = .ok (List.zipWith pairD a b) := (rfl)
theorem zip_lt (a b : List PyData) : zipD (.list a) (.tuple b) = .ok (List.zipWith pairD a b) := (rfl)
theorem zip_tl (a b : List PyData) : zipD (.tuple a) (.list b) = .ok (List.zipWith pairD a b) := (rfl)
theorem zip_map {α β : Type} (e : α → PyData) (e' : β → PyData) : ∀ (a : List α) (b : List β), List.zipWith pairD (a.map e) (b.map e') = (a.zip b).map fun p => pairD (e p.1) (e' p.2)
  | [], _ => rfl
  | _ :: _, [] => rfl
  | x :: a, y :: b => by
    show pairD (e x) (e' y) :: List.zipWith pairD (a.map e) (b.map e') = _
    rw [zip_map e e' a b]; rfl
theorem tup_l (l : List PyData) : tupleD (.list l) = .ok (.sh (.tuple l)) := (rfl)
theorem tup_t (l : List PyData) : tupleD (.tuple l) = .ok (.sh (.tuple l)) := (rfl)
theorem lis_l (l : List PyData) : listD (.list l) = .ok (.nl l) := (rfl)
theorem lis_t (l : List PyData) : listD (.tuple l) = .ok (.nl l) := (rfl)
theorem bools_of {α : Type} (c : α → Bool) : ∀ l : List α, boolsOf (l.map fun x => .bool (c x)) = some (l.map c)
  | [] => rfl
  | x :: xs => by
    show (boolsOf (xs.map fun x => .bool (c x))).map (c x :: ·) = _
    rw [bools_of c xs]; rfl
theorem all_of {α : Type} (c : α → Bool) (l : List α) : allD (.list (l.map fun x => .bool (c x))) = okB (l.all c) := by
  show (match boolsOf (l.map fun x => .bool (c x)) with | some ns => okB (ns.all id) | none => .stuck) = _
  rw [bools_of]
  show okB ((l.map c).all id) = _
  rw [List.all_map]; rfl
theorem ei_zip (P : Prg) (cl : Nat → List PyData → Out W) (ρ : Env) (a b : E) : evI P cl (.zip a b) ρ = (bor a (evE P cl a ρ) ρ).bind fun x => (bor b (evE P cl b ρ) ρ).bind fun y => zipD x y := by simp only [evI]
theorem ei_zps (P : Prg) (cl : Nat → List PyData → Out W) (ρ : Env) (a b : E) : evI P cl (.zps a b) ρ = (bor a (evE P cl a ρ) ρ).bind fun x => (bor b (evE P cl b ρ) ρ).bind fun y => zpsD x y := by simp only [evI]
theorem ei_zip3 (P : Prg) (cl : Nat → List PyData → Out W) (ρ : Env) (a b c : E) : evI P cl (.zip3 a b c) ρ = (bor a (evE P cl a ρ) ρ).bind fun x => (bor b (evE P cl b ρ) ρ).bind fun y => (bor c (evE P cl c ρ) ρ).bind fun z => zip3D x y z := by simp only [evI]
theorem ei_enm (P : Prg) (cl : Nat → List PyData → Out W) (ρ : Env) (a : E) : evI P cl (.enm a) ρ = (bor a (evE P cl a ρ) ρ).bind enmD := by simp only [evI]
theorem ei_rev (P : Prg) (cl : Nat → List PyData → Out W) (ρ : Env) (a : E) : evI P cl (.rev a) ρ = (bor a (evE P cl a ρ) ρ).bind revD := by simp only [evI]
theorem ei_r3 (P : Prg) (cl : Nat → List PyData → Out W) (ρ : Env) (a b c : E) : evI P cl (.rng3 a b c) ρ = (bor a (evE P cl a ρ) ρ).bind fun x => (bor b (evE P cl b ρ) ρ).bind fun y => (bor c (evE P cl c ρ) ρ).bind fun z => rngE3 x y z := by simp only [evI]
theorem for_of {α : Type} {f : PyData → Env → Res} {e : α → PyData} {I : List α → Env → Prop} {l : List α} {ρ : Env} (h0 : I [] ρ) (s : ∀ (d : List α) (x : α) (r : List α) (ρ : Env), l = d ++ x :: r → I d ρ → ∃ ρ', (f (e x) ρ = .nx ρ' ∨ f (e x) ρ = .cnt ρ') ∧ I (d ++ [x]) ρ') : ∃ ρ', forLoop f (l.map e) ρ = .nx ρ' ∧ I l ρ' := by
  have key : ∀ (r d : List α) (ρ : Env), l = d ++ r → I d ρ → ∃ ρ', forLoop f (r.map e) ρ = .nx ρ' ∧ I l ρ' := by
    intro r
    induction r with
    | nil => intro d ρ h hI; rw [List.append_nil] at h; subst h; exact ⟨ρ, rfl, hI⟩
    | cons x r ih =>
      intro d ρ h hI
      obtain ⟨ρ', h1, h2⟩ := s d x r ρ h hI
      obtain ⟨ρ2, h3, h4⟩ := ih (d ++ [x]) ρ' (by rw [h, List.append_assoc]; rfl) h2
      refine ⟨ρ2, ?_, h4⟩
      rw [List.map_cons]
      rcases h1 with h1 | h1
      · rw [fl_nx h1]; exact h3
      · rw [fl_cnt h1]; exact h3
  exact key l [] ρ rfl h0
theorem cut_take {l : List PyData} {k : Nat} (h : k ≤ l.length) : cutD l none (some (k : Int)) = l.take k := by
  unfold cutD
  rw [HT.sIx_none, HT.sIx_nat, Nat.min_eq_left h]
  rfl
theorem cut_drop {l : List PyData} {k : Nat} (h : k ≤ l.length) : cutD l (some (k : Int)) none = l.drop k := by
  unfold cutD
  rw [HT.sIx_none, HT.sIx_nat, Nat.min_eq_left h]
  exact List.take_of_length_le (by rw [List.length_drop]; exact Nat.le_refl _)
theorem cut_init {l : List PyData} (h : 0 < l.length) : cutD l none (some (-1)) = l.take (l.length - 1) := by
  unfold cutD
  have e : HT.sIx l.length l.length (some (-1)) = l.length - 1 := by
    show (if (-1 : Int) < 0 then (-1 + (l.length : Int)).toNat else min (-1 : Int).toNat l.length) = _
    rw [if_pos (by decide)]
    omega
  rw [HT.sIx_none, e]
  rfl
theorem o_addt {a b : List PyData} (h : a.length + b.length ≤ 16000000) : opD .add (.tuple a) (.tuple b) = .ok (.sh (.tuple (a ++ b))) := if_pos (lenOk_of h)
theorem fl_of_nil {α : Type} {f : PyData → Env → Res} {e : α → PyData} (ρ : Env) : forLoop f (([] : List α).map e) ρ = .nx ρ := (rfl)
theorem for_ret {α : Type} {f : PyData → Env → Res} {e : α → PyData} {I : Env → Prop} {w : W} {bad : α → Bool} : ∀ (l : List α) (ρ : Env), I ρ → (∀ x ∈ l, ∀ ρ, I ρ → (bad x = false → ∃ ρ', f (e x) ρ = .nx ρ' ∧ I ρ') ∧ (bad x = true → f (e x) ρ = .ret w)) → (l.any bad = false ∧ ∃ ρ', forLoop f (l.map e) ρ = .nx ρ' ∧ I ρ') ∨ (l.any bad = true ∧ forLoop f (l.map e) ρ = .ret w)
  | [], ρ, h, _ => .inl ⟨rfl, ρ, rfl, h⟩
  | x :: xs, ρ, h, s => by
    obtain ⟨s1, s2⟩ := s x (List.mem_cons_self ..) ρ h
    rw [List.map_cons, List.any_cons]
    cases hb : bad x with
    | true => exact .inr ⟨rfl, fl_ret (s2 hb)⟩
    | false =>
      obtain ⟨ρ', h1, h2⟩ := s1 hb
      rw [fl_nx h1, Bool.false_or]
      exact for_ret xs ρ' h2 fun y hy => s y (List.mem_cons_of_mem _ hy)
theorem insK_perm' (x : List Int) : ∀ l, (insK x l).Perm (x :: l)
  | [] => .refl _
  | y :: r => by
    unfold insK
    split
    · exact .refl _
    · exact ((insK_perm' x r).cons y).trans (.swap x y r)
theorem sortK_perm' : ∀ l, (sortK l).Perm l
  | [] => .refl _
  | x :: r => (insK_perm' x _).trans ((sortK_perm' r).cons x)
theorem insK_sorted' (x : List Int) : ∀ l : List (List Int), l.Pairwise (fun a b => cdK a ≤ cdK b) → (insK x l).Pairwise fun a b => cdK a ≤ cdK b
  | [], _ => List.pairwise_singleton ..
  | y :: r, h => by
    have h0 := h
    rw [List.pairwise_cons] at h
    unfold insK
    split
    · rename_i c
      refine List.pairwise_cons.mpr ⟨fun z hz => ?_, h0⟩
      rcases List.mem_cons.mp hz with e | e
      · rw [e]; exact c
      · have := h.1 z e; omega
    · rename_i c
      refine List.pairwise_cons.mpr ⟨fun z hz => ?_, insK_sorted' x r h.2⟩
      rcases List.mem_cons.mp ((insK_perm' x r).mem_iff.mp hz) with e | e
      · rw [e]; omega
      · exact h.1 z e
theorem sortK_sorted' : ∀ l, (sortK l).Pairwise fun a b => cdK a ≤ cdK b
  | [] => .nil
  | x :: r => insK_sorted' x _ (sortK_sorted' r)
theorem ev_repl (P : Prg) (cl : Nat → List PyData → Out W) (ρ : Env) (a b : E) : evE P cl (.repl a b) ρ = (evE P cl a ρ).bind fun w => (bor b (evE P cl b ρ) ρ).bind fun y => replD w y := by simp only [evE]
theorem repl_one (d : PyData) (n : Nat) (h : n < 1000000) : replD (.nl [d]) (.int (n : Int)) = .ok (.nl (List.replicate n d)) := by
  show (if decide (((n : Int)).natAbs < 1000000) && lenOk ([d].length * (n : Int).toNat) then Out.ok (W.nl (List.replicate (n : Int).toNat [d]).flatten) else Out.stuck) = _
  have e : (List.replicate n [d]).flatten = List.replicate n d := by
    induction n with
    | zero => rfl
    | succ n ih => rw [List.replicate_succ, List.flatten_cons, ih (by omega), List.replicate_succ]; rfl
  rw [decide_eq_true (show ((n : Int)).natAbs < 1000000 by omega), Int.toNat_natCast, lenOk_of (show [d].length * n ≤ 16000000 by rw [List.length_singleton]; omega), e]
  rfl
def lsK (o : Option (Option W)) (f : List PyData → Res) : Res := match o with
  | some (some (.nl l)) => f l
  | _ => .stuck
theorem lsK_nl (l : List PyData) (f : List PyData → Res) : lsK (some (some (.nl l))) f = f l := (rfl)
def sxK (ρ : Env) (i : Nat) (l : List PyData) (d kd : PyData) : Res := match kd with
  | .int n => (match ixN l.length n with
    | some j => .nx (ρ.set i (some (.nl (l.set j d))))
    | none => .stuck)
  | _ => .stuck
theorem s_sset' (P : Prg) (cl : Nat → List PyData → Out W) (fu : Nat) (ρ : Env) (i : Nat) (k e : E) : evS P cl fu (.sset i k e) ρ = lsK ρ[i]? fun l => (evE P cl e ρ).res ρ fun w => w.share.res ρ fun d => (bor k (evE P cl k ρ) ρ).res ρ fun kd => sxK ρ i l d kd := by
  simp only [evS]
  cases ρ[i]? with
  | none => exact (rfl)
  | some o =>
    cases o with
    | none => exact (rfl)
    | some w => cases w <;> exact (rfl)
theorem ixN_nat {n j : Nat} (h : j < n) : ixN n (j : Int) = some j := by
  unfold ixN
  rw [if_pos (by omega), if_pos (by omega), Int.toNat_natCast]
theorem sxK_nat (ρ : Env) (i : Nat) {l : List PyData} {d : PyData} {j : Nat} (h : j < l.length) : sxK ρ i l d (.int (j : Int)) = .nx (ρ.set i (some (.nl (l.set j d)))) := by
  show (match ixN l.length (j : Int) with | some j => Res.nx (ρ.set i (some (.nl (l.set j d)))) | none => Res.stuck) = _
  rw [ixN_nat h]
theorem at_last (l : List PyData) (d : PyData) : ixD (.tuple (l ++ [d])) (.int (-1)) = .ok (.sh d) := by
  rw [ix_t]
  have e : atI (l ++ [d]) (-1) = some d := by
    unfold atI ixN
    rw [if_neg (by omega), List.length_append, List.length_singleton, if_pos (by omega), show (-1 + ((l.length + 1 : Nat) : Int)).toNat = l.length by omega]
    show (l ++ [d])[l.length]? = some d
    rw [List.getElem?_append_right (Nat.le_refl _), Nat.sub_self]
    rfl
  rw [e]
theorem cut_last (l : List PyData) (d : PyData) : cutD (l ++ [d]) none (some (-1)) = l := by
  rw [cut_init (by simp)]
  simp
def apK (ρ : Env) (i : Nat) (l : List PyData) (d : PyData) : Res := if lenOk (l.length + 1) then .nx (ρ.set i (some (.nl (l ++ [d])))) else .stuck
theorem s_ins' (P : Prg) (cl : Nat → List PyData → Out W) (fu : Nat) (ρ : Env) (i : Nat) (e : E) : evS P cl fu (.ins i e) ρ = lsK ρ[i]? fun l => (evE P cl e ρ).res ρ fun w => w.share.res ρ fun d => if lenOk (l.length + 1) then .nx (ρ.set i (some (.nl (d :: l)))) else .stuck := by
  simp only [evS] <;> rfl
theorem s_app2 (P : Prg) (cl : Nat → List PyData → Out W) (fu : Nat) (ρ : Env) (i : Nat) (e : E) : evS P cl fu (.app i e) ρ = lsK ρ[i]? fun l => (evE P cl e ρ).res ρ fun w => w.share.res ρ fun d => apK ρ i l d := by
  rw [s_app']
  cases ρ[i]? with
  | none => rfl
  | some o =>
    cases o with
    | none => rfl
    | some w => cases w <;> rfl
theorem apK_ok {l : List PyData} (h : l.length < 16000000) (ρ : Env) (i : Nat) (d : PyData) : apK ρ i l d = .nx (ρ.set i (some (.nl (l ++ [d])))) := if_pos (lenOk_of (show l.length + 1 ≤ 16000000 by omega))
theorem at_lastl (l : List PyData) (d : PyData) : ixD (.list (l ++ [d])) (.int (-1)) = .ok (.sh d) := by
  have := at_last l d
  exact this
theorem s_pop' (P : Prg) (cl : Nat → List PyData → Out W) (fu : Nat) (ρ : Env) (i : Nat) : evS P cl fu (.pop i) ρ = lsK ρ[i]? fun l => if l.length = 0 then .stuck else .nx (ρ.set i (some (.nl l.dropLast))) := by
  simp only [evS]
  cases ρ[i]? with
  | none => rfl
  | some o =>
    cases o with
    | none => rfl
    | some w => cases w <;> rfl
theorem pop_ok {P : Prg} {cl : Nat → List PyData → Out W} {fu i : Nat} {ρ : Env} {l : List PyData} {d : PyData} (h : ρ[i]? = some (some (.nl (l ++ [d])))) : evS P cl fu (.pop i) ρ = .nx (ρ.set i (some (.nl l))) := by
  rw [s_pop', h, lsK_nl, if_neg (by simp), List.dropLast_concat]
def twoK (d : PyData) (f : PyData → PyData → Res) : Res := match d with
  | .tuple [a, b] => f a b
  | _ => .stuck
theorem twoK_t (a b : PyData) (f : PyData → PyData → Res) : twoK (.tuple [a, b]) f = f a b := (rfl)
theorem s_swp' (P : Prg) (cl : Nat → List PyData → Out W) (fu : Nat) (ρ : Env) (i : Nat) (k1 k2 e : E) : evS P cl fu (.swp i k1 k2 e) ρ = (evE P cl e ρ).res ρ fun w => w.share.res ρ fun d => twoK d fun d1 d2 => setJ ρ i d1 (bor k1 (evE P cl k1 ρ) ρ) fun ρ1 => setJ ρ1 i d2 (bor k2 (evE P cl k2 ρ1) ρ1) .nx := by
  simp only [evS] <;> exact (rfl)
theorem setJ_at {ρ : Env} {i : Nat} {l : List PyData} {d : PyData} {j : Nat} {c : Env → Res} (h : ρ[i]? = some (some (.nl l))) (hj : j < l.length) : setJ ρ i d (.ok (.int (j : Int))) c = c (ρ.set i (some (.nl (l.set j d)))) := by
  unfold setJ
  rw [h]
  show (match ixN l.length (j : Int) with | some j => c (ρ.set i (some (.nl (l.set j d)))) | none => Res.stuck) = _
  rw [ixN_nat hj]
end Ev
namespace Ev
open PySem PySem.Spec
open PyProof.Rows L2
abbrev i_number : Nat := 0
abbrev i_negative : Nat := 1
abbrev i_write_number : Nat := 2
abbrev i_is_figures : Nat := 3
abbrev i_read_number : Nat := 4
abbrev i__law_cell : Nat := 5
abbrev i__law_draws : Nat := 6
abbrev i__law_is_int : Nat := 7
abbrev i__law_is_text : Nat := 8
abbrev i__law_is_number : Nat := 9
abbrev i__law_gcd : Nat := 10
abbrev i__law_frac : Nat := 11
abbrev i__law_same : Nat := 12
abbrev i__law_any_number : Nat := 13
abbrev i__law_read : Nat := 14
abbrev i__law_meant : Nat := 15
abbrev i_law : Nat := 16
def bd_number : B := (.cons (.ifs (.val (.cmp .eq (.var 1) (.cst (.int 0)))) (.cons (.raise 1) .nil) .nil) (.cons (.asg 2 (.ite (.val (.cmp .gt (.var 1) (.cst (.int 0)))) (.bi .gcd (.cons (.var 0) (.cons (.var 1) .nil))) (.neg (.bi .gcd (.cons (.var 0) (.cons (.var 1) .nil)))))) (.cons (.ret (.tup (.cons (.bin .fdiv (.var 0) (.var 2)) (.cons (.bin .fdiv (.var 1) (.var 2)) .nil)))) .nil)))
def d_number : DefIR := ⟨"number", "number", ["a", "b"], ["a", "b", "common"], bd_number, false⟩
def bd_negative : B := (.cons (.ret (.tup (.cons (.neg (.ix (.var 0) (.cst (.int 0)))) (.cons (.ix (.var 0) (.cst (.int 1))) .nil)))) .nil)
def d_negative : DefIR := ⟨"negative", "negative", ["x"], ["x"], bd_negative, false⟩
def bd_write_number : B := (.cons (.ifs (.val (.cmp .eq (.ix (.var 0) (.cst (.int 1))) (.cst (.int 1)))) (.cons (.ret (.bi .str (.cons (.ix (.var 0) (.cst (.int 0))) .nil))) .nil) .nil) (.cons (.ret (.bin .add (.bin .add (.bi .str (.cons (.ix (.var 0) (.cst (.int 0))) .nil)) (.cst (.str "/"))) (.bi .str (.cons (.ix (.var 0) (.cst (.int 1))) .nil)))) .nil))
def d_write_number : DefIR := ⟨"write_number", "write_number", ["x"], ["x"], bd_write_number, false⟩
def bd_is_figures : B := (.cons (.ifs (.or (.cons (.val (.cmp .eq (.var 0) (.cst (.str "")))) (.one (.val (.cmp .gt (.bi .len (.cons (.var 0) .nil)) (.glob 0)))))) (.cons (.ret (.cst (.bool false))) .nil) .nil) (.cons (.ifs (.val (.bi .any (.cons (.lc (.seq (.var 0)) (.nm 1) [("letter", 1)] .yes (.cmp .notin (.var 1) (.glob 1))) .nil))) (.cons (.ret (.cst (.bool false))) .nil) .nil) (.cons (.ret (.orv (.cons (.cmp .eq (.var 0) (.cst (.str "0"))) (.cons (.cmp .ne (.ix (.var 0) (.cst (.int 0))) (.cst (.str "0"))) .nil)))) .nil)))
def d_is_figures : DefIR := ⟨"is_figures", "is_figures", ["text"], ["text", "letter"], bd_is_figures, false⟩
def bd_read_number : B := (.cons (.tasg [2, 3, 4] (.mth .partition (.mth .removeprefix (.var 0) (.cst (.str "-"))) (.cst (.str "/")))) (.cons (.ifs (.or (.cons (.nt (.val (.call i_is_figures (.cons (.var 2) .nil)))) (.one (.and (.cons (.val (.cmp .eq (.var 3) (.cst (.str "/")))) (.one (.nt (.val (.call i_is_figures (.cons (.var 4) .nil)))))))))) (.cons (.raise 2) .nil) .nil) (.cons (.asg 1 (.call i_number (.cons (.bi .int (.cons (.var 2) .nil)) (.cons (.ite (.and (.cons (.val (.cmp .eq (.var 3) (.cst (.str "/")))) (.one (.val (.cmp .ne (.var 4) (.cst (.str "0"))))))) (.bi .int (.cons (.var 4) .nil)) (.cst (.int 1))) .nil)))) (.cons (.ifs (.val (.mth .startswith (.var 0) (.cst (.str "-")))) (.pub 1 (.cons (.asg 1 (.call i_negative (.cons (.var 1) .nil))) .nil)) .nil) (.pub 1 (.cons (.ifs (.val (.cmp .ne (.call i_write_number (.cons (.var 1) .nil)) (.var 0))) (.cons (.raise 2) .nil) .nil) (.cons (.ret (.var 1)) .nil)))))))
def d_read_number : DefIR := ⟨"read_number", "read_number", ["text"], ["text", "found", "above", "line", "below"], bd_read_number, false⟩
def bd__law_cell : B := (.cons (.ifs (.val (.cmp .lt (.var 1) (.bi .len (.cons (.var 0) .nil)))) (.cons (.ret (.ix (.var 0) (.var 1))) .nil) .nil) (.cons (.ret (.cst (.int 0))) .nil))
def d__law_cell : DefIR := ⟨"_law_cell", "_law_cell", ["script", "k"], ["script", "k"], bd__law_cell, false⟩
def b1__law_draws : B := (.cons (.ifs (.and (.cons (.val (.cmp .ge (.var 0) (.bin .pow (.cst (.int 10)) (.cst (.int 18))))) (.one (.val (.cmp .gt (.var 3) (.cst (.int 0))))))) (.cons (.app 2 (.bin .mod (.bi .int (.cons (.var 3) .nil)) (.cst (.int 4096)))) (.cons (.asg 3 (.bin .fdiv (.var 3) (.cst (.int 4096)))) .nil)) (.cons (.asg 5 (.bin .mod (.bi .int (.cons (.bin .add (.bin .mul (.var 0) (.cst (.int 48271))) (.bin .mul (.bin .add (.var 4) (.cst (.int 1))) (.cst (.int 69621)))) .nil)) (.cst (.int 2147483647)))) (.cons (.asg 5 (.bin .mod (.bi .int (.cons (.bin .add (.bin .add (.bin .mul (.var 5) (.var 5)) (.bin .mul (.var 5) (.cst (.int 16807)))) (.bin .mul (.var 4) (.cst (.int 7919)))) .nil)) (.cst (.int 2147483629)))) (.cons (.asg 5 (.bin .mod (.bi .int (.cons (.bin .add (.bin .add (.bin .mul (.var 5) (.var 5)) (.var 0)) (.bin .mul (.cst (.int 13)) (.var 4))) .nil)) (.cst (.int 2147483587)))) (.cons (.app 2 (.bin .mod (.bin .fdiv (.var 5) (.cst (.int 7))) (.cst (.int 4096)))) .nil))))) .nil)
def bd__law_draws : B := (.cons (.asg 2 (.lst .nil)) (.cons (.asg 3 (.var 0)) (.cons (.for (.nm 4) (.rng1 (.var 1)) b1__law_draws) (.cons (.ret (.var 2)) .nil))))
def d__law_draws : DefIR := ⟨"_law_draws", "_law_draws", ["cell", "count"], ["cell", "count", "rows", "left", "k", "mixed"], bd__law_draws, false⟩
def bd__law_is_int : B := (.cons (.ret (.andv (.cons (.isi .int (.var 0)) (.cons (.notv (.isi .bool (.var 0))) .nil)))) .nil)
def d__law_is_int : DefIR := ⟨"_law_is_int", "_law_is_int", ["x"], ["x"], bd__law_is_int, false⟩
def bd__law_is_text : B := (.cons (.ret (.andv (.cons (.isi .str (.var 0)) (.cons (.cmp .eq (.var 0) (.var 1)) .nil)))) .nil)
def d__law_is_text : DefIR := ⟨"_law_is_text", "_law_is_text", ["x", "due"], ["x", "due"], bd__law_is_text, false⟩
def bd__law_is_number : B := (.cons (.ret (.andv (.cons (.call i__law_is_int (.cons (.var 0) .nil)) (.cons (.cmp .eq (.var 0) (.var 1)) .nil)))) .nil)
def d__law_is_number : DefIR := ⟨"_law_is_number", "_law_is_number", ["x", "due"], ["x", "due"], bd__law_is_number, false⟩
def b1__law_gcd : B := (.pub 1 (.cons (.par 0 1 (.var 1) (.bin .mod (.bi .int (.cons (.var 0) .nil)) (.var 1))) .nil))
def c1__law_gcd : T := (.val (.cmp .ne (.var 1) (.cst (.int 0))))
def bd__law_gcd : B := (.cons (.asg 0 (.bi .abs (.cons (.var 0) .nil))) (.cons (.asg 1 (.bi .abs (.cons (.var 1) .nil))) (.cons (.whl c1__law_gcd b1__law_gcd) (.cons (.ret (.var 0)) .nil))))
def d__law_gcd : DefIR := ⟨"_law_gcd", "_law_gcd", ["a", "b"], ["a", "b"], bd__law_gcd, false⟩
def bd__law_frac : B := (.cons (.asg 2 (.call i__law_gcd (.cons (.var 0) (.cons (.var 1) .nil)))) (.cons (.ifs (.val (.cmp .lt (.var 1) (.cst (.int 0)))) (.cons (.asg 2 (.neg (.var 2))) .nil) .nil) (.cons (.ret (.tup (.cons (.bin .fdiv (.var 0) (.var 2)) (.cons (.bin .fdiv (.var 1) (.var 2)) .nil)))) .nil)))
def d__law_frac : DefIR := ⟨"_law_frac", "_law_frac", ["a", "b"], ["a", "b", "common"], bd__law_frac, false⟩
def bd__law_same : B := (.cons (.ifs (.val (.isi .tuple (.var 1))) (.cons (.ifs (.or (.cons (.nt (.val (.isi .tuple (.var 0)))) (.one (.val (.cmp .ne (.bi .len (.cons (.var 0) .nil)) (.bi .len (.cons (.var 1) .nil))))))) (.cons (.ret (.cst (.bool false))) .nil) .nil) (.cons (.ret (.cmp .eq (.bi .len (.cons (.lc (.rng1 (.bi .len (.cons (.var 1) .nil))) (.nm 2) [("k", 2)] (.nt (.val (.call i__law_same (.cons (.ix (.var 0) (.var 2)) (.cons (.ix (.var 1) (.var 2)) .nil))))) (.var 2)) .nil)) (.cst (.int 0)))) .nil)) .nil) (.cons (.ifs (.val (.isi .list (.var 1))) (.cons (.ifs (.or (.cons (.nt (.val (.isi .list (.var 0)))) (.one (.val (.cmp .ne (.bi .len (.cons (.var 0) .nil)) (.bi .len (.cons (.var 1) .nil))))))) (.cons (.ret (.cst (.bool false))) .nil) .nil) (.cons (.ret (.cmp .eq (.bi .len (.cons (.lc (.rng1 (.bi .len (.cons (.var 1) .nil))) (.nm 2) [("k", 2)] (.nt (.val (.call i__law_same (.cons (.ix (.var 0) (.var 2)) (.cons (.ix (.var 1) (.var 2)) .nil))))) (.var 2)) .nil)) (.cst (.int 0)))) .nil)) .nil) (.cons (.ifs (.val (.cmp .is (.var 1) (.cst .none))) (.cons (.ret (.cmp .is (.var 0) (.cst .none))) .nil) .nil) (.cons (.ifs (.val (.cmp .is (.var 1) (.cst (.bool true)))) (.cons (.ret (.cmp .is (.var 0) (.cst (.bool true)))) .nil) .nil) (.cons (.ifs (.val (.cmp .is (.var 1) (.cst (.bool false)))) (.cons (.ret (.cmp .is (.var 0) (.cst (.bool false)))) .nil) .nil) (.cons (.ifs (.val (.isi .int (.var 1))) (.cons (.ret (.call i__law_is_number (.cons (.var 0) (.cons (.var 1) .nil)))) .nil) .nil) (.cons (.ret (.call i__law_is_text (.cons (.var 0) (.cons (.var 1) .nil)))) .nil)))))))
def d__law_same : DefIR := ⟨"_law_same", "_law_same", ["x", "due"], ["x", "due", "k"], bd__law_same, false⟩
def bd__law_any_number : B := (.cons (.asg 2 (.bi .int (.cons (.bin .add (.cst (.str "1")) (.bin .mul (.cst (.str "0")) (.bin .mod (.var 1) (.cst (.int 40))))) .nil))) (.cons (.ret (.call i__law_frac (.cons (.bin .add (.bin .mul (.bin .sub (.bin .mod (.var 0) (.cst (.int 2001))) (.cst (.int 1000))) (.var 2)) (.bin .mod (.var 1) (.cst (.int 7)))) (.cons (.bin .add (.cst (.int 1)) (.bin .mul (.bin .mod (.bin .fdiv (.var 0) (.cst (.int 16))) (.cst (.int 9))) (.bin .add (.cst (.int 1)) (.bin .mul (.var 2) (.bin .mod (.bin .fdiv (.var 1) (.cst (.int 40))) (.cst (.int 2))))))) .nil)))) .nil))
def d__law_any_number : DefIR := ⟨"_law_any_number", "_law_any_number", ["draw", "more"], ["draw", "more", "great"], bd__law_any_number, false⟩
def bd__law_read : B := (.cons (.tryR (.cons (.ret (.call i_read_number (.cons (.var 0) .nil))) .nil) [(2, .none)]) .nil)
def d__law_read : DefIR := ⟨"_law_read", "_law_read", ["text"], ["text"], bd__law_read, false⟩
def b1__law_meant : B := (.cons (.ifs (.or (.cons (.val (.cmp .eq (.var 3) (.cst (.str "")))) (.cons (.val (.cmp .gt (.bi .len (.cons (.var 3) .nil)) (.cst (.int 60)))) (.one (.val (.cmp .gt (.bi .len (.cons (.lc (.seq (.var 3)) (.nm 6) [("sign", 6)] (.val (.cmp .notin (.var 6) (.cst (.str "0123456789")))) (.var 6)) .nil)) (.cst (.int 0)))))))) (.cons (.ret (.cst .none)) .nil) .nil) (.cons (.ifs (.and (.cons (.val (.cmp .gt (.bi .len (.cons (.var 3) .nil)) (.cst (.int 1)))) (.one (.val (.cmp .eq (.ix (.var 3) (.cst (.int 0))) (.cst (.str "0"))))))) (.cons (.ret (.cst .none)) .nil) .nil) .nil))
def bd__law_meant : B := (.cons (.asg 1 (.cmp .eq (.sl (.var 0) .nul (.cst (.int 1))) (.cst (.str "-")))) (.cons (.asg 2 (.mth .split (.sl (.var 0) (.bi .int (.cons (.var 1) .nil)) .nul) (.cst (.str "/")))) (.cons (.ifs (.val (.cmp .gt (.bi .len (.cons (.var 2) .nil)) (.cst (.int 2)))) (.cons (.ret (.cst .none)) .nil) .nil) (.pub 2 (.cons (.for (.nm 3) (.seq (.var 2)) b1__law_meant) (.cons (.asg 4 (.bi .int (.cons (.ix (.var 2) (.cst (.int 0))) .nil))) (.cons (.asg 5 (.bi .int (.cons (.ix (.cat (.var 2) (.lst (.cons (.cst (.str "1")) .nil))) (.cst (.int 1))) .nil))) (.pub 4 (.pub 5 (.cons (.ifs (.or (.cons (.val (.cmp .lt (.var 5) (.cst (.int 1)))) (.cons (.and (.cons (.val (.cmp .eq (.bi .len (.cons (.var 2) .nil)) (.cst (.int 2)))) (.one (.val (.cmp .eq (.var 5) (.cst (.int 1))))))) (.cons (.val (.cmp .ne (.call i__law_gcd (.cons (.var 4) (.cons (.var 5) .nil))) (.cst (.int 1)))) (.one (.and (.cons (.val (.var 1)) (.one (.val (.cmp .eq (.var 4) (.cst (.int 0)))))))))))) (.cons (.ret (.cst .none)) .nil) .nil) (.pub 4 (.pub 5 (.cons (.ret (.tup (.cons (.ix (.lst (.cons (.var 4) (.cons (.neg (.var 4)) .nil))) (.bi .int (.cons (.var 1) .nil))) (.cons (.var 5) .nil)))) .nil)))))))))))))
def d__law_meant : DefIR := ⟨"_law_meant", "_law_meant", ["text"], ["text", "minus", "parts", "part", "a", "b", "sign"], bd__law_meant, false⟩
def b2_law : B := (.cons (.ifs (.nt (.val (.call i__law_same (.cons (.call i__law_read (.cons (.var 10) .nil)) (.cons (.call i__law_meant (.cons (.var 10) .nil)) .nil))))) (.cons (.ret (.cst (.bool false))) .nil) .nil) .nil)
def b1_law_11 : B := (.pub 7 (.cons (.for (.nm 10) (.seq (.var 7)) b2_law) .nil))
def b1_law_10 : B := (.cons (.asg 7 (.cat (.var 7) (.lst (.cons (.ix (.var 9) (.bin .mod (.ix (.var 2) (.cst (.int 4))) (.bi .len (.cons (.var 9) .nil)))) (.cons (.ix (.var 9) (.bin .mod (.bin .add (.ix (.var 2) (.cst (.int 4))) (.cst (.int 7))) (.bi .len (.cons (.var 9) .nil)))) .nil))))) b1_law_11)
def b1_law_9 : B := (.cons (.asg 9 (.lst (.cons (.cst (.str "")) (.cons (.cst (.str "-")) (.cons (.cst (.str "-0")) (.cons (.cst (.str "00")) (.cons (.cst (.str "07")) (.cons (.cst (.str "2/4")) (.cons (.cst (.str "3/1")) (.cons (.cst (.str "1/0")) (.cons (.cst (.str "0/1")) (.cons (.cst (.str "-0/1")) (.cons (.cst (.str "1/-2")) (.cons (.cst (.str "/2")) (.cons (.cst (.str "1/")) (.cons (.cst (.str "1/2/3")) (.cons (.cst (.str " 1")) (.cons (.cst (.str "1 ")) (.cons (.cst (.str "+1")) (.cons (.cst (.str "1.5")) (.cons (.cst (.str "--1")) (.cons (.cst (.str "0/7")) (.cons (.var 8) (.cons (.bin .add (.cst (.str "1/")) (.var 8)) (.cons (.bin .add (.cst (.str "-")) (.var 8)) .nil))))))))))))))))))))))))) b1_law_10)
def b1_law_8 : B := (.cons (.asg 8 (.bin .add (.cst (.str "1")) (.bin .mul (.cst (.str "0")) (.bin .add (.cst (.int 58)) (.bin .mod (.ix (.var 2) (.cst (.int 5))) (.cst (.int 4))))))) b1_law_9)
def b1_law_7 : B := (.cons (.asg 7 (.lst (.cons (.bin .add (.bin .add (.sl (.var 4) .nul (.var 5)) (.var 6)) (.sl (.var 4) (.var 5) .nul)) (.cons (.bin .add (.sl (.var 4) .nul (.var 5)) (.sl (.var 4) (.bin .add (.var 5) (.cst (.int 1))) .nul)) (.cons (.bin .add (.bin .add (.sl (.var 4) .nul (.var 5)) (.var 6)) (.sl (.var 4) (.bin .add (.var 5) (.cst (.int 1))) .nul)) .nil))))) b1_law_8)
def b1_law_6 : B := (.cons (.asg 6 (.ix (.cst (.str "0123456789/-+ .x")) (.bin .mod (.ix (.var 2) (.cst (.int 3))) (.cst (.int 16))))) b1_law_7)
def b1_law_5 : B := (.cons (.asg 5 (.bin .mod (.ix (.var 2) (.cst (.int 2))) (.bin .add (.bi .len (.cons (.var 4) .nil)) (.cst (.int 1))))) b1_law_6)
def b1_law_4 : B := (.pub 3 (.pub 4 (.cons (.ifs (.or (.cons (.nt (.val (.call i__law_is_text (.cons (.call i_write_number (.cons (.var 3) .nil)) (.cons (.var 4) .nil))))) (.one (.nt (.val (.call i__law_same (.cons (.call i__law_read (.cons (.var 4) .nil)) (.cons (.var 3) .nil)))))))) (.cons (.ret (.cst (.bool false))) .nil) .nil) b1_law_5)))
def b1_law_3 : B := (.cons (.ifs (.val (.cmp .gt (.ix (.var 3) (.cst (.int 1))) (.cst (.int 1)))) (.cons (.asg 4 (.bin .add (.bin .add (.var 4) (.cst (.str "/"))) (.bi .str (.cons (.ix (.var 3) (.cst (.int 1))) .nil)))) .nil) .nil) b1_law_4)
def b1_law_2 : B := (.cons (.asg 4 (.bi .str (.cons (.ix (.var 3) (.cst (.int 0))) .nil))) b1_law_3)
def b1_law_1 : B := (.cons (.asg 3 (.call i__law_any_number (.cons (.ix (.var 2) (.cst (.int 0))) (.cons (.ix (.var 2) (.cst (.int 1))) .nil)))) b1_law_2)
def b1_law : B := (.cons (.asg 2 (.call i__law_draws (.cons (.call i__law_cell (.cons (.var 0) (.cons (.var 1) .nil))) (.cons (.cst (.int 8)) .nil)))) b1_law_1)
def bd_law : B := (.cons (.for (.nm 1) (.rng1 (.cst (.int 3))) b1_law) (.cons (.ret (.cst (.bool true))) .nil))
def d_law : DefIR := ⟨"law", "law", ["script"], ["script", "turn", "draws", "x", "text", "at", "sign", "rows", "figures", "odd", "row"], bd_law, false⟩
def thePrg : Prg := ⟨[d_number, d_negative, d_write_number, d_is_figures, d_read_number, d__law_cell, d__law_draws, d__law_is_int, d__law_is_text, d__law_is_number, d__law_gcd, d__law_frac, d__law_same, d__law_any_number, d__law_read, d__law_meant, d_law], [("MOST_FIGURES", (.int 60)), ("FIGURES", (.str "0123456789"))], ["RootfastError", "BadNumber", "BadText"], [(0, 0), (1, 1), (1, 0), (2, 2), (2, 0)]⟩
def theTbl : Tbl := ⟨thePrg, PySem.Challenge.pw_rootfast_k04_texts_of_numbers, [8, 9, 10, 11, 12, 14, 15, 16, 17, 18, 19, 20, 21, 22, 23, 24, 25], ["any", "range", "abs", "isinstance", "tuple", "list", "int", "str", "len", "bool"], ["gcd"]⟩
theorem the_ok : theTbl.okB = true := by decide +kernel
theorem at_number : thePrg.defs[i_number]? = some d_number := rfl
theorem at_negative : thePrg.defs[i_negative]? = some d_negative := rfl
theorem at_write_number : thePrg.defs[i_write_number]? = some d_write_number := rfl
theorem at_is_figures : thePrg.defs[i_is_figures]? = some d_is_figures := rfl
theorem at_read_number : thePrg.defs[i_read_number]? = some d_read_number := rfl
theorem at__law_cell : thePrg.defs[i__law_cell]? = some d__law_cell := rfl
theorem at__law_draws : thePrg.defs[i__law_draws]? = some d__law_draws := rfl
theorem at__law_is_int : thePrg.defs[i__law_is_int]? = some d__law_is_int := rfl
theorem at__law_is_text : thePrg.defs[i__law_is_text]? = some d__law_is_text := rfl
theorem at__law_is_number : thePrg.defs[i__law_is_number]? = some d__law_is_number := rfl
theorem at__law_gcd : thePrg.defs[i__law_gcd]? = some d__law_gcd := rfl
theorem at__law_frac : thePrg.defs[i__law_frac]? = some d__law_frac := rfl
theorem at__law_same : thePrg.defs[i__law_same]? = some d__law_same := rfl
theorem at__law_any_number : thePrg.defs[i__law_any_number]? = some d__law_any_number := rfl
theorem at__law_read : thePrg.defs[i__law_read]? = some d__law_read := rfl
theorem at__law_meant : thePrg.defs[i__law_meant]? = some d__law_meant := rfl
theorem at_law : thePrg.defs[i_law]? = some d_law := rfl
theorem glob_MOST_FIGURES : thePrg.consts[0]? = some (("MOST_FIGURES" : Str), ((.int 60) : PyData)) := rfl
theorem glob_FIGURES : thePrg.consts[1]? = some (("FIGURES" : Str), ((.str "0123456789") : PyData)) := rfl
theorem run_number {fu k : Nat} (x0 x1 : PyData) : callF thePrg fu (k + 1) i_number [x0, x1] = outR (evBk thePrg (callF thePrg fu k) fu bd_number [some (.sh x0), some (.sh x1), none]) := call_run at_number rfl rfl
theorem run_negative {fu k : Nat} (x0 : PyData) : callF thePrg fu (k + 1) i_negative [x0] = outR (evBk thePrg (callF thePrg fu k) fu bd_negative [some (.sh x0)]) := call_run at_negative rfl rfl
theorem run_write_number {fu k : Nat} (x0 : PyData) : callF thePrg fu (k + 1) i_write_number [x0] = outR (evBk thePrg (callF thePrg fu k) fu bd_write_number [some (.sh x0)]) := call_run at_write_number rfl rfl
theorem run_is_figures {fu k : Nat} (x0 : PyData) : callF thePrg fu (k + 1) i_is_figures [x0] = outR (evBk thePrg (callF thePrg fu k) fu bd_is_figures [some (.sh x0), none]) := call_run at_is_figures rfl rfl
theorem run_read_number {fu k : Nat} (x0 : PyData) : callF thePrg fu (k + 1) i_read_number [x0] = outR (evBk thePrg (callF thePrg fu k) fu bd_read_number [some (.sh x0), none, none, none, none]) := call_run at_read_number rfl rfl
theorem run__law_cell {fu k : Nat} (x0 x1 : PyData) : callF thePrg fu (k + 1) i__law_cell [x0, x1] = outR (evBk thePrg (callF thePrg fu k) fu bd__law_cell [some (.sh x0), some (.sh x1)]) := call_run at__law_cell rfl rfl
theorem run__law_draws {fu k : Nat} (x0 x1 : PyData) : callF thePrg fu (k + 1) i__law_draws [x0, x1] = outR (evBk thePrg (callF thePrg fu k) fu bd__law_draws [some (.sh x0), some (.sh x1), none, none, none, none]) := call_run at__law_draws rfl rfl
theorem run__law_is_int {fu k : Nat} (x0 : PyData) : callF thePrg fu (k + 1) i__law_is_int [x0] = outR (evBk thePrg (callF thePrg fu k) fu bd__law_is_int [some (.sh x0)]) := call_run at__law_is_int rfl rfl
theorem run__law_is_text {fu k : Nat} (x0 x1 : PyData) : callF thePrg fu (k + 1) i__law_is_text [x0, x1] = outR (evBk thePrg (callF thePrg fu k) fu bd__law_is_text [some (.sh x0), some (.sh x1)]) := call_run at__law_is_text rfl rfl
theorem run__law_is_number {fu k : Nat} (x0 x1 : PyData) : callF thePrg fu (k + 1) i__law_is_number [x0, x1] = outR (evBk thePrg (callF thePrg fu k) fu bd__law_is_number [some (.sh x0), some (.sh x1)]) := call_run at__law_is_number rfl rfl
theorem run__law_gcd {fu k : Nat} (x0 x1 : PyData) : callF thePrg fu (k + 1) i__law_gcd [x0, x1] = outR (evBk thePrg (callF thePrg fu k) fu bd__law_gcd [some (.sh x0), some (.sh x1)]) := call_run at__law_gcd rfl rfl
theorem run__law_frac {fu k : Nat} (x0 x1 : PyData) : callF thePrg fu (k + 1) i__law_frac [x0, x1] = outR (evBk thePrg (callF thePrg fu k) fu bd__law_frac [some (.sh x0), some (.sh x1), none]) := call_run at__law_frac rfl rfl
theorem run__law_same {fu k : Nat} (x0 x1 : PyData) : callF thePrg fu (k + 1) i__law_same [x0, x1] = outR (evBk thePrg (callF thePrg fu k) fu bd__law_same [some (.sh x0), some (.sh x1), none]) := call_run at__law_same rfl rfl
theorem run__law_any_number {fu k : Nat} (x0 x1 : PyData) : callF thePrg fu (k + 1) i__law_any_number [x0, x1] = outR (evBk thePrg (callF thePrg fu k) fu bd__law_any_number [some (.sh x0), some (.sh x1), none]) := call_run at__law_any_number rfl rfl
theorem run__law_read {fu k : Nat} (x0 : PyData) : callF thePrg fu (k + 1) i__law_read [x0] = outR (evBk thePrg (callF thePrg fu k) fu bd__law_read [some (.sh x0)]) := call_run at__law_read rfl rfl
theorem run__law_meant {fu k : Nat} (x0 : PyData) : callF thePrg fu (k + 1) i__law_meant [x0] = outR (evBk thePrg (callF thePrg fu k) fu bd__law_meant [some (.sh x0), none, none, none, none, none, none]) := call_run at__law_meant rfl rfl
theorem run_law {fu k : Nat} (x0 : PyData) : callF thePrg fu (k + 1) i_law [x0] = outR (evBk thePrg (callF thePrg fu k) fu bd_law [some (.sh x0), none, none, none, none, none, none, none, none, none, none]) := call_run at_law rfl rfl
end Ev
namespace Ev
open PySem PySem.Spec
open PyProof.Rows L2
abbrev theRow : PySem.W.OpenRow := PySem.W.OpenLaw.row PySem.Challenge.rw_rootfast_k04_texts_of_numbers
def theOb (s : PySem.W.SharedT) : AlX := theTbl.obsG 4 (HandSHeadRun.getT s)
theorem theOb_eq (s : PySem.W.SharedT) : theOb s = (hookX 4 theTbl).obs s.abs := obsG_eq (HandSHeadRun.getT_eq s)
abbrev theLoose : List Str := ["RootfastError", "BadNumber", "BadText", "MOST_FIGURES", "FIGURES", "number", "negative", "write_number", "is_figures", "read_number", "_law_cell", "_law_draws", "_law_is_int", "_law_is_text", "_law_is_number", "_law_gcd", "_law_frac", "_law_same", "_law_any_number", "_law_read", "_law_meant"]
open PySem.W PySem.Calls in
theorem theRunA (w : World) : (HandSHeadRun.wholeF (fun p => HandSHeadRun.stepQ (HandSHeadRun.denQ HandSHeadRun.tabQ) p w) HandSHeadRun.fenceQ 2000 theRow.prog).map (fun x => (HandSHeadRun.looksF theRow.prog x.1.heap x.2.abs, HandSHeadRun.seenQ (PySem.W.view theRow.prog [0, 25]) theLoose (importedModules theRow.prog.main.body) (fun s => xlAt (PySem.W.view theRow.prog [0, 25]) [] s && recOk theRow.toRowW.records s) x.2.abs)) = some (true, openGood (PySem.W.view theRow.prog [0, 25]) theLoose) := by
  kernel_rfl
theorem theRunB (w : World) : (HandSHeadRun.wholeF (fun p => HandSHeadRun.stepQ (HandSHeadRun.denQ HandSHeadRun.tabQ) p w) HandSHeadRun.fenceQ 2000 theRow.prog).map (fun x => theOb x.2) = some ((hookX 4 theTbl).val w) := by
  kernel_rfl
theorem theRun (w : World) : HandSHeadRun.RunEqI theRow (PySem.W.view theRow.prog [0, 25]) (hookX 4 theTbl) theOb 2000 theLoose w := run2 (theRunA w) (theRunB w)
end Ev
namespace Ev
open PySem PySem.Spec
open PyProof.Rows L2
variable {fu : Nat}
local macro_rules | `(tactic| simp! only [$ls,*] $[$loc]?) => `(tactic| simp only [
    ea1, ea2, eo1, eo2, ev_var, vk_sh, ev_and, ev_or, ev_notv, ev_cst, ev_bin, ev_neg,
    ev_cmp, ev_ite, ev_tup, ev_lst, ev_ix, ev_sl, ev_call, ev_bi, ev_isi, ev_lc, es_nil, es_cons,
    bs_nil, bs_cons, et_yes, et_val, et_nt, et_and, et_or, al1, al2, an1, an2, ei_seq,
    ei_r1, ei_r2, ei_r3, ei_zip, ei_zip3, ssh_zip3, ei_enm, ei_rev, zip_l, zip_t, zip_lt, zip_tl,
    tup_l, tup_t, lis_l, lis_t, lt_tp, s_asg', s_tasg', s_par', s_aug', s_ifs', s_for', s_whl',
    s_ret', s_brk', s_cnt', s_pass', s_raise', bk_nil, bk_cons, bk_pub, th_nx, th_ret, th_brk, th_cnt,
    th_exc, th_ite, out_ret, out_nx, out_exc, outR_ite, bi_ite, rs_ite, constD_i, constD_b, constD_s, constD_n,
    biD, one, two, bo_cst, re_cst, she_cst, bo_glob, re_glob, she_glob, bo_bin, re_bin, she_bin,
    bo_neg, re_neg, she_neg, bo_notv, re_notv, she_notv, bo_cmp, re_cmp, she_cmp, bo_chn, re_chn, she_chn,
    bo_andv, re_andv, she_andv, bo_orv, re_orv, she_orv, bo_ite, re_ite, she_ite, bo_tup, re_tup, she_tup,
    bo_lst, re_lst, she_lst, bo_ix, re_ix, she_ix, bo_sl, re_sl, she_sl, bo_repl, re_repl, she_repl,
    bo_cat, re_cat, she_cat, bo_call0, re_call0, she_call0, bo_call, re_call, she_call, bo_bi, re_bi, she_bi,
    bo_isi, re_isi, she_isi, bo_me, re_me, she_me, bo_lc, re_lc, she_lc, bo_var, re_var, she_var,
    bo_edc, re_edc, ssh_seq, ssh_rev, ssh_enm, ssh_zip, ssh_r1, ssh_r2, ssh_r3, sk_w, vw_sh, vw_nl,
    vw_nd, rk_w, pk_nd, ev_ndc, bo_ndc, re_ndc, ev_dd, bo_dd, re_dd, ev_rsl, bo_rsl, re_rsl,
    ev_stp, bo_stp, re_stp, stp_l, ev_mxd, bo_mxd, re_mxd, she_mxd, ev_lc2, bo_lc2, re_lc2, ev_lix,
    bo_lix, re_lix, she_lix, ev_lct, bo_lct, re_lct, she_lct, ev_mth, bo_mth, re_mth, she_mth, strU_s,
    ei_zps, ssh_zps, lsO_l, ev_edc, ev_me, dsK_nd, ndK_nd, s_mut', s_dset', s_sset', lsK_nl, ev_repl,
    outM_nd, me_ok, pk_nl, pk_sh, pub_k, shk_sh, slot_k, ta_2, ta_3, bnd_k, isNulE, int_of,
    sl_l, sl_t, aug_i, globK_s, ev_glob, o_band, ixl0, ixl1, ixl2, ixl3, ixl4, ixl5,
    ixl6, ixt0, ixt1, ixt2, ixt3, ixt4, ixt5, ixt6, nlK_nl, ownK_nl, ownK_sh, nlK_sh,
    bn_var, bn_lc, bn_lst, bn_cat, bn_call, bn_repl, bn_sl, bn_bi, ev_cat, cat_ok, lc_nil, lc_step,
    lcK_s, lcK_n, lt_nm, lce, fl_nil, fl_step, flK_nx, flK_cnt, flK_brk, flK_ret, flK_ite, fb_nm,
    fb_tp2, Nat.reduceLeDiff, wipe_nil, wipe_cons, len_l, len_t, abs_i, int_i, int_b, neg_i, gcd_i, max_i,
    min_i, sh_sh, sh_nl, ob_ok, or_ok, ob_exc, or_exc, s_try', tk_ret, tk_nx, tk_exc, hdK_ok,
    ct_nil, okB, okI, andK_b, orK_b, notK_b, t_b, t_i, t_l, t_t, c_eq, c_ne,
    c_lt, c_le, c_gt, c_ge, c_isb, isD_b, isD_n, isD_i, isD_s, isD_nn, isD_bn, isD_in,
    isD_sn, isD_tn, isD_ln, isD_tb, isD_lb, c_isn, c_isnt, c_isntb, o_add, o_sub, o_subb, o_mod,
    o_mulR, o_mulL, o_fdivL, o_powL, ne_eq, not_true_eq_false, Int.reduceEq, not_false_eq_true, Int.reduceNeg, Int.reduceLT, Int.reduceLE, Int.reduceToNat,
    setR, seq_l, seq_t, List.map_cons, List.map_nil, List.replicate, List.nil_append, List.cons_append, List.getElem?_cons_zero, List.getElem?_cons_succ, List.getElem?_nil, List.set_cons_zero,
    List.set_cons_succ, List.length_cons, List.length_nil, Nat.reduceAdd, Nat.reduceSub, Nat.reduceLT, if_true, if_false, Nat.add_zero, Nat.zero_add, Nat.lt_add_left_iff_pos, Nat.zero_lt_succ,
    and_true, true_and, and_self, decide_true, decide_false, Bool.and_true, Bool.and_false, Bool.true_and, Bool.false_and, beq_self_eq_true, Bool.not_true, Bool.not_false,
    decide_eq_true_eq, Bool.false_eq_true, reduceCtorEq, ↓reduceIte, List.foldl_cons, List.foldl_nil, List.zip_cons_cons, List.zip_nil_left, List.zip_nil_right, List.all_cons, List.all_nil,
    $ls,*] $[$loc]?)
local macro_rules | `(tactic| simp?! only [$ls,*] $[$loc]?) => `(tactic| simp only [
    ea1, ea2, eo1, eo2, ev_var, vk_sh, ev_and, ev_or, ev_notv, ev_cst, ev_bin, ev_neg,
    ev_cmp, ev_ite, ev_tup, ev_lst, ev_ix, ev_sl, ev_call, ev_bi, ev_isi, ev_lc, es_nil, es_cons,
    bs_nil, bs_cons, et_yes, et_val, et_nt, et_and, et_or, al1, an1, ei_seq, ei_r1, ei_r2,
    ei_r3, ei_zip, ei_zip3, ssh_zip3, ei_enm, ei_rev, zip_l, zip_t, zip_lt, zip_tl, tup_l, tup_t,
    lis_l, lis_t, lt_tp, s_asg', s_tasg', s_par', s_aug', s_ifs', s_for', s_whl', s_ret', s_brk',
    s_cnt', s_pass', s_raise', bk_nil, bk_cons, bk_pub, th_nx, th_ret, th_brk, th_cnt, th_exc, th_ite,
    out_ret, out_nx, out_exc, outR_ite, bi_ite, rs_ite, constD_i, constD_b, constD_s, constD_n, biD, one,
    two, bo_cst, re_cst, she_cst, bo_glob, re_glob, she_glob, bo_bin, re_bin, she_bin, bo_neg, re_neg,
    she_neg, bo_notv, re_notv, she_notv, bo_cmp, re_cmp, she_cmp, bo_chn, re_chn, she_chn, bo_andv, re_andv,
    she_andv, bo_orv, re_orv, she_orv, bo_ite, re_ite, she_ite, bo_tup, re_tup, she_tup, bo_lst, re_lst,
    she_lst, bo_ix, re_ix, she_ix, bo_sl, re_sl, she_sl, bo_repl, re_repl, she_repl, bo_cat, re_cat,
    she_cat, bo_call0, re_call0, she_call0, bo_call, re_call, she_call, bo_bi, re_bi, she_bi, bo_isi, re_isi,
    she_isi, bo_me, re_me, she_me, bo_lc, re_lc, she_lc, bo_var, re_var, she_var, bo_edc, re_edc,
    ssh_seq, ssh_rev, ssh_enm, ssh_zip, ssh_r1, ssh_r2, ssh_r3, sk_w, vw_sh, vw_nl, vw_nd, rk_w,
    pk_nd, ev_ndc, bo_ndc, re_ndc, ev_dd, bo_dd, re_dd, ev_rsl, bo_rsl, re_rsl, ev_stp, bo_stp,
    re_stp, stp_l, ev_mxd, bo_mxd, re_mxd, she_mxd, ev_lc2, bo_lc2, re_lc2, ev_lix, bo_lix, re_lix,
    she_lix, ev_lct, bo_lct, re_lct, she_lct, ev_mth, bo_mth, re_mth, she_mth, strU_s, ei_zps, ssh_zps,
    lsO_l, ev_edc, ev_me, dsK_nd, ndK_nd, s_mut', s_dset', s_sset', lsK_nl, ev_repl, outM_nd, me_ok,
    pk_nl, pk_sh, pub_k, shk_sh, slot_k, ta_2, ta_3, bnd_k, isNulE, int_of, sl_l, sl_t,
    aug_i, globK_s, ev_glob, o_band, ixl0, ixl1, ixl2, ixl3, ixl4, ixl5, ixl6, ixt0,
    ixt1, ixt2, ixt3, ixt4, ixt5, ixt6, nlK_nl, ownK_nl, ownK_sh, nlK_sh, bn_var, bn_lc,
    bn_lst, bn_cat, bn_call, bn_repl, bn_sl, bn_bi, ev_cat, cat_ok, lc_nil, lc_step, lcK_s, lcK_n,
    lt_nm, lce, fl_nil, fl_step, flK_nx, flK_cnt, flK_brk, flK_ret, flK_ite, fb_nm, fb_tp2, Nat.reduceLeDiff,
    wipe_nil, wipe_cons, len_l, len_t, abs_i, int_i, int_b, neg_i, gcd_i, max_i, min_i, sh_sh,
    sh_nl, ob_ok, or_ok, ob_exc, or_exc, s_try', tk_ret, tk_nx, tk_exc, hdK_ok, ct_nil, okB,
    okI, notK_b, t_b, t_i, t_l, t_t, c_eq, c_ne, c_lt, c_le, c_gt, c_ge,
    c_isb, isD_b, isD_n, isD_i, isD_s, isD_nn, isD_bn, isD_in, isD_sn, isD_tn, isD_ln, isD_tb,
    isD_lb, c_isn, c_isnt, c_isntb, o_add, o_sub, o_subb, o_mod, o_mulR, o_mulL, o_fdivL, o_powL,
    ne_eq, not_true_eq_false, Int.reduceEq, not_false_eq_true, Int.reduceNeg, Int.reduceLT, Int.reduceLE, Int.reduceToNat, setR, seq_l, seq_t, List.map_cons,
    List.map_nil, List.replicate, List.nil_append, List.cons_append, List.getElem?_cons_zero, List.getElem?_cons_succ, List.getElem?_nil, List.set_cons_zero, List.set_cons_succ, List.length_cons, List.length_nil, Nat.reduceAdd,
    Nat.reduceSub, Nat.reduceLT, if_true, if_false, Nat.add_zero, Nat.zero_add, Nat.lt_add_left_iff_pos, Nat.zero_lt_succ, and_true, true_and, and_self, decide_true,
    decide_false, Bool.and_true, Bool.and_false, Bool.true_and, Bool.false_and, beq_self_eq_true, Bool.not_true, Bool.not_false, decide_eq_true_eq, Bool.false_eq_true, reduceCtorEq, ↓reduceIte,
    List.foldl_cons, List.foldl_nil, List.zip_cons_cons, List.zip_nil_left, List.zip_nil_right, List.all_cons, List.all_nil, andK_ok, andK_t, andK_f, orK_ok, orK_t,
    orK_f, allK_ok, allK_t, allK_f, anyK_ok, anyK_t, anyK_f, al3, an3, Bool.or_self, Bool.or_false, Bool.false_or,
    Bool.true_or, Bool.or_true, Bool.and_self,
    $ls,*] $[$loc]?)
def isI : PyData → Bool
  | .int _ => true
  | _ => false
def isN2 : PyData → PyData → Bool
  | .int a, .int b => decide (0 < b) && decide (Nat.gcd a.natAbs b.natAbs = 1)
  | _, _ => false
def isN : PyData → Bool
  | .tuple l => (match l with
    | [a, b] => isN2 a b
    | _ => false)
  | _ => false
abbrev Q := Int × Int
def qD (q : Q) : PyData := .tuple [.int q.1, .int q.2]
theorem ix_q0 (q : Q) : ixD (qD q) (.int 0) = .ok (.sh (.int q.1)) := at_tup (l := [.int q.1, .int q.2]) (j := 0) rfl
theorem ix_q1 (q : Q) : ixD (qD q) (.int 1) = .ok (.sh (.int q.2)) := at_tup (l := [.int q.1, .int q.2]) (j := 1) rfl
def frac (a b : Int) : Q := (a.fdiv (if b < 0 then -(Int.gcd a b) else Int.gcd a b), b.fdiv (if b < 0 then -(Int.gcd a b) else Int.gcd a b))
def addQ (x y : Q) : Q := frac (x.1 * y.2 + y.1 * x.2) (x.2 * y.2)
def negQ (x : Q) : Q := (-x.1, x.2)
def subQ (x y : Q) : Q := addQ x (negQ y)
def mulQ (x y : Q) : Q := frac (x.1 * y.1) (x.2 * y.2)
def lessQ (x y : Q) : Bool := decide (x.1 * y.2 < y.1 * x.2)
def leastQ (x y : Q) : Q := if lessQ y x = true then y else x
def mostQ (x y : Q) : Q := if lessQ x y = true then y else x
structure Sz (n : Nat) (q : Q) : Prop where
  a : q.1.natAbs < 2 ^ n
  b : q.2.natAbs < 2 ^ n
  p : 0 < q.2
theorem pow_mono {n m : Nat} (h : n ≤ m) : 2 ^ n ≤ 2 ^ m := Nat.pow_le_pow_right (by decide) h
theorem Sz.mono {n m : Nat} {q : Q} (h : Sz n q) (l : n ≤ m) : Sz m q := ⟨Nat.lt_of_lt_of_le h.a (pow_mono l), Nat.lt_of_lt_of_le h.b (pow_mono l), h.p⟩
theorem mul_lt {n m : Nat} {a b : Int} (ha : a.natAbs < 2 ^ n) (hb : b.natAbs < 2 ^ m) : (a * b).natAbs < 2 ^ (n + m) := by
  rw [Int.natAbs_mul, Nat.pow_add]
  exact Nat.mul_lt_mul'' ha hb
theorem add_lt {n : Nat} {a b : Int} (ha : a.natAbs < 2 ^ n) (hb : b.natAbs < 2 ^ n) : (a + b).natAbs < 2 ^ (n + 1) := by
  have := Int.natAbs_add_le a b
  rw [Nat.pow_succ]
  omega
theorem sub_lt {n : Nat} {a b : Int} (ha : a.natAbs < 2 ^ n) (hb : b.natAbs < 2 ^ n) : (a - b).natAbs < 2 ^ (n + 1) := by
  have := add_lt (a := a) (b := -b) ha (by rwa [Int.natAbs_neg])
  rwa [← Int.sub_eq_add_neg] at this
theorem fdiv_of {a g : Int} {q : Int} (hg : g ≠ 0) (h : a = g * q) : a.fdiv g = q := by
  subst h
  rw [Int.mul_fdiv_cancel_left _ hg]
theorem gcd_ne {a b : Int} (hb : b ≠ 0) : Int.gcd a b ≠ 0 := fun z => hb (Int.gcd_eq_zero_iff.mp z).2
theorem frac_mul {a b : Int} (hb : b ≠ 0) : ∃ g : Int, g ≠ 0 ∧ a = g * (frac a b).1 ∧ b = g * (frac a b).2 ∧ 0 < (frac a b).2 ∧ Int.gcd (frac a b).1 (frac a b).2 = 1 := by
  have h0 : (Int.gcd a b : Int) ≠ 0 := fun z => gcd_ne (a := a) hb (by omega)
  obtain ⟨p, hp⟩ : ((Int.gcd a b : Nat) : Int) ∣ a := Int.gcd_dvd_left ..
  obtain ⟨q, hq⟩ : ((Int.gcd a b : Nat) : Int) ∣ b := Int.gcd_dvd_right ..
  have hc : Int.gcd p q = 1 := by
    have h2 : 0 < Int.gcd a b := Nat.pos_of_ne_zero (gcd_ne hb)
    have key : ∀ g : Nat, a = g * p → b = g * q → Int.gcd a b = g * Int.gcd p q := fun g h1 h2 => by
      rw [h1, h2, Int.gcd_mul_left, Int.natAbs_natCast]
    have h1 := key _ hp hq
    exact Nat.eq_of_mul_eq_mul_left h2 (by rw [Nat.mul_one]; exact h1.symm)
  by_cases hn : b < 0
  · have e1 : (frac a b).1 = -p := by
      show a.fdiv (if b < 0 then _ else _) = _
      rw [if_pos hn]
      exact fdiv_of (by omega) (by rw [Int.neg_mul_neg]; exact hp)
    have e2 : (frac a b).2 = -q := by
      show b.fdiv (if b < 0 then _ else _) = _
      rw [if_pos hn]
      exact fdiv_of (by omega) (by rw [Int.neg_mul_neg]; exact hq)
    refine ⟨-(Int.gcd a b), by omega, by rw [e1, Int.neg_mul_neg]; exact hp, by rw [e2, Int.neg_mul_neg]; exact hq, ?_, by rw [e1, e2, Int.gcd_neg, Int.neg_gcd]; exact hc⟩
    rw [e2]
    have hg : (0 : Int) < Int.gcd a b := by omega
    have : ¬ 0 ≤ q := fun z => by
      have := Int.mul_nonneg (Int.le_of_lt hg) z
      omega
    omega
  · have e1 : (frac a b).1 = p := by
      show a.fdiv (if b < 0 then _ else _) = _
      rw [if_neg hn]
      exact fdiv_of h0 hp
    have e2 : (frac a b).2 = q := by
      show b.fdiv (if b < 0 then _ else _) = _
      rw [if_neg hn]
      exact fdiv_of h0 hq
    refine ⟨(Int.gcd a b), h0, by rw [e1]; exact hp, by rw [e2]; exact hq, ?_, by rw [e1, e2]; exact hc⟩
    rw [e2]
    have hg : (0 : Int) < Int.gcd a b := by omega
    have : ¬ q ≤ 0 := fun z => by
      have := Int.mul_le_mul_of_nonneg_left z (Int.le_of_lt hg)
      omega
    omega
theorem le_of_mul {g a q : Int} (hg : g ≠ 0) (h : a = g * q) : q.natAbs ≤ a.natAbs := by
  rw [h, Int.natAbs_mul]
  exact Nat.le_mul_of_pos_left _ (by omega)
theorem Sz.frac {n : Nat} {a b : Int} (hb : b ≠ 0) (h1 : a.natAbs < 2 ^ n) (h2 : b.natAbs < 2 ^ n) : Sz n (frac a b) := by
  obtain ⟨g, hg, e1, e2, hp, _⟩ := frac_mul (a := a) hb
  exact ⟨Nat.lt_of_le_of_lt (le_of_mul hg e1) h1, Nat.lt_of_le_of_lt (le_of_mul hg e2) h2, hp⟩
theorem Sz.add {n m : Nat} {x y : Q} (hx : Sz n x) (hy : Sz m y) : Sz (n + m + 1) (addQ x y) :=
  Sz.frac (Int.ne_of_gt (Int.mul_pos hx.p hy.p)) (add_lt (mul_lt hx.a hy.b) (by rw [Nat.add_comm]; exact mul_lt hy.a hx.b)) (Nat.lt_of_lt_of_le (mul_lt hx.b hy.b) (pow_mono (Nat.le_succ _)))
theorem Sz.neg {n : Nat} {x : Q} (hx : Sz n x) : Sz n (negQ x) := ⟨by show (-x.1).natAbs < _; rw [Int.natAbs_neg]; exact hx.a, hx.b, hx.p⟩
theorem Sz.sub {n m : Nat} {x y : Q} (hx : Sz n x) (hy : Sz m y) : Sz (n + m + 1) (subQ x y) := hx.add hy.neg
theorem Sz.mul {n m : Nat} {x y : Q} (hx : Sz n x) (hy : Sz m y) : Sz (n + m) (mulQ x y) :=
  Sz.frac (Int.ne_of_gt (Int.mul_pos hx.p hy.p)) (mul_lt hx.a hy.a) (mul_lt hx.b hy.b)
theorem Sz.least {n : Nat} {x y : Q} (hx : Sz n x) (hy : Sz n y) : Sz n (leastQ x y) := by
  unfold leastQ; split <;> assumption
theorem Sz.most {n : Nat} {x y : Q} (hx : Sz n x) (hy : Sz n y) : Sz n (mostQ x y) := by
  unfold mostQ; split <;> assumption
theorem sub_as (x y : Q) : (frac (x.1 * y.2 - y.1 * x.2) (x.2 * y.2)) = subQ x y := by
  unfold subQ addQ negQ
  rw [Int.neg_mul, Int.sub_eq_add_neg]
theorem mul_sz {n m : Nat} {a b : Int} (ha : a.natAbs < 2 ^ n) (hb : b.natAbs < 2 ^ m) (h : n + m ≤ 8000) : opD .mul (.int a) (.int b) = okI (a * b) := o_mul (mul_bits ha hb (by omega))
def iD (a b : Q) : PyData := .tuple [qD a, qD b]
theorem ix_i0 (a b : Q) : ixD (iD a b) (.int 0) = .ok (.sh (qD a)) := at_tup (l := [qD a, qD b]) (j := 0) rfl
theorem ix_i1 (a b : Q) : ixD (iD a b) (.int 1) = .ok (.sh (qD b)) := at_tup (l := [qD a, qD b]) (j := 1) rfl
theorem frac_pos {a b : Int} (hb : 0 < b) : ∃ g : Int, 0 < g ∧ a = g * (frac a b).1 ∧ b = g * (frac a b).2 ∧ 0 < (frac a b).2 ∧ Int.gcd (frac a b).1 (frac a b).2 = 1 := by
  obtain ⟨g, hg, h1, h2, h3, h4⟩ := frac_mul (a := a) (b := b) (by omega)
  refine ⟨g, ?_, h1, h2, h3, h4⟩
  have : ¬ g ≤ 0 := fun z => by
    have q := Int.mul_nonneg (show 0 ≤ -g by omega) (Int.le_of_lt h3)
    rw [Int.neg_mul, ← h2] at q
    omega
  omega
theorem cross (g h p u : Int) : (g * p) * (h * u) = (g * h) * (p * u) := by
  rw [Int.mul_assoc, Int.mul_assoc, ← Int.mul_assoc p h u, Int.mul_comm p h, Int.mul_assoc h p u]
theorem less_frac {a b c d : Int} (hb : 0 < b) (hd : 0 < d) : lessQ (frac a b) (frac c d) = decide (a * d < c * b) := by
  obtain ⟨g, hg, h1, h2, h3, h4⟩ := frac_pos (a := a) hb
  obtain ⟨h, hh, k1, k2, k3, k4⟩ := frac_pos (a := c) hd
  unfold lessQ
  refine decide_eq_decide.mpr ?_
  have e1 : a * d = (g * h) * ((frac a b).1 * (frac c d).2) := by
    conv => lhs; rw [h1, k2]
    exact cross ..
  have e2 : c * b = (g * h) * ((frac c d).1 * (frac a b).2) := by
    conv => lhs; rw [k1, h2]
    rw [cross, Int.mul_comm h g]
  rw [e1, e2]
  exact (Int.mul_lt_mul_left (Int.mul_pos hg hh)).symm
theorem dvd_cop {q p s : Int} (h : q ∣ p * s) (c : Int.gcd p q = 1) : q ∣ s := by
  rw [← Int.natAbs_dvd_natAbs] at h ⊢
  rw [Int.natAbs_mul] at h
  exact Nat.Coprime.dvd_of_dvd_mul_left (by rw [Nat.coprime_comm]; exact c) h
theorem eq_low {p q r s : Int} (hq : 0 < q) (hs : 0 < s) (c1 : Int.gcd p q = 1) (c2 : Int.gcd r s = 1) (h : p * s = r * q) : p = r ∧ q = s := by
  have d1 : q ∣ s := by
    have : q ∣ p * s := ⟨r, by rw [h, Int.mul_comm]⟩
    exact dvd_cop this c1
  have d2 : s ∣ q := by
    have : s ∣ r * q := ⟨p, by rw [← h, Int.mul_comm]⟩
    exact dvd_cop this c2
  have e : q = s := Int.dvd_antisymm (by omega) (by omega) d1 d2
  subst e
  exact ⟨Int.eq_of_mul_eq_mul_right (by omega) h, rfl⟩
theorem eq_frac {a b c d : Int} (hb : 0 < b) (hd : 0 < d) (h : a * d = c * b) : frac a b = frac c d := by
  obtain ⟨g, hg, h1, h2, h3, h4⟩ := frac_pos (a := a) hb
  obtain ⟨k, hk, k1, k2, k3, k4⟩ := frac_pos (a := c) hd
  have e : (frac a b).1 * (frac c d).2 = (frac c d).1 * (frac a b).2 := by
    have e1 : a * d = (g * k) * ((frac a b).1 * (frac c d).2) := by
      conv => lhs; rw [h1, k2]
      exact cross ..
    have e2 : c * b = (g * k) * ((frac c d).1 * (frac a b).2) := by
      conv => lhs; rw [k1, h2]
      rw [cross, Int.mul_comm k g]
    rw [e1, e2] at h
    exact Int.eq_of_mul_eq_mul_left (Int.ne_of_gt (Int.mul_pos hg hk)) h
  obtain ⟨q1, q2⟩ := eq_low h3 k3 h4 k4 e
  exact Prod.ext q1 q2
theorem least_self (x : Q) : leastQ x x = x := by unfold leastQ; split <;> rfl
theorem most_self (x : Q) : mostQ x x = x := by unfold mostQ; split <;> rfl
theorem less_irr (x : Q) : lessQ x x = false := decide_eq_false (Int.lt_irrefl _)
theorem less_asym {x y : Q} (h : lessQ x y = true) : lessQ y x = false := by
  have := of_decide_eq_true h
  exact decide_eq_false (by omega)
theorem least_le_most (x y : Q) : lessQ (mostQ x y) (leastQ x y) = false := by
  unfold mostQ leastQ
  cases h1 : lessQ x y <;> cases h2 : lessQ y x
  · exact less_irr x
  · exact decide_eq_false (by have := of_decide_eq_false h1; show ¬ x.1 * y.2 < y.1 * x.2; omega)
  · exact less_asym h1
  · rw [less_asym h1] at h2; cases h2
theorem mul_order {n m : Nat} {x a b : Q} (hx : Sz n x) (ha : Sz m a) (hb : Sz m b) (h : lessQ b a = false) : (0 ≤ x.1 → lessQ (mulQ x b) (mulQ x a) = false) ∧ (x.1 < 0 → lessQ (mulQ x a) (mulQ x b) = false) := by
  have hn : ¬ b.1 * a.2 < a.1 * b.2 := of_decide_eq_false h
  have p1 := Int.mul_pos hx.p ha.p
  have p2 := Int.mul_pos hx.p hb.p
  unfold mulQ
  have c1 : x.1 * b.1 * (x.2 * a.2) = x.1 * x.2 * (b.1 * a.2) := cross x.1 x.2 b.1 a.2
  have c2 : x.1 * a.1 * (x.2 * b.2) = x.1 * x.2 * (a.1 * b.2) := cross x.1 x.2 a.1 b.2
  rw [less_frac p2 p1, less_frac p1 p2, c1, c2]
  constructor
  · intro h0
    refine decide_eq_false fun z => ?_
    have : x.1 * x.2 * (a.1 * b.2) ≤ x.1 * x.2 * (b.1 * a.2) := Int.mul_le_mul_of_nonneg_left (by omega) (Int.mul_nonneg h0 (Int.le_of_lt hx.p))
    omega
  · intro h0
    refine decide_eq_false fun z => ?_
    have : -(x.1 * x.2) * (a.1 * b.2) ≤ -(x.1 * x.2) * (b.1 * a.2) := Int.mul_le_mul_of_nonneg_left (by omega) (by
      rw [← Int.neg_mul]
      exact Int.mul_nonneg (by omega) (Int.le_of_lt hx.p))
    rw [Int.neg_mul, Int.neg_mul] at this
    omega
theorem frac_eq_of {a b c d : Int} (hb : 0 < b) (hd : 0 < d) (h1 : lessQ (frac a b) (frac c d) = false) (h2 : lessQ (frac c d) (frac a b) = false) : frac a b = frac c d := by
  rw [less_frac hb hd] at h1
  rw [less_frac hd hb] at h2
  have := of_decide_eq_false h1
  have := of_decide_eq_false h2
  exact eq_frac hb hd (by omega)
theorem ends_frac {a b c d : Int} (hb : 0 < b) (hd : 0 < d) (h : lessQ (frac c d) (frac a b) = false) : leastQ (frac a b) (frac c d) = frac a b ∧ mostQ (frac a b) (frac c d) = frac c d ∧ leastQ (frac c d) (frac a b) = frac a b ∧ mostQ (frac c d) (frac a b) = frac c d := by
  unfold leastQ mostQ
  rw [h]
  cases h2 : lessQ (frac a b) (frac c d)
  · have e := frac_eq_of hb hd h2 h
    rw [e]; exact ⟨rfl, rfl, rfl, rfl⟩
  · exact ⟨rfl, rfl, rfl, rfl⟩
theorem frac_low {a b : Int} (hb : 0 < b) (c : Int.gcd a b = 1) : frac a b = (a, b) := by
  unfold frac
  rw [if_neg (by omega), c]
  simp
def powQ (x : Q) (k : Nat) : Q := (x.1 ^ k, x.2 ^ k)
def Cop (x : Q) : Prop := Int.gcd x.1 x.2 = 1
theorem Cop.frac {a b : Int} (hb : b ≠ 0) : Cop (frac a b) := by
  obtain ⟨g, _, _, _, _, h⟩ := frac_mul (a := a) hb
  exact h
theorem Cop.pow {x : Q} (h : Cop x) (k : Nat) : Cop (powQ x k) := by
  show Nat.gcd (x.1 ^ k).natAbs (x.2 ^ k).natAbs = 1
  rw [Int.natAbs_pow, Int.natAbs_pow]
  exact Nat.Coprime.pow k k h
theorem mul_pow' (a b : Int) : ∀ k : Nat, (a * b) ^ k = a ^ k * b ^ k
  | 0 => by rw [Int.pow_zero, Int.pow_zero, Int.pow_zero]; rfl
  | k + 1 => by rw [Int.pow_succ, Int.pow_succ, Int.pow_succ, mul_pow' a b k, cross]
theorem pow_nn {a : Int} (h : 0 ≤ a) : ∀ k : Nat, 0 ≤ a ^ k
  | 0 => by rw [Int.pow_zero]; decide
  | k + 1 => by rw [Int.pow_succ]; exact Int.mul_nonneg (pow_nn h k) h
theorem pow_po {a : Int} (h : 0 < a) : ∀ k : Nat, 0 < a ^ k
  | 0 => by rw [Int.pow_zero]; decide
  | k + 1 => by rw [Int.pow_succ]; exact Int.mul_pos (pow_po h k) h
theorem pow_le' {a b : Int} (h : 0 ≤ a) (l : a ≤ b) : ∀ k : Nat, a ^ k ≤ b ^ k
  | 0 => by rw [Int.pow_zero, Int.pow_zero]; exact Int.le_refl _
  | k + 1 => by rw [Int.pow_succ, Int.pow_succ]; exact Int.mul_le_mul (pow_le' h l k) l h (pow_nn (Int.le_trans h l) k)
theorem neg_pow_even (a : Int) : ∀ j : Nat, (-a) ^ (2 * j) = a ^ (2 * j)
  | 0 => by rw [Nat.mul_zero, Int.pow_zero, Int.pow_zero]
  | j + 1 => by
    rw [show 2 * (j + 1) = 2 * j + 1 + 1 by omega, Int.pow_succ, Int.pow_succ, Int.pow_succ, Int.pow_succ, neg_pow_even a j, Int.mul_assoc, Int.mul_assoc, Int.neg_mul_neg]
theorem neg_pow_odd (a : Int) (j : Nat) : (-a) ^ (2 * j + 1) = -(a ^ (2 * j + 1)) := by
  rw [Int.pow_succ, Int.pow_succ, neg_pow_even, Int.mul_neg]
theorem pow_odd_le {a b : Int} (l : a ≤ b) (j : Nat) : a ^ (2 * j + 1) ≤ b ^ (2 * j + 1) := by
  by_cases h : 0 ≤ a
  · exact pow_le' h l _
  · by_cases h2 : 0 ≤ b
    · have h3 := pow_nn h2 (2 * j + 1)
      have h4 := pow_nn (show 0 ≤ -a by omega) (2 * j + 1)
      rw [neg_pow_odd] at h4
      omega
    · have h3 := pow_le' (show 0 ≤ -b by omega) (show -b ≤ -a by omega) (2 * j + 1)
      rw [neg_pow_odd, neg_pow_odd] at h3
      omega
theorem pow_even_le {a b : Int} (l : a ≤ b) (hb : b ≤ 0) (j : Nat) : b ^ (2 * j) ≤ a ^ (2 * j) := by
  have h3 := pow_le' (show 0 ≤ -b by omega) (show -b ≤ -a by omega) (2 * j)
  rwa [neg_pow_even, neg_pow_even] at h3
theorem ends_low {x y : Q} (px : 0 < x.2) (py : 0 < y.2) (cx : Cop x) (cy : Cop y) (h : lessQ y x = false) : leastQ x y = x ∧ mostQ x y = y ∧ leastQ y x = x ∧ mostQ y x = y := by
  have e1 := frac_low px cx
  have e2 := frac_low py cy
  have := ends_frac (a := x.1) (c := y.1) px py (by rw [e1, e2]; exact h)
  rw [e1, e2] at this
  exact this
theorem Sz.pow {n : Nat} {x : Q} (hx : Sz n x) (k : Nat) : Sz (n * k + 1) (powQ x k) := by
  have key : ∀ a : Int, a.natAbs < 2 ^ n → (a ^ k).natAbs < 2 ^ (n * k + 1) := fun a h => by
    rw [Int.natAbs_pow, Nat.pow_succ, Nat.pow_mul]
    have := Nat.pow_le_pow_left (Nat.le_of_lt h) k
    have p : 0 < (2 ^ n) ^ k := Nat.pow_pos (Nat.pow_pos (by decide))
    omega
  exact ⟨key _ hx.a, key _ hx.b, pow_po hx.p k⟩
theorem powQ_succ {x : Q} (hx : 0 < x.2) (c : Cop x) (k : Nat) : mulQ (powQ x k) x = powQ x (k + 1) := by
  show frac (x.1 ^ k * x.1) (x.2 ^ k * x.2) = _
  rw [← Int.pow_succ, ← Int.pow_succ]
  exact frac_low (pow_po hx (k + 1)) (Cop.pow c (k + 1))
theorem pow_order {x y : Q} {k : Nat} (px : 0 < x.2) (py : 0 < y.2) (h : lessQ y x = false) : ((k % 2 = 1 ∨ 0 ≤ x.1) → lessQ (powQ y k) (powQ x k) = false) ∧ (k % 2 = 0 → y.1 ≤ 0 → lessQ (powQ x k) (powQ y k) = false) := by
  have hl : x.1 * y.2 ≤ y.1 * x.2 := by have := of_decide_eq_false h; omega
  constructor
  · intro hk
    refine decide_eq_false ?_
    show ¬ y.1 ^ k * x.2 ^ k < x.1 ^ k * y.2 ^ k
    rw [← mul_pow', ← mul_pow']
    rcases hk with hk | hk
    · obtain ⟨j, rfl⟩ : ∃ j, k = 2 * j + 1 := ⟨k / 2, by omega⟩
      have := pow_odd_le hl j
      omega
    · have := pow_le' (Int.mul_nonneg hk (Int.le_of_lt py)) hl k
      omega
  · intro hk hy
    refine decide_eq_false ?_
    show ¬ x.1 ^ k * y.2 ^ k < y.1 ^ k * x.2 ^ k
    rw [← mul_pow', ← mul_pow']
    obtain ⟨j, rfl⟩ : ∃ j, k = 2 * j := ⟨k / 2, by omega⟩
    have h0 : y.1 * x.2 ≤ 0 := by
      have := Int.mul_nonneg (show 0 ≤ -y.1 by omega) (Int.le_of_lt px)
      rw [Int.neg_mul] at this
      omega
    have := pow_even_le hl h0 j
    omega
theorem powQ_zero (x : Q) : powQ x 0 = (1, 1) := by unfold powQ; rw [Int.pow_zero, Int.pow_zero]
theorem mulQ_one {x : Q} (hp : 0 < x.2) (hc : Cop x) : mulQ x (1, 1) = x := by
  unfold mulQ
  show frac (x.1 * 1) (x.2 * 1) = x
  rw [Int.mul_one, Int.mul_one]
  exact frac_low hp hc
theorem Cop.mul {x y : Q} (hx : 0 < x.2) (hy : 0 < y.2) : Cop (mulQ x y) := Cop.frac (Int.ne_of_gt (Int.mul_pos hx hy))
def overQ (x y : Q) : Q := frac (x.1 * y.2) (x.2 * y.1)
theorem over_ne {n : Nat} {x y : Q} (hx : Sz n x) (h0 : y.1 ≠ 0) : x.2 * y.1 ≠ 0 := Int.mul_ne_zero (Int.ne_of_gt hx.p) h0
def qr (x : Q) : Rat := (x.1 : Rat) / (x.2 : Rat)
theorem rc_ne {b : Int} (h : b ≠ 0) : (b : Rat) ≠ 0 := fun z => h (by exact_mod_cast z)
theorem rc_pos {b : Int} (h : 0 < b) : (0 : Rat) < (b : Rat) := by exact_mod_cast h
theorem qr_frac {a b : Int} (hb : b ≠ 0) : qr (frac a b) = (a : Rat) / (b : Rat) := by
  obtain ⟨g, hg, h1, h2, h3, _⟩ := frac_mul (a := a) hb
  have e1 : (a : Rat) = (g : Rat) * ((frac a b).1 : Rat) := by exact_mod_cast h1
  have e2 : (b : Rat) = (g : Rat) * ((frac a b).2 : Rat) := by exact_mod_cast h2
  have n1 := rc_ne hg
  have n2 := rc_ne (Int.ne_of_gt h3)
  have n3 := rc_ne hb
  unfold qr
  generalize ((frac a b).1 : Rat) = p at *
  generalize ((frac a b).2 : Rat) = q at *
  grind
theorem qr_add {x y : Q} (hx : 0 < x.2) (hy : 0 < y.2) : qr (addQ x y) = qr x + qr y := by
  unfold addQ
  rw [qr_frac (Int.ne_of_gt (Int.mul_pos hx hy))]
  have n1 := rc_ne (Int.ne_of_gt hx)
  have n2 := rc_ne (Int.ne_of_gt hy)
  unfold qr
  push_cast
  grind
theorem qr_neg (x : Q) : qr (negQ x) = -qr x := by
  unfold qr negQ
  push_cast
  grind
theorem qr_sub {x y : Q} (hx : 0 < x.2) (hy : 0 < y.2) : qr (subQ x y) = qr x - qr y := by
  unfold subQ
  rw [qr_add hx (show 0 < (negQ y).2 from hy), qr_neg]
  grind
theorem qr_mul {x y : Q} (hx : 0 < x.2) (hy : 0 < y.2) : qr (mulQ x y) = qr x * qr y := by
  unfold mulQ
  rw [qr_frac (Int.ne_of_gt (Int.mul_pos hx hy))]
  have n1 := rc_ne (Int.ne_of_gt hx)
  have n2 := rc_ne (Int.ne_of_gt hy)
  unfold qr
  push_cast
  grind
theorem qr_over {x y : Q} (hx : 0 < x.2) (hy : 0 < y.2) (h0 : y.1 ≠ 0) : qr (overQ x y) = qr x / qr y := by
  unfold overQ
  rw [qr_frac (Int.mul_ne_zero (Int.ne_of_gt hx) h0)]
  have n1 := rc_ne (Int.ne_of_gt hx)
  have n2 := rc_ne (Int.ne_of_gt hy)
  have n3 := rc_ne h0
  unfold qr
  push_cast
  grind
theorem qr_pow {x : Q} (hx : 0 < x.2) : ∀ k : Nat, qr (powQ x k) = qr x ^ k
  | 0 => by unfold qr powQ; rw [Int.pow_zero, Int.pow_zero]; grind
  | k + 1 => by
    have n1 := rc_ne (Int.ne_of_gt hx)
    have n2 := rc_ne (Int.ne_of_gt (pow_po hx k))
    rw [Rat.pow_succ, ← qr_pow hx k]
    unfold qr powQ
    rw [Int.pow_succ, Int.pow_succ]
    push_cast at n2 ⊢
    grind
theorem qr_zero : qr (0, 1) = 0 := by unfold qr; grind
theorem qr_one : qr (1, 1) = 1 := by unfold qr; grind
theorem qr_int (a : Int) : qr (a, 1) = a := by unfold qr; grind
theorem less_iff {x y : Q} (hx : 0 < x.2) (hy : 0 < y.2) : x.1 * y.2 < y.1 * x.2 ↔ qr x < qr y := by
  have p1 := rc_pos hx
  have p2 := rc_pos hy
  unfold qr
  rw [Rat.div_lt_iff p1, Rat.div_def, Rat.mul_assoc, Rat.mul_comm _ (x.2 : Rat), ← Rat.mul_assoc, ← Rat.div_def, Rat.lt_div_iff p2]
  constructor
  · intro h; exact_mod_cast h
  · intro h; exact_mod_cast h
theorem less_r {x y : Q} (hx : 0 < x.2) (hy : 0 < y.2) : lessQ x y = decide (qr x < qr y) := decide_eq_decide.mpr (less_iff hx hy)
theorem qr_inj {x y : Q} (hx : 0 < x.2) (hy : 0 < y.2) (cx : Cop x) (cy : Cop y) (h : qr x = qr y) : x = y := by
  have n1 := rc_ne (Int.ne_of_gt hx)
  have n2 := rc_ne (Int.ne_of_gt hy)
  have : (x.1 : Rat) * (y.2 : Rat) = (y.1 : Rat) * (x.2 : Rat) := by unfold qr at h; grind
  have e : x.1 * y.2 = y.1 * x.2 := by exact_mod_cast this
  obtain ⟨h1, h2⟩ := eq_low hx hy cx cy e
  exact Prod.ext h1 h2
def cellD (l : List PyData) (j : Nat) : PyData := l.getD j (.int 0)
theorem call__law_cell {k : Nat} (l : List PyData) (j : Nat) : callF thePrg fu (k + 1) i__law_cell [.list l, .int j] = .ok (.sh (cellD l j)) := by
  rw [run__law_cell]
  simp! only [bd__law_cell, ix_l]
  by_cases h : j < l.length
  · have e : atI l (j : Int) = some l[j] := atI_nat (List.getElem?_eq_getElem h)
    rw [e, if_pos (by omega)]
    simp! only []
    unfold cellD
    rw [List.getD_eq_getElem?_getD, List.getElem?_eq_getElem h]; rfl
  · rw [if_neg (by omega)]
    unfold cellD
    rw [List.getD_eq_getElem?_getD, List.getElem?_eq_none (by omega)]; rfl
def Drawn (l : List Int) : Prop := ∀ x ∈ l, 0 ≤ x ∧ x < 4096
theorem Drawn.snoc {l : List Int} {x : Int} (h : Drawn l) (a : 0 ≤ x ∧ x < 4096) : Drawn (l ++ [x]) := fun y hy => by
  rcases List.mem_append.mp hy with z | z
  · exact h y z
  · rw [List.mem_singleton.mp z]; exact a
theorem turn__law_draws (P : Prg) (cl : Nat → List PyData → Out W) (c n y : Int) (l : List Int) (z z' : Option W) (i : Nat) (hi : i < 4096) (hl : l.length = i) (hd : Drawn l) :
    ∃ (l' : List Int) (y' : Int) (u u' : Option W), evBk P cl fu b1__law_draws [some (.sh (.int c)), some (.sh (.int n)), some (.nl (l.map .int)), some (.sh (.int y)), some (.sh (.int i)), z'] = .nx [some (.sh (.int c)), some (.sh (.int n)), some (.nl (l'.map .int)), some (.sh (.int y')), u, u'] ∧ l'.length = i + 1 ∧ Drawn l' := by
  have hp : opD .pow (.int 10) (.int 18) = okI (10 ^ 18) := o_pow (by decide)
  have m1 := fmod_lt (a := y) (b := 4096) (by decide)
  have e1 : (y.fmod 4096).natAbs < 4096 := by omega
  simp! only [b1__law_draws, hp]
  rw [ite_ite]
  by_cases h : (10 : Int) ^ 18 ≤ c ∧ 0 < y
  · rw [if_pos h]
    rw [app_ok (l := l.map .int) (d := .int (y.fmod 4096)) (w := .sh (.int (y.fmod 4096))) rfl (by simp! only []) rfl (by rw [List.length_map]; omega)]
    simp! only []
    exact ⟨l ++ [y.fmod 4096], y.fdiv 4096, _, _, by rw [List.map_append]; rfl, by rw [List.length_append, hl]; rfl, hd.snoc m1⟩
  · rw [if_neg h]
    generalize hm : (c * 48271 + ((i : Int) + 1) * 69621).fmod 2147483647 = m
    have hm' := fmod_lt (a := c * 48271 + ((i : Int) + 1) * 69621) (b := 2147483647) (by decide)
    rw [hm] at hm'
    have hm2 : m.natAbs < 2 ^ 64 := by omega
    rw [o_mul (a := m) (b := m) (mul_small hm2)]
    simp! only []
    generalize hq : (m * m + m * 16807 + (i : Int) * 7919).fmod 2147483629 = q
    have hq' := fmod_lt (a := m * m + m * 16807 + (i : Int) * 7919) (b := 2147483629) (by decide)
    rw [hq] at hq'
    have hq2 : q.natAbs < 2 ^ 64 := by omega
    rw [o_mul (a := q) (b := q) (mul_small hq2)]
    simp! only []
    generalize (q * q + c + 13 * (i : Int)).fmod 2147483587 = r
    have m2 := fmod_lt (a := r.fdiv 7) (b := 4096) (by decide)
    rw [app_ok (l := l.map .int) (d := .int ((r.fdiv 7).fmod 4096)) (w := .sh (.int ((r.fdiv 7).fmod 4096))) rfl (by simp! only []) rfl (by rw [List.length_map]; omega)]
    simp! only []
    exact ⟨l ++ [(r.fdiv 7).fmod 4096], y, _, _, by rw [List.map_append]; rfl, by rw [List.length_append, hl]; rfl, hd.snoc m2⟩
theorem call__law_draws {k : Nat} (c : Int) (n : Nat) (hn : n ≤ 4096) : ∃ l : List Int, callF thePrg fu (k + 1) i__law_draws [.int c, .int n] = .ok (.nl (l.map .int)) ∧ l.length = n ∧ Drawn l := by
  rw [run__law_draws]
  generalize callF thePrg fu k = cl
  generalize thePrg = P
  simp! only [bd__law_draws, rng1_ok (show n ≤ 16000000 by omega)]
  obtain ⟨ρ', h1, ⟨l, y, z, z', rfl, hl, hd⟩⟩ := for_rng (n := (n : Int)) (I := fun i ρ => ∃ (l : List Int) (y : Int) (z z' : Option W), ρ = [some (.sh (.int c)), some (.sh (.int n)), some (.nl (l.map .int)), some (.sh (.int y)), z, z'] ∧ l.length = i ∧ Drawn l) (f := fBody P cl fu (.nm 4) b1__law_draws) (ρ := [some (.sh (.int c)), some (.sh (.int n)), some (.nl []), some (.sh (.int c)), none, none]) ⟨[], c, none, none, rfl, rfl, fun x h => by cases h⟩ (fun i ρ hi ⟨l, y, z, z', e, hl, hd⟩ => by
    subst e
    rw [fb_nm _ _ _ _ _ _ _ (by simp)]
    obtain ⟨l', y', u, u', h1, h2, h3⟩ := turn__law_draws (fu := fu) P cl c n y l z z' i (by omega) hl hd
    exact ⟨_, .inl h1, l', y', u, u', rfl, h2, h3⟩)
  rw [h1]
  simp! only []
  exact ⟨l, rfl, by omega, hd⟩
theorem start_turn {k : Nat} (ns : List Int) (t n : Nat) (hn : n ≤ 4096) : ∃ (c : Int) (ds : List Int), callF thePrg fu (k + 1) i__law_cell [.list (ns.map .int), .int t] = .ok (.sh (.int c)) ∧
    callF thePrg fu (k + 1) i__law_draws [.int c, .int n] = .ok (.nl (ds.map .int)) ∧ ds.length = n ∧ Drawn ds := by
  obtain ⟨c, ec⟩ : ∃ c : Int, cellD (ns.map .int) t = .int c := by
    unfold cellD
    rw [List.getD_eq_getElem?_getD, List.getElem?_map]
    cases ns[t]? with
    | none => exact ⟨0, rfl⟩
    | some a => exact ⟨a, rfl⟩
  obtain ⟨ds, hd, hdl, hdr⟩ := call__law_draws (fu := fu) (k := k) c n hn
  exact ⟨c, ds, by rw [call__law_cell, ec], hd, hdl, hdr⟩
theorem at_mod {ds : List Int} {m : Nat} (j : Nat) (h : ds.length = m) (h0 : 0 < m) : ixD (.list (ds.map .int)) (.int ((j : Int).fmod (m : Nat))) = .ok (.sh (.int (ds.getD (j % ds.length) 0))) := by
  have e : (j : Int).fmod (m : Nat) = ((j % ds.length : Nat) : Int) := by
    rw [Int.fmod_eq_emod_of_nonneg _ (by omega), h]; rfl
  exact at_ints _ e (by rw [h]; exact Nat.mod_lt _ h0)
theorem call__law_gcd {k : Nat} (a b : Int) (hf : b.natAbs < fu) : callF thePrg fu (k + 1) i__law_gcd [.int a, .int b] = .ok (.sh (.int (Int.gcd a b))) := by
  rw [run__law_gcd]
  simp! only [bd__law_gcd, abs_nat]
  generalize callF thePrg fu k = cl
  generalize thePrg = P
  obtain ⟨ρ', h1, ⟨x, y, rfl, h2⟩, h3⟩ := whl_inv (c := evT P cl c1__law_gcd) (f := evBk P cl fu b1__law_gcd) (I := fun ρ => ∃ x y : Nat, ρ = [some (.sh (.int x)), some (.sh (.int y))] ∧ Nat.gcd x y = Nat.gcd a.natAbs b.natAbs)
    (m := fun ρ => match ρ with | [_, some (.sh (.int y))] => y.natAbs | _ => 0) fu [some (.sh (.int (a.natAbs : Int))), some (.sh (.int (b.natAbs : Int)))] (by show Int.natAbs (b.natAbs : Int) < fu; omega) ⟨a.natAbs, b.natAbs, rfl, rfl⟩ (fun ρ ⟨x, y, e, hg⟩ => by
    subst e
    by_cases hy : (y : Int) = 0
    · right
      simp! only [c1__law_gcd, hy, ne_eq, not_true_eq_false]
    · left
      refine ⟨[some (.sh (.int y)), some (.sh (.int ((x % y : Nat) : Int)))], ?_, .inl ?_, ⟨y, x % y, rfl, ?_⟩, ?_⟩
      · simp! only [c1__law_gcd, ne_eq, hy, not_false_eq_true]
      · simp! only [b1__law_gcd]
        rw [o_mod hy]
        simp! only []
        rw [Int.fmod_eq_emod_of_nonneg _ (by omega)]
        rfl
      · rw [← hg, Nat.gcd_comm y (x % y), ← Nat.gcd_rec y x, Nat.gcd_comm y x]
      · show Int.natAbs ((x % y : Nat) : Int) < Int.natAbs (y : Int)
        have : x % y < y := Nat.mod_lt _ (by omega)
        omega)
  rw [h1]
  simp! only []
  have hy : (y : Int) = 0 := by
    by_cases hy : (y : Int) = 0
    · exact hy
    · simp! only [c1__law_gcd, ne_eq, hy, not_false_eq_true] at h3
      cases h3
  have hy : y = 0 := by omega
  subst hy
  rw [Nat.gcd_zero_right] at h2
  rw [h2]
  rfl
theorem div_ok {a b : Int} (h0 : b ≠ 0) (h : b.natAbs < 2 ^ 9000) : opD .fdiv (.int a) (.int b) = okI (a.fdiv b) := o_fdiv (div_small h0 h)
theorem gcd_le {a b : Int} (hb : b ≠ 0) : Int.gcd a b ≤ b.natAbs := Nat.le_of_dvd (by omega) (Nat.gcd_dvd_right ..)
theorem sgcd_ok {a b : Int} (hb : b ≠ 0) (h : b.natAbs < 2 ^ 9000) : (if b < 0 then -((Int.gcd a b : Nat) : Int) else Int.gcd a b) ≠ 0 ∧ (if b < 0 then -((Int.gcd a b : Nat) : Int) else Int.gcd a b).natAbs < 2 ^ 9000 := by
  have h1 := gcd_ne (a := a) hb
  have h2 := gcd_le (a := a) hb
  have h3 := Nat.lt_of_le_of_lt h2 h
  split
  · exact ⟨by omega, by rw [Int.natAbs_neg, Int.natAbs_natCast]; exact h3⟩
  · exact ⟨by omega, by rw [Int.natAbs_natCast]; exact h3⟩
theorem call_number {k : Nat} {a b : Int} (hb : b ≠ 0) (h : b.natAbs < 2 ^ 9000) : callF thePrg fu (k + 1) i_number [.int a, .int b] = .ok (.sh (qD (frac a b))) := by
  rw [run_number]
  obtain ⟨s1, s2⟩ := sgcd_ok (a := a) hb h
  by_cases hn : b < 0
  · rw [if_pos hn] at s1 s2
    have e1 := div_ok (a := a) s1 s2
    have e2 := div_ok (a := b) s1 s2
    have hp : ¬ 0 < b := by omega
    unfold Int.gcd at e1 e2
    simp! only [bd_number, hb, hp, e1, e2]
    unfold frac Int.gcd qD
    rw [if_pos hn]
  · rw [if_neg hn] at s1 s2
    have e1 := div_ok (a := a) s1 s2
    have e2 := div_ok (a := b) s1 s2
    have hp : 0 < b := by omega
    unfold Int.gcd at e1 e2
    simp! only [bd_number, hb, hp, e1, e2]
    unfold frac Int.gcd qD
    rw [if_neg hn]
def absQ (x : Q) : Q := ((x.1.natAbs : Int), x.2)
theorem Sz.abs {n : Nat} {x : Q} (h : Sz n x) : Sz n (absQ x) := ⟨by show ((x.1.natAbs : Nat) : Int).natAbs < _; rw [Int.natAbs_natCast]; exact h.a, h.b, h.p⟩
theorem Cop.abs {x : Q} (h : Cop x) : Cop (absQ x) := by
  show Int.gcd ((x.1.natAbs : Nat) : Int) x.2 = 1
  rw [← h]
  unfold Int.gcd
  rw [Int.natAbs_natCast]
theorem abs_ge (x : Q) (h : 0 < x.2) : 0 ≤ qr (absQ x) := by
  unfold qr absQ
  have := rc_pos h
  rw [Rat.div_def]
  refine Rat.mul_nonneg ?_ (Rat.le_of_lt (Rat.inv_pos.mpr this))
  have : (0 : Int) ≤ (x.1.natAbs : Int) := by omega
  show (0 : Rat) ≤ (((x.1.natAbs : Nat) : Int) : Rat)
  exact_mod_cast this
theorem call_negative {k : Nat} {x : Q} : callF thePrg fu (k + 1) i_negative [qD x] = .ok (.sh (qD (negQ x))) := by
  rw [run_negative]
  simp! only [bd_negative, ix_q0, ix_q1]
  rfl
theorem call__law_frac {k : Nat} {a b : Int} (hb : b ≠ 0) (h : b.natAbs < 2 ^ 9000) (hf : FuOk fu) : callF thePrg fu (k + 2) i__law_frac [.int a, .int b] = .ok (.sh (qD (frac a b))) := by
  rw [run__law_frac]
  have hg : callF thePrg fu (k + 1) i__law_gcd [.int a, .int b] = .ok (.sh (.int (Int.gcd a b))) := call__law_gcd a b (Nat.lt_trans h (hf _ (by decide)))
  obtain ⟨s1, s2⟩ := sgcd_ok (a := a) hb h
  by_cases hn : b < 0
  · rw [if_pos hn] at s1 s2
    have e1 := div_ok (a := a) s1 s2
    have e2 := div_ok (a := b) s1 s2
    simp! only [bd__law_frac, hg, hn, e1, e2]
    unfold frac qD
    rw [if_pos hn]
  · rw [if_neg hn] at s1 s2
    have e1 := div_ok (a := a) s1 s2
    have e2 := div_ok (a := b) s1 s2
    simp! only [bd__law_frac, hg, hn, e1, e2]
    unfold frac qD
    rw [if_neg hn]
def greatI (m : Int) : Int := 10 ^ (m.fmod 40).toNat
def anyB (d m : Int) : Int := 1 + (d.fdiv 16).fmod 9 * (1 + greatI m * (m.fdiv 40).fmod 2)
def anyQ (d m : Int) : Q := frac ((d.fmod 2001 - 1000) * greatI m + m.fmod 7) (anyB d m)
def zerosT (j : Nat) : Str := "1" ++ repS "0" (j : Int)
theorem zeros_int : ∀ j : Nat, j < 40 → (PySem.intText? (zerosT j) = some (10 ^ j) ∧ (zerosT j).length ≤ 640) := by decide +kernel
theorem great_lt {m : Int} : (greatI m).natAbs < 2 ^ 130 ∧ 0 < greatI m := by
  have h := fmod_lt (a := m) (b := 40) (by decide)
  have key : ∀ j : Nat, j < 40 → ((10 : Int) ^ j).natAbs < 2 ^ 130 ∧ (0 : Int) < 10 ^ j := by decide +kernel
  exact key _ (by omega)
theorem any_sz {d m : Int} : ((d.fmod 2001 - 1000) * greatI m + m.fmod 7).natAbs < 2 ^ 145 ∧ (anyB d m).natAbs < 2 ^ 145 ∧ 0 < anyB d m := by
  have h1 := fmod_lt (a := d) (b := 2001) (by decide)
  have h2 := fmod_lt (a := m) (b := 7) (by decide)
  have h3 := fmod_lt (a := d.fdiv 16) (b := 9) (by decide)
  have h4 := fmod_lt (a := m.fdiv 40) (b := 2) (by decide)
  obtain ⟨g1, g2⟩ := great_lt (m := m)
  have p1 : ((d.fmod 2001 - 1000) * greatI m).natAbs < 2 ^ (10 + 130) := mul_lt (by omega) g1
  have p2 : (greatI m * (m.fdiv 40).fmod 2).natAbs < 2 ^ (130 + 1) := mul_lt g1 (by omega)
  have n2 : 0 ≤ greatI m * (m.fdiv 40).fmod 2 := Int.mul_nonneg (Int.le_of_lt g2) h4.1
  have p3 : ((d.fdiv 16).fmod 9 * (1 + greatI m * (m.fdiv 40).fmod 2)).natAbs < 2 ^ (4 + 132) := mul_lt (by omega) (by omega)
  have n3 : 0 ≤ (d.fdiv 16).fmod 9 * (1 + greatI m * (m.fdiv 40).fmod 2) := Int.mul_nonneg h3.1 (by omega)
  unfold anyB
  refine ⟨by omega, by omega, by omega⟩
theorem Sz.any {d m : Int} : Sz 145 (anyQ d m) := Sz.frac (Int.ne_of_gt any_sz.2.2) any_sz.1 any_sz.2.1
theorem call__law_any_number {k : Nat} {d m : Int} (hf : FuOk fu) : callF thePrg fu (k + 3) i__law_any_number [.int d, .int m] = .ok (.sh (qD (anyQ d m))) := by
  rw [run__law_any_number]
  have h := fmod_lt (a := m) (b := 40) (by decide)
  have h1 := fmod_lt (a := d) (b := 2001) (by decide)
  have h3 := fmod_lt (a := d.fdiv 16) (b := 9) (by decide)
  have h4 := fmod_lt (a := m.fdiv 40) (b := 2) (by decide)
  obtain ⟨j, hj⟩ : ∃ j : Nat, m.fmod 40 = j := ⟨(m.fmod 40).toNat, by omega⟩
  have hj40 : j < 40 := by omega
  obtain ⟨z1, z2⟩ := zeros_int j hj40
  have e1 : opD .mul (.str "0") (.int (j : Int)) = .ok (.sh (.str (repS "0" j))) := by
    show (if 0 ≤ (j : Int) ∧ (j : Int) ≤ 1000 ∧ ("0" : Str).length ≤ 1000 then _ else _) = _
    rw [if_pos ⟨by omega, by omega, by decide +kernel⟩]
  have e2 : opD .add (.str "1") (.str (repS "0" j)) = .ok (.sh (.str (zerosT j))) := by
    show (if lenOk (("1" : Str).length + (repS "0" (j : Int)).length) = true then _ else _) = _
    have key : ∀ j : Nat, j < 40 → lenOk (("1" : Str).length + (repS "0" (j : Int)).length) = true := by decide +kernel
    rw [if_pos (key j hj40)]
    rfl
  have e3 : intD (.str (zerosT j)) = okI (greatI m) := by
    show (match PySem.intText? (zerosT j) with | some n => if (zerosT j).length ≤ 640 then okI n else .stuck | none => .stuck) = _
    rw [z1]
    show (if (zerosT j).length ≤ 640 then okI ((10 : Int) ^ j) else .stuck) = _
    rw [if_pos z2]
    unfold greatI
    rw [hj]; rfl
  obtain ⟨g1, g2⟩ := great_lt (m := m)
  have m1 : opD .mul (.int (d.fmod 2001 - 1000)) (.int (greatI m)) = okI ((d.fmod 2001 - 1000) * greatI m) := o_mul (mul_small' (by omega))
  have m2 : opD .mul (.int (greatI m)) (.int ((m.fdiv 40).fmod 2)) = okI (greatI m * (m.fdiv 40).fmod 2) := o_mul (mul_small (by omega))
  have m3 : opD .mul (.int ((d.fdiv 16).fmod 9)) (.int (1 + greatI m * (m.fdiv 40).fmod 2)) = okI ((d.fdiv 16).fmod 9 * (1 + greatI m * (m.fdiv 40).fmod 2)) := o_mul (mul_small' (by omega))
  have fr := call__law_frac (fu := fu) (k := k) (a := (d.fmod 2001 - 1000) * greatI m + m.fmod 7) (b := anyB d m) (Int.ne_of_gt any_sz.2.2) (Nat.lt_of_lt_of_le any_sz.2.1 (pow_mono (by decide))) hf
  unfold anyB at fr
  simp! only [bd__law_any_number, hj, e1, e2, e3, m1, m2, m3, fr]
  rfl
theorem call__law_is_int {k : Nat} (d : PyData) : callF thePrg fu (k + 1) i__law_is_int [d] = .ok (.sh (.bool (isI d))) := by
  rw [run__law_is_int]
  simp! only [bd__law_is_int]
  cases d <;> rfl
theorem call__law_is_number {k : Nat} (a b : Int) : callF thePrg fu (k + 2) i__law_is_number [.int a, .int b] = .ok (.sh (.bool (decide (a = b)))) := by
  rw [run__law_is_number]
  simp! only [bd__law_is_number, call__law_is_int, isI]
theorem call__law_is_text {k : Nat} (a : Str) (h : shapedD (.str a) = true) : callF thePrg fu (k + 1) i__law_is_text [.str a, .str a] = .ok (.sh (.bool true)) := by
  rw [run__law_is_text]
  have e : cmpD .eq (.str a) (.str a) = okB true := by
    show (if (shapedD (.str a) && noD (.str a) && (shapedD (.str a) && noD (.str a))) = true then okB (PyData.eqv (.str a) (.str a)) else .stuck) = _
    rw [h]
    show okB (a == a) = _
    rw [beq_self_eq_true]
  simp! only [bd__law_is_text, tyD, e]
def plainD : Nat → PyData → Bool
  | 0, _ => false
  | n + 1, d => match d with
    | .none => true
    | .bool _ => true
    | .int _ => true
    | .str s => shapedD (.str s)
    | .tuple l => decide (l.length ≤ 100000) && l.all (plainD n)
    | .list l => decide (l.length ≤ 100000) && l.all (plainD n)
    | .dict _ => false
theorem same_seq {P : Prg} {cl : Nat → List PyData → Out W} {l : List PyData} {x : PyData} (hx : x = .tuple l ∨ x = .list l) (hl : l.length ≤ 100000) (h : ∀ y ∈ l, cl i__law_same [y, y] = .ok (.sh (.bool true))) :
    lcLoop (lcT P cl [some (.sh x), some (.sh x), none] (.nm 2) [("k", 2)] (.nt (.val (.call i__law_same (.cons (.ix (.var 0) (.var 2)) (.cons (.ix (.var 1) (.var 2)) .nil))))) (.var 2)) (rngD 0 l.length) = .ok [] := by
  refine lc_none fun y hy => ?_
  obtain ⟨j, rfl, hj⟩ := rng_mem hy
  have hj : j < l.length := by omega
  have e : ixD x (.int j) = .ok (.sh l[j]) := by
    rcases hx with rfl | rfl
    · exact at_tup (List.getElem?_eq_getElem hj)
    · exact at_nat (List.getElem?_eq_getElem hj)
  rw [lt_nm (by simp)]
  simp! only [e, h _ (List.getElem_mem hj)]
theorem call__law_same : ∀ (n : Nat) {k : Nat} (d : PyData), plainD n d = true → callF thePrg fu (k + n + 2) i__law_same [d, d] = .ok (.sh (.bool true))
  | 0, _, _, h => by cases h
  | n + 1, k, d, h => by
    rw [show k + (n + 1) + 2 = (k + n + 2) + 1 by omega, run__law_same]
    cases d with
    | none => simp! only [bd__law_same, tyD]
    | bool b => cases b <;> simp! only [bd__law_same, tyD] <;> rfl
    | int i =>
      simp! only [bd__law_same, tyD, call__law_is_number]
    | str s =>
      have h : shapedD (.str s) = true := h
      simp! only [bd__law_same, tyD, call__law_is_text s h]
    | tuple l =>
      obtain ⟨h1, h2⟩ := Bool.and_eq_true_iff.mp (show (decide (l.length ≤ 100000) && l.all (plainD n)) = true from h)
      have h1 := of_decide_eq_true h1
      have q := same_seq (P := thePrg) (cl := callF thePrg fu (k + n + 2)) (l := l) (.inl rfl) h1 fun y hy => call__law_same n y (List.all_eq_true.mp h2 y hy)
      simp! only [bd__law_same, tyD, rng1_ok (show l.length ≤ 16000000 by omega), q, not_true_eq_false, lce (l := []) (by simp)]
      rfl
    | list l =>
      obtain ⟨h1, h2⟩ := Bool.and_eq_true_iff.mp (show (decide (l.length ≤ 100000) && l.all (plainD n)) = true from h)
      have h1 := of_decide_eq_true h1
      have q := same_seq (P := thePrg) (cl := callF thePrg fu (k + n + 2)) (l := l) (.inr rfl) h1 fun y hy => call__law_same n y (List.all_eq_true.mp h2 y hy)
      simp! only [bd__law_same, tyD, rng1_ok (show l.length ≤ 16000000 by omega), q, not_true_eq_false, lce (l := []) (by simp)]
      rfl
    | dict _ => cases h
theorem plain_sh : ∀ (n : Nat) (d : PyData), plainD n d = true → d.canLay0 = true ∧ d.depth ≤ n ∧ noD d = true
  | 0, _, h => by cases h
  | n + 1, d, h => by
    have all : ∀ l : List PyData, l.all (plainD n) = true → PyData.canLayAll0 l = true ∧ PyData.depthAll l ≤ n ∧ noDs l = true := by
      intro l
      induction l with
      | nil => intro _; exact ⟨rfl, Nat.zero_le _, rfl⟩
      | cons x xs ih =>
        intro h
        rw [List.all_cons, Bool.and_eq_true] at h
        obtain ⟨a1, a2, a3⟩ := plain_sh n x h.1
        obtain ⟨b1, b2, b3⟩ := ih h.2
        refine ⟨?_, ?_, ?_⟩
        · show (PyData.canLay0 x && PyData.canLayAll0 xs) = true
          rw [a1, b1]; rfl
        · show max (PyData.depth x) (PyData.depthAll xs) ≤ n
          omega
        · show (noD x && noDs xs) = true
          rw [a3, b3]; rfl
    cases d with
    | none => exact ⟨rfl, Nat.zero_le _, rfl⟩
    | bool b => exact ⟨rfl, Nat.zero_le _, rfl⟩
    | int i => exact ⟨rfl, Nat.zero_le _, rfl⟩
    | str s =>
      have h : (PyData.canLay0 (.str s) && decide ((PyData.str s).depth ≤ 64)) = true := h
      exact ⟨(Bool.and_eq_true_iff.mp h).1, Nat.zero_le _, rfl⟩
    | tuple l =>
      obtain ⟨_, h2⟩ := Bool.and_eq_true_iff.mp (show (decide (l.length ≤ 100000) && l.all (plainD n)) = true from h)
      obtain ⟨b1, b2, b3⟩ := all l h2
      exact ⟨b1, Nat.succ_le_succ b2, b3⟩
    | list l =>
      obtain ⟨_, h2⟩ := Bool.and_eq_true_iff.mp (show (decide (l.length ≤ 100000) && l.all (plainD n)) = true from h)
      obtain ⟨b1, b2, b3⟩ := all l h2
      exact ⟨b1, Nat.succ_le_succ b2, b3⟩
    | dict _ => cases h
theorem plain_ok {n : Nat} {d : PyData} (h : plainD n d = true) (hn : n ≤ 64) : (shapedD d && noD d) = true := by
  obtain ⟨a, b, c⟩ := plain_sh n d h
  show ((PyData.canLay0 d && decide (d.depth ≤ 64)) && noD d) = true
  rw [a, c, decide_eq_true (show d.depth ≤ 64 by omega)]; rfl
theorem inn_ok {n m : Nat} {a : PyData} {l : List PyData} (ha : plainD n a = true) (hl : plainD m (.list l) = true) (hn : n ≤ 64) (hm : m ≤ 64) : cmpD .inn a (.list l) = okB (l.any fun z => PyData.eqv z a) := by
  have q : (shapedD a && noD a && (shapedD (.list l) && noD (.list l))) = true := by rw [plain_ok ha hn, plain_ok hl hm]; rfl
  have key : cmpD .inn a (.list l) = if (shapedD a && noD a && (shapedD (.list l) && noD (.list l))) = true then okB (l.any fun z => PyData.eqv z a) else .stuck := by cases a <;> rfl
  rw [key, if_pos q]
theorem lcEnd_map {α : Type} {l : List α} {e : α → PyData} (h : l.length ≤ 16000000) : lcEnd (l.map e) = .ok (.nl (l.map e)) := lce (by rw [List.length_map]; exact h)
theorem zip_len {α β : Type} {a : List α} {b : List β} {n : Nat} (h : a.length ≤ n) : (a.zip b).length ≤ n := by rw [List.length_zip]; omega
theorem kept_if {b : Bool} {k : Nat} : (if b = true then Out.ok (some (PyData.int k)) else Out.ok none) = Out.ok (if b = true then some (PyData.int k) else none) := by split <;> rfl
theorem dec_eq {p : Prop} [Decidable p] {b : Bool} (h : p ↔ b = true) : decide p = b := by
  cases b with
  | true => exact decide_eq_true (h.mpr rfl)
  | false => exact decide_eq_false fun z => nomatch h.mp z
theorem getD_at {α : Type} {l : List α} {k : Nat} {d x : α} (h : l[k]? = some x) : l.getD k d = x := by rw [List.getD_eq_getElem?_getD, h]; rfl
theorem kept_d {b : Bool} {d : PyData} : (if b = true then Out.ok (some d) else Out.ok none) = Out.ok (if b = true then some d else none) := by split <;> rfl
structure Tx (N : Nat) (s : Str) : Prop where
  l : s.length ≤ N
  c : ∀ c ∈ TL.tl s, c < 0x110000
theorem Tx.ok {N : Nat} {s : Str} (h : Tx N s) : shapedD (.str s) = true := by
  show (PyData.strOk s && decide (PyData.depth (.str s) ≤ 64)) = true
  have : PyData.strOk s = true := by
    unfold PyData.strOk
    rw [← Array.all_toList, List.all_eq_true]
    exact fun x hx => decide_eq_true (h.c x hx)
  rw [this]; rfl
theorem Tx.app {N M : Nat} {s t : Str} (h : Tx N s) (g : Tx M t) : Tx (N + M) (s ++ t) := by
  refine ⟨?_, fun x hx => ?_⟩
  · rw [Str.length_append]; have := h.l; have := g.l; omega
  · rw [TL.tl_append] at hx
    exact (List.mem_append.mp hx).elim (h.c x) (g.c x)
theorem Tx.mono {N M : Nat} {s : Str} (h : Tx N s) (g : N ≤ M) : Tx M s := ⟨Nat.le_trans h.l g, h.c⟩
def txB (N : Nat) (s : Str) : Bool := decide (s.length ≤ N) && (TL.tl s).all (· < 0x110000)
theorem txB_ok {N : Nat} {s : Str} (h : txB N s = true) : Tx N s := by
  obtain ⟨h1, h2⟩ := Bool.and_eq_true_iff.mp h
  exact ⟨of_decide_eq_true h1, fun x hx => of_decide_eq_true (List.all_eq_true.mp h2 x hx)⟩
def itT (i : Int) : Str := Str.ofString (toString i)
theorem itT_tx {i : Int} {k : Nat} (hk : 0 < k) (h : i.natAbs < 10 ^ k) : Tx (k + 1) (itT i) := by
  refine ⟨?_, fun x hx => ?_⟩
  · have := PySem.int_text_length_le10 hk h
    rw [TL.len_tl]
    unfold itT
    rw [TL.tl_ofString, List.length_map, String.length_toList]
    exact this
  · unfold itT at hx
    rw [TL.tl_ofString] at hx
    obtain ⟨c, _, rfl⟩ := List.mem_map.mp hx
    have := c.valid
    have : c.toNat < 1114112 := by
      rcases this with h | h
      · exact Nat.lt_trans (show c.toNat < 0xd800 from h) (by decide)
      · exact h.2
    exact this
theorem str_i {i : Int} (h : i.natAbs < 2 ^ 1000) : strD (.int i) = .ok (.sh (.str (itT i))) := by
  have : i.natAbs.log2 < 1920 := by
    by_cases z : i.natAbs = 0
    · rw [z]; decide
    · exact Nat.lt_of_lt_of_le ((Nat.log2_lt z).mpr h) (by decide)
  exact if_pos this
theorem o_adds {N M : Nat} {a b : Str} (h : Tx N a) (g : Tx M b) (hn : N + M ≤ 16000000) : opD .add (.str a) (.str b) = .ok (.sh (.str (a ++ b))) := if_pos (lenOk_of (by have := h.l; have := g.l; omega))
theorem aug_s {N M : Nat} {a b : Str} (h : Tx N a) (g : Tx M b) (hn : N + M ≤ 16000000) : augD .add (.str a) (.str b) = .ok (.sh (.str (a ++ b))) := o_adds h g hn
theorem cmp_s {N M : Nat} {a b : Str} (h : Tx N a) (g : Tx M b) : cmpD .eq (.str a) (.str b) = okB (a == b) ∧ cmpD .ne (.str a) (.str b) = okB (!(a == b)) := by
  have e1 := h.ok
  have e2 := g.ok
  constructor
  · show (if (shapedD (.str a) && noD (.str a) && (shapedD (.str b) && noD (.str b))) = true then okB (PyData.eqv (.str a) (.str b)) else .stuck) = _
    rw [e1, e2]; rfl
  · show (if (shapedD (.str a) && noD (.str a) && (shapedD (.str b) && noD (.str b))) = true then okB (!PyData.eqv (.str a) (.str b)) else .stuck) = _
    rw [e1, e2]; rfl
theorem joinL_len (S : List Nat) {N : Nat} : ∀ l : List (List Nat), (∀ x ∈ l, x.length ≤ N) → (TL.joinL S l).length ≤ l.length * (N + S.length)
  | [], _ => Nat.zero_le _
  | [p], h => by
    have := h p List.mem_cons_self
    show p.length ≤ 1 * _
    omega
  | p :: q :: r, h => by
    have h1 := h p List.mem_cons_self
    have h2 := joinL_len S (q :: r) fun x hx => h x (List.mem_cons_of_mem _ hx)
    show (p ++ (S ++ TL.joinL S (q :: r))).length ≤ _
    rw [List.length_append, List.length_append, List.length_cons (as := q :: r), Nat.add_mul, Nat.one_mul]
    omega
theorem joinL_mem (S : List Nat) : ∀ (l : List (List Nat)) (x : Nat), x ∈ TL.joinL S l → x ∈ S ∨ ∃ p ∈ l, x ∈ p
  | [], _, h => by cases h
  | [p], x, h => .inr ⟨p, List.mem_cons_self, h⟩
  | p :: q :: r, x, h => by
    have h : x ∈ p ++ (S ++ TL.joinL S (q :: r)) := h
    rcases List.mem_append.mp h with h | h
    · exact .inr ⟨p, List.mem_cons_self, h⟩
    · rcases List.mem_append.mp h with h | h
      · exact .inl h
      · rcases joinL_mem S (q :: r) x h with h | ⟨y, hy, h⟩
        · exact .inl h
        · exact .inr ⟨y, List.mem_cons_of_mem _ hy, h⟩
theorem tx_join {N K : Nat} {s : Str} {l : List Str} (hs : Tx 1 s) (h : ∀ x ∈ l, Tx N x) (hl : l.length ≤ K) : Tx (K * (N + 1)) (Txt.join s l) := by
  have e : TL.tl (Txt.join s l) = TL.joinL (TL.tl s) (l.map TL.tl) := by rw [TL.join_eq, TL.tl_join]
  have s1 : (TL.tl s).length ≤ 1 := by rw [← TL.len_tl]; exact hs.l
  refine ⟨?_, fun x hx => ?_⟩
  · rw [TL.len_tl, e]
    have := joinL_len (TL.tl s) (N := N) (l.map TL.tl) fun x hx => by
      obtain ⟨y, hy, rfl⟩ := List.mem_map.mp hx
      rw [← TL.len_tl]; exact (h y hy).l
    rw [List.length_map] at this
    exact Nat.le_trans this (Nat.mul_le_mul hl (by omega))
  · rw [e] at hx
    rcases joinL_mem _ _ _ hx with h' | ⟨p, hp, h'⟩
    · exact hs.c x h'
    · obtain ⟨y, hy, rfl⟩ := List.mem_map.mp hp
      exact (h y hy).c x h'
theorem strsL_map : ∀ l : List Str, strsL (l.map .str) = some l
  | [] => rfl
  | x :: r => by
    show (strsL (r.map .str)).map (x :: ·) = _
    rw [strsL_map r]; rfl
theorem join_d {N : Nat} {s : Str} {l : List Str} (hs : Tx 1 s) (h : ∀ x ∈ l, Tx N x) (hl : l.length ≤ 1000) (hN : N ≤ 10000) : mthD .join (.str s) (.list (l.map .str)) = .ok (.sh (.str (Txt.join s l))) := by
  show (match strsL (l.map .str) with
    | some ys => if (ys.map fun x : Str => x.length).sum + ys.length * s.length ≤ 16777216 then Out.ok (W.sh (.str (Txt.join s ys))) else .stuck
    | none => .stuck) = _
  rw [strsL_map]
  refine if_pos ?_
  have key : ∀ l : List Str, (∀ x ∈ l, x.length ≤ N) → (l.map fun x : Str => x.length).sum ≤ l.length * N := fun l => by
    induction l with
    | nil => intro _; exact Nat.zero_le _
    | cons a r ih =>
      intro h
      have h1 := h a List.mem_cons_self
      have h2 := ih fun x hx => h x (List.mem_cons_of_mem _ hx)
      rw [List.map_cons, List.sum_cons, List.length_cons, Nat.add_mul, Nat.one_mul]
      omega
  have k1 := key l fun x hx => (h x hx).l
  have k2 := Nat.mul_le_mul hl hs.l
  have k3 := Nat.mul_le_mul hl hN
  omega
theorem strs_nil {N : Nat} {l : List Str} (h : ∀ x ∈ l, Tx N x) (hl : l.length ≤ 1000) : cmpD .eq (.list (l.map .str)) (.list []) = okB l.isEmpty := by
  have pl : plainD 2 (.list (l.map .str)) = true := by
    show (decide ((l.map PyData.str).length ≤ 100000) && (l.map PyData.str).all (plainD 1)) = true
    rw [decide_eq_true (by rw [List.length_map]; omega), Bool.true_and, List.all_eq_true]
    intro x hx
    obtain ⟨y, hy, rfl⟩ := List.mem_map.mp hx
    exact (h y hy).ok
  have key : cmpD .eq (.list (l.map .str)) (.list []) = if (shapedD (.list (l.map .str)) && noD (.list (l.map .str)) && (shapedD (.list []) && noD (.list []))) = true then okB (PyData.eqv (.list (l.map .str)) (.list [])) else .stuck := rfl
  rw [key, plain_ok pl (by decide), show (shapedD (.list []) && noD (.list [])) = true by decide]
  cases l <;> rfl
def numT (x : Q) : Str := if x.2 = 1 then itT x.1 else itT x.1 ++ "/" ++ itT x.2
theorem numT_tx {x : Q} {k : Nat} (hk : 0 < k) (h1 : x.1.natAbs < 10 ^ k) (h2 : x.2.natAbs < 10 ^ k) : Tx (k + 1 + 1 + (k + 1)) (numT x) := by
  have a := itT_tx hk h1
  have b := itT_tx hk h2
  have c : Tx 1 ("/" : Str) := txB_ok (by decide +kernel)
  unfold numT
  split
  · exact a.mono (by omega)
  · exact (a.app c).app b
theorem small1000 {x : Int} {k : Nat} (hk : k ≤ 200) (h : x.natAbs < 10 ^ k) : x.natAbs < 2 ^ 1000 := Nat.lt_of_lt_of_le h (Nat.le_trans (Nat.pow_le_pow_left (show 10 ≤ 2 ^ 4 by decide) k) (by rw [← Nat.pow_mul]; exact Nat.pow_le_pow_right (by decide) (by omega)))
section
variable {j : Nat}
theorem call_write_number {x : Q} {k : Nat} (hk : 0 < k) (hk2 : k ≤ 200) (h1 : x.1.natAbs < 10 ^ k) (h2 : x.2.natAbs < 10 ^ k) : callF thePrg fu (j + 1) i_write_number [qD x] = .ok (.sh (.str (numT x))) := by
  rw [run_write_number]
  have s1 := str_i (small1000 (show k ≤ 200 by omega) h1)
  have s2 := str_i (small1000 (show k ≤ 200 by omega) h2)
  have a := itT_tx hk h1
  have b := itT_tx hk h2
  have c : Tx 1 ("/" : Str) := txB_ok (by decide +kernel)
  have o1 := o_adds a c (by omega)
  have o2 := o_adds (a.app c) b (by omega)
  unfold numT
  by_cases z : x.2 = 1
  · simp! only [bd_write_number, ix_q0, ix_q1, z, s1]
  · simp! only [bd_write_number, ix_q0, ix_q1, z, s1, s2, o1, o2]
end
def nmS : List Str := ["x", "y", "z", "u"]
def powE (p : Str × Int) : List Str := if p.2 = 1 then [p.1] else if 1 < p.2 then [p.1 ++ "^" ++ itT p.2] else []
def powL (l : List (Str × Int)) : List Str := l.flatMap powE
theorem nm_tx : ∀ s ∈ nmS, Tx 1 s := by
  have : nmS.all (txB 1) = true := by decide +kernel
  exact fun s h => txB_ok (List.all_eq_true.mp this s h)
theorem powE_tx {s : Str} {e : Int} (h : s ∈ nmS) (he : e.natAbs < 10 ^ 8) : ∀ x ∈ powE (s, e), Tx 11 x := by
  intro x hx
  unfold powE at hx
  have c : Tx 1 ("^" : Str) := txB_ok (by decide +kernel)
  split at hx
  · rw [List.mem_singleton.mp hx]; exact (nm_tx s h).mono (by decide)
  · split at hx
    · rw [List.mem_singleton.mp hx]
      exact ((nm_tx s h).app c).app (itT_tx (k := 8) (by decide) he)
    · cases hx
theorem powE_len (p : Str × Int) : (powE p).length ≤ 1 := by
  unfold powE
  split
  · exact Nat.le_refl _
  · split
    · exact Nat.le_refl _
    · exact Nat.zero_le _
theorem powL_len : ∀ l : List (Str × Int), (powL l).length ≤ l.length
  | [] => Nat.le_refl _
  | p :: r => by
    have h1 := powE_len p
    have h2 := powL_len r
    show (powE p ++ powL r).length ≤ _
    rw [List.length_append, List.length_cons]; omega
def SmE (es : List Int) : Prop := es.length ≤ 4 ∧ ∀ e ∈ es, e.natAbs < 10 ^ 8
theorem powL_tx {es : List Int} (h : SmE es) : ∀ x ∈ powL (nmS.zip es), Tx 11 x := by
  intro x hx
  obtain ⟨p, hp, hx⟩ := List.mem_flatMap.mp hx
  obtain ⟨a, b⟩ := List.of_mem_zip hp
  exact powE_tx a (h.2 _ b) x hx
section
variable {j : Nat} {es : List Int}
theorem app_pow {s : Str} {e : Int} (h : s ∈ nmS) (he : e.natAbs < 10 ^ 8) : (1 < e → opD .add (.str s) (.str "^") = .ok (.sh (.str (s ++ "^"))) ∧ opD .add (.str (s ++ "^")) (.str (itT e)) = .ok (.sh (.str (s ++ "^" ++ itT e)))) ∧ strD (.int e) = .ok (.sh (.str (itT e))) := by
  have c : Tx 1 ("^" : Str) := txB_ok (by decide +kernel)
  exact ⟨fun _ => ⟨o_adds (nm_tx s h) c (by decide), o_adds ((nm_tx s h).app c) (itT_tx (k := 8) (by decide) he) (by decide)⟩, str_i (small1000 (k := 8) (by decide) he)⟩
end
def parT (es : List Int) (x : Q) : List Str := if (powL (nmS.zip es)).isEmpty = true ∨ x ≠ (1, 1) then numT x :: powL (nmS.zip es) else powL (nmS.zip es)
def termT (es : List Int) (x : Q) : Str := Txt.join "*" (parT es x)
def SmQ (x : Q) : Prop := x.1.natAbs < 10 ^ 8 ∧ x.2.natAbs < 10 ^ 8
theorem pow_len {es : List Int} (h : SmE es) : (powL (nmS.zip es)).length ≤ 4 := by
  have h1 := powL_len (nmS.zip es)
  rw [List.length_zip] at h1
  have := h.1
  omega
theorem parT_tx {es : List Int} {x : Q} (h : SmE es) (hx : SmQ x) : (∀ s ∈ parT es x, Tx 19 s) ∧ (parT es x).length ≤ 5 := by
  have a := fun s hs => (powL_tx h s hs).mono (show 11 ≤ 19 by decide)
  have b : Tx 19 (numT x) := numT_tx (k := 8) (by decide) hx.1 hx.2
  have l := pow_len h
  unfold parT
  split
  · refine ⟨fun s hs => (List.mem_cons.mp hs).elim (fun e => e ▸ b) (a s), by rw [List.length_cons]; omega⟩
  · exact ⟨a, by omega⟩
theorem termT_tx {es : List Int} {x : Q} (h : SmE es) (hx : SmQ x) : Tx 100 (termT es x) := by
  obtain ⟨a, b⟩ := parT_tx h hx
  exact tx_join (K := 5) (txB_ok (by decide +kernel)) a b
theorem ne_one (x : Q) : cmpD .ne (qD x) (.tuple [.int 1, .int 1]) = okB (decide (x ≠ (1, 1))) := by
  have key : cmpD .ne (qD x) (qD (1, 1)) = if (shapedD (qD x) && noD (qD x) && (shapedD (qD (1, 1)) && noD (qD (1, 1)))) = true then okB (!PyData.eqv (qD x) (qD (1, 1))) else .stuck := rfl
  have key : cmpD .ne (qD x) (.tuple [.int 1, .int 1]) = _ := key
  rw [key, plain_ok (n := 2) (d := qD x) rfl (by decide), plain_ok (n := 2) (d := qD (1, 1)) rfl (by decide)]
  obtain ⟨a, b⟩ := x
  show okB (!(decide (a = 1) && (decide (b = 1) && true))) = _
  congr 1
  by_cases h1 : a = 1
  · by_cases h2 : b = 1
    · subst h1; subst h2; rfl
    · subst h1
      rw [decide_eq_false h2, decide_eq_true (show ((1, b) : Q) ≠ (1, 1) from fun e => h2 (congrArg (·.2) e))]; rfl
  · rw [decide_eq_false h1, decide_eq_true (show ((a, b) : Q) ≠ (1, 1) from fun e => h1 (congrArg (·.1) e))]; rfl
section
variable {j : Nat} {es : List Int} {x : Q}
theorem SmQ.abs (h : SmQ x) : SmQ (absQ x) := ⟨by show ((x.1.natAbs : Nat) : Int).natAbs < _; rw [Int.natAbs_natCast]; exact h.1, h.2⟩
end
theorem frac_one (a : Int) : frac a 1 = (a, 1) := by
  unfold frac
  rw [if_neg (by decide), Int.gcd_one]
  simp
theorem e_tx : Tx 0 ("" : Str) := txB_ok (by decide +kernel)
def figL (l : List Nat) : Bool := !l.isEmpty && decide (l.length ≤ 60) && l.all (fun c => decide (48 ≤ c) && decide (c ≤ 57)) && (decide (l = [48]) || !decide (l.head? = some 48))
def figB (t : Str) : Bool := figL (TL.tl t)
def valT (t : Str) : Nat := NumText.digitsVal (TL.tl t)
theorem fold_lt : ∀ (l : List Nat) (a : Nat), (∀ c ∈ l, c ≤ 57) → l.foldl (fun acc c => acc * 10 + (c - 48)) a < (a + 1) * 10 ^ l.length
  | [], a, _ => by show a < (a + 1) * 1; omega
  | c :: r, a, h => by
    have hc := h c List.mem_cons_self
    have ih := fold_lt r (a * 10 + (c - 48)) fun x hx => h x (List.mem_cons_of_mem _ hx)
    rw [List.foldl_cons, List.length_cons, Nat.pow_succ', ← Nat.mul_assoc]
    exact Nat.lt_of_lt_of_le ih (Nat.mul_le_mul_right _ (by omega))
structure Fig (t : Str) : Prop where
  ne : TL.tl t ≠ []
  len : t.length ≤ 60
  dig : NumText.AllDigits (TL.tl t)
  can : itT (valT t) = t
  lt : valT t < 10 ^ 60
  ns : 47 ∉ TL.tl t
theorem fig_ok {t : Str} (h : figB t = true) : Fig t := by
  unfold figB figL at h
  rw [Bool.and_eq_true, Bool.and_eq_true, Bool.and_eq_true] at h
  obtain ⟨⟨⟨h1, h2⟩, h3⟩, h4⟩ := h
  have h2 := of_decide_eq_true h2
  have dig : NumText.AllDigits (TL.tl t) := fun c hc => by
    have := List.all_eq_true.mp h3 c hc
    rw [Bool.and_eq_true] at this
    exact ⟨of_decide_eq_true this.1, of_decide_eq_true this.2⟩
  have ne : TL.tl t ≠ [] := fun e => by rw [e] at h1; cases h1
  refine ⟨ne, by rw [TL.len_tl]; exact h2, dig, ?_, ?_, fun hm => by have := dig 47 hm; omega⟩
  · refine TL.ext_tl ?_
    show TL.tl (Str.ofString (toString ((valT t : Nat) : Int))) = _
    rw [TL.tl_num]
    unfold TL.numL valT
    obtain ⟨c, r, e⟩ : ∃ c r, TL.tl t = c :: r := by
      cases hq : TL.tl t with
      | nil => exact absurd hq ne
      | cons c r => exact ⟨c, r, rfl⟩
    have hc := dig c (by rw [e]; exact List.mem_cons_self)
    rw [NumText.toDigits_digitsVal r.length (TL.tl t) (by rw [e]; rfl) dig (by
      rw [Bool.or_eq_true] at h4
      rcases h4 with h4 | h4
      · have := of_decide_eq_true h4
        rw [e] at this
        injection this with _ h5
        exact .inl (by rw [h5]; rfl)
      · refine .inr ⟨c, r, e, ?_⟩
        rw [e] at h4
        have : c ≠ 48 := fun z => by subst z; cases h4
        omega), List.map_map]
    conv => rhs; rw [← List.map_id (TL.tl t)]
    refine List.map_congr_left fun x hx => ?_
    have hx := dig x hx
    show (Char.ofNat x).toNat = x
    exact (show ∀ x < 58, (Char.ofNat x).toNat = x by decide) x (by omega)
  · have := fold_lt (TL.tl t) 0 fun c hc => (dig c hc).2
    refine Nat.lt_of_lt_of_le this ?_
    rw [Nat.zero_add, Nat.one_mul]
    exact Nat.pow_le_pow_right (by decide) h2
def chS (c : Nat) : Str := ⟨#[c]⟩
def chars (t : Str) : List PyData := (TL.tl t).map fun c => .str (chS c)
def isDg (c : Nat) : Bool := decide (48 ≤ c) && decide (c ≤ 57)
theorem mem_digs (c : Nat) : decide (c ∈ TL.tl ("0123456789" : Str)) = isDg c := by
  have e : TL.tl ("0123456789" : Str) = [48, 49, 50, 51, 52, 53, 54, 55, 56, 57] := by decide +kernel
  rw [e]
  unfold isDg
  by_cases h : 48 ≤ c ∧ c ≤ 57
  · rw [decide_eq_true h.1, decide_eq_true h.2]
    refine decide_eq_true ?_
    simp only [List.mem_cons, List.not_mem_nil, or_false]
    omega
  · have : ¬ (c ∈ [48, 49, 50, 51, 52, 53, 54, 55, 56, 57]) := by
      simp only [List.mem_cons, List.not_mem_nil, or_false]
      omega
    rw [decide_eq_false this]
    by_cases h1 : 48 ≤ c
    · rw [decide_eq_false (show ¬ c ≤ 57 by omega), Bool.and_false]
    · rw [decide_eq_false h1]; rfl
theorem notin_dig (c : Nat) : cmpD .notin (.str (chS c)) (.str "0123456789") = okB (!isDg c) := by
  show okB (!(!(Builtin.Str.occurrences "0123456789" ⟨#[c]⟩ 0 (Str.length "0123456789") 1).isEmpty)) = _
  rw [StrLaws.found_one]
  show okB (!decide (c ∈ TL.tl ("0123456789" : Str))) = _
  rw [mem_digs]
theorem seq_s (t : Str) : seqD (.str t) = .ok (chars t) := rfl
theorem len_s {N : Nat} {t : Str} (h : Tx N t) (hN : N ≤ 16000000) : lenD (.str t) = okI (t.length : Nat) := if_pos (lenOk_of (by have := h.l; omega))
theorem at0_s {N : Nat} {t : Str} {c : Nat} {r : List Nat} (h : Tx N t) (hN : N ≤ 16000000) (e : TL.tl t = c :: r) : ixD (.str t) (.int 0) = .ok (.sh (.str (chS c))) := by
  have e1 : ixD (.str t) (.int 0) = if lenOk t.length then (match atI (TL.tl t) 0 with | some c => .ok (.sh (.str ⟨#[c]⟩)) | none => .stuck) else .stuck := rfl
  rw [e1, if_pos (lenOk_of (by have := h.l; omega)), e, show atI (c :: r) 0 = some c by simp [atI, ixN]]
  rfl
theorem chS_tx {c : Nat} (h : c < 0x110000) : Tx 1 (chS c) := ⟨Nat.le_refl _, fun x hx => by
  have : x ∈ [c] := hx
  rw [List.mem_singleton.mp this]; exact h⟩
theorem ch_eq (c d : Nat) : (chS c == chS d) = decide (c = d) := by
  by_cases h : c = d
  · subst h; rw [beq_self_eq_true, decide_eq_true rfl]
  · rw [decide_eq_false h]
    refine beq_eq_false_iff_ne.mpr fun e => h ?_
    have : TL.tl (chS c) = TL.tl (chS d) := congrArg TL.tl e
    injection this
theorem str_eq (t s : Str) : (t == s) = decide (TL.tl t = TL.tl s) := by
  by_cases h : TL.tl t = TL.tl s
  · rw [TL.ext_tl h, beq_self_eq_true, decide_eq_true rfl]
  · rw [decide_eq_false h]
    exact beq_eq_false_iff_ne.mpr fun e => h (congrArg TL.tl e)
theorem any_ofT {α : Type} (c : α → Bool) (l : List α) : anyD (.list (l.map fun x => .bool (c x))) = okB (l.any c) := by
  show (match boolsOf (l.map fun x => .bool (c x)) with | some ns => okB (ns.any id) | none => .stuck) = _
  rw [bools_of]
  show okB ((l.map c).any id) = _
  rw [List.any_map]; rfl
section
variable {k : Nat}
theorem call_is_figures {t : Str} (h : Tx 10000 t) : callF thePrg fu (k + 1) i_is_figures [.str t] = .ok (.sh (.bool (figB t))) := by
  rw [run_is_figures]
  have hg0 : ∃ x, thePrg.consts[0]? = some (x, .int 60) := ⟨_, rfl⟩
  have hg1 : ∃ x, thePrg.consts[1]? = some (x, .str "0123456789") := ⟨_, rfl⟩
  generalize callF thePrg fu k = cl at *
  generalize thePrg = P at *
  obtain ⟨x0, hg0⟩ := hg0
  obtain ⟨x1, hg1⟩ := hg1
  have ce := (cmp_s h e_tx).1
  rw [str_eq] at ce
  have ce : cmpD .eq (.str t) (.str "") = okB (decide (TL.tl t = [])) := ce
  have ll := len_s h (by decide)
  have lt : (TL.tl t).length = t.length := (TL.len_tl t).symm
  have hl := h.l
  unfold figB figL
  cases e : TL.tl t with
  | nil =>
    rw [e] at ce
    have ce : cmpD .eq (.str t) (.str "") = okB true := ce
    simp! only [bd_is_figures, ce]
    rfl
  | cons c r =>
    rw [e] at ce
    have ce : cmpD .eq (.str t) (.str "") = okB false := ce
    have l2 : (c :: r).length = t.length := by rw [← e]; exact lt
    rw [l2]
    by_cases z : t.length ≤ 60
    · have z' : ¬ (60 : Int) < (t.length : Nat) := by omega
      rw [decide_eq_true z]
      have lc := lc_ofm (f := lcT P cl [some (.sh (.str t)), none] (.nm 1) [("letter", 1)] .yes (.cmp .notin (.var 1) (.glob 1))) (e := fun c => .str (chS c)) (g := fun c => .bool (!isDg c)) (TL.tl t) (fun x hx => by
        simp! only [hg1, notin_dig])
      have lc : lcLoop (lcT P cl [some (.sh (.str t)), none] (.nm 1) [("letter", 1)] .yes (.cmp .notin (.var 1) (.glob 1))) (chars t) = .ok ((TL.tl t).map fun c => .bool (!isDg c)) := lc
      have le : lcEnd ((TL.tl t).map fun c => PyData.bool (!isDg c)) = _ := lcEnd_map (show (TL.tl t).length ≤ 16000000 by omega)
      have an := any_ofT (fun c => !isDg c) (TL.tl t)
      have al : ((TL.tl t).any fun c => !isDg c) = !((c :: r).all fun c => decide (48 ≤ c) && decide (c ≤ 57)) := by
        rw [e, List.all_eq_not_any_not, Bool.not_not]; rfl
      rw [al] at an
      have c0 := (cmp_s h (txB_ok (N := 1) (s := "0") (by decide +kernel))).1
      rw [str_eq, e] at c0
      have c0 : cmpD .eq (.str t) (.str "0") = okB (decide (c :: r = [48])) := c0
      have x0 := at0_s h (by decide) e
      have cc := h.c c (by rw [e]; exact List.mem_cons_self)
      have c1 := (cmp_s (chS_tx cc) (chS_tx (c := 48) (by decide))).2
      rw [ch_eq] at c1
      have c1 : cmpD .ne (.str (chS c)) (.str "0") = okB (!decide (c = 48)) := c1
      have hd : decide ((c :: r).head? = some 48) = decide (c = 48) := by
        show decide (some c = some 48) = _
        exact decide_eq_decide.mpr ⟨fun h => by injection h, fun h => by rw [h]⟩
      rw [hd]
      generalize ((c :: r).all fun c => decide (48 ≤ c) && decide (c ≤ 57)) = b1 at *
      generalize decide (c :: r = [48]) = b2 at *
      generalize decide (c = 48) = b3 at *
      cases b1 with
      | false =>
        simp! only [bd_is_figures, ce, ll, hg0, z', seq_s, lc, le, an]
      | true =>
        cases b2 with
        | true =>
          simp! only [bd_is_figures, ce, ll, hg0, z', seq_s, lc, le, an, c0]
          rfl
        | false =>
          simp! only [bd_is_figures, ce, ll, hg0, z', seq_s, lc, le, an, c0, x0, c1]
          cases b3 <;> rfl
    · have z' : (60 : Int) < (t.length : Nat) := by omega
      rw [decide_eq_false z]
      simp! only [bd_is_figures, ce, ll, hg0, z']
end
theorem eq_mk1 {s : Str} {c : Nat} (h : TL.tl s = [c]) : s = ⟨#[c]⟩ := TL.ext_tl (by rw [h])
theorem minus_mk : ("-" : Str) = ⟨#[45]⟩ := eq_mk1 (by decide +kernel)
theorem slash_tl : TL.tl ("/" : Str) = [47] := by decide +kernel
theorem cut_1 (t : Str) : TL.tl (cutS t none (some 1)) = (TL.tl t).take 1 := by
  have : TL.tl (cutS t none (some ((1 : Nat) : Int))) = (t.cps.toList.drop (HT.sIx t.length 0 none)).take (HT.sIx t.length t.length (some ((1 : Nat) : Int)) - HT.sIx t.length 0 none) := rfl
  have this : TL.tl (cutS t none (some 1)) = _ := this
  rw [this, HT.sIx_none, HT.sIx_nat, List.drop_zero, Nat.sub_zero]
  have hl : t.length = (TL.tl t).length := TL.len_tl t
  show (TL.tl t).take (min 1 t.length) = _
  rw [hl]
  cases TL.tl t with
  | nil => rfl
  | cons c r => rw [List.length_cons, Nat.min_eq_left (by omega)]
theorem cut_n (t : Str) (j : Nat) (h : j ≤ t.length) : TL.tl (cutS t (some (j : Int)) none) = (TL.tl t).drop j := by
  have : TL.tl (cutS t (some (j : Int)) none) = (t.cps.toList.drop (HT.sIx t.length 0 (some (j : Int)))).take (HT.sIx t.length t.length none - HT.sIx t.length 0 (some (j : Int))) := rfl
  rw [this, HT.sIx_none, HT.sIx_nat, Nat.min_eq_left h]
  have hl : t.length = (TL.tl t).length := TL.len_tl t
  show ((TL.tl t).drop j).take (t.length - j) = _
  exact List.take_of_length_le (by rw [List.length_drop, hl]; exact Nat.le_refl _)
structure Sgn (t : Str) (m : Bool) (B : Str) : Prop where
  e : t = if m = true then "-" ++ B else B
  sw : Txt.startswith t "-" = m
  rp : Txt.removeprefix t "-" = B
  c1 : (cutS t none (some 1) == ("-" : Str)) = m
  c2 : cutS t (some (b2I m)) none = B
  nh : m = false → (TL.tl t).head? ≠ some 45
theorem sgn_of (t : Str) : ∃ m B, Sgn t m B := by
  have hl : t.length = (TL.tl t).length := TL.len_tl t
  have s1 : Txt.startswith t "-" = (decide (1 ≤ t.length) && decide ((TL.tl t).head? = some 45)) := by
    rw [minus_mk]
    show (decide (0 + 1 ≤ t.length) && Builtin.Str.subAt t ⟨#[45]⟩ 0) = _
    have key : (0 + 1 ≤ t.length ∧ Builtin.Str.subAt t ⟨#[45]⟩ 0 = true) ↔ (TL.tl t)[0]? = some 45 := StrLaws.subAt_one t 45 0
    rw [Bool.eq_iff_iff, Bool.and_eq_true, Bool.and_eq_true, decide_eq_true_eq, decide_eq_true_eq]
    constructor
    · intro h
      have := key.mp h
      exact ⟨by omega, by rw [List.head?_eq_getElem?]; exact this⟩
    · rintro ⟨_, h⟩
      exact key.mpr (by rw [← List.head?_eq_getElem?]; exact h)
  have r1 := StrLaws.removeprefix_eq t "-"
  have sb : (decide (0 + Str.length "-" ≤ t.length) && Builtin.Str.subAt t "-" 0) = Txt.startswith t "-" := rfl
  rw [sb] at r1
  cases e : TL.tl t with
  | nil =>
    rw [e] at s1 hl
    have s1 : Txt.startswith t "-" = false := by rw [s1]; simp
    rw [s1] at r1
    refine ⟨false, t, rfl, s1, r1, ?_, TL.ext_tl ?_, fun _ => by rw [e]; simp⟩
    · rw [str_eq, cut_1, e]; decide +kernel
    · show TL.tl (cutS t (some ((0 : Nat) : Int)) none) = _
      rw [cut_n t 0 (Nat.zero_le _), List.drop_zero]
  | cons c r =>
    rw [e] at s1 hl
    rw [List.length_cons] at hl
    rw [decide_eq_true (by omega), Bool.true_and] at s1
    by_cases h : c = 45
    · subst h
      have s1 : Txt.startswith t "-" = true := s1
      rw [s1, if_pos rfl] at r1
      have rr : TL.tl (Txt.removeprefix t "-") = r := by
        rw [r1]
        show (t.cps.toList.drop 1).take (t.length - 1) = r
        have e' : t.cps.toList = 45 :: r := e
        rw [e', List.drop_one, List.tail_cons]
        exact List.take_of_length_le (by omega)
      refine ⟨true, Txt.removeprefix t "-", ?_, s1, rfl, ?_, TL.ext_tl ?_, fun z => by cases z⟩
      · rw [if_pos rfl]
        refine TL.ext_tl ?_
        rw [TL.tl_append, rr, e, minus_mk]; rfl
      · rw [str_eq, cut_1, e, minus_mk]
        exact decide_eq_true rfl
      · show TL.tl (cutS t (some ((1 : Nat) : Int)) none) = _
        rw [cut_n t 1 (by omega), e, rr]; rfl
    · have s1 : Txt.startswith t "-" = false := by
        rw [s1]
        exact decide_eq_false fun z => h (by injection z)
      rw [s1] at r1
      refine ⟨false, t, rfl, s1, r1, ?_, TL.ext_tl ?_, fun _ => by rw [e]; exact fun z => h (by injection z)⟩
      · rw [str_eq, cut_1, e]
        refine decide_eq_false fun z => h ?_
        have z : [c] = TL.tl ("-" : Str) := z
        rw [minus_mk] at z
        injection z
      · show TL.tl (cutS t (some ((0 : Nat) : Int)) none) = _
        rw [cut_n t 0 (Nat.zero_le _), List.drop_zero]
inductive Sla (B : Str) : Prop
  | no (h : 47 ∉ TL.tl B)
  | one (a b : Str) (e : B = a ++ "/" ++ b) (ha : 47 ∉ TL.tl a) (hb : 47 ∉ TL.tl b)
  | more (a b : Str) (parts : List Str) (e : B = a ++ "/" ++ b) (ha : 47 ∉ TL.tl a) (hb : 47 ∈ TL.tl b) (l : 2 < parts.length) (ep : B = Txt.join "/" parts) (hp : ∀ p ∈ parts, 47 ∉ TL.tl p)
theorem slash_at {B : Str} (h : 47 ∈ TL.tl B) : ∃ a b : Str, B = a ++ "/" ++ b ∧ 47 ∉ TL.tl a ∧ (TL.tl b).length < (TL.tl B).length := by
  obtain ⟨x, y, e, hx⟩ := List.eq_append_cons_of_mem h
  refine ⟨⟨x.toArray⟩, ⟨y.toArray⟩, TL.ext_tl ?_, hx, ?_⟩
  · rw [TL.tl_append, TL.tl_append, slash_tl, e]
    show _ = x ++ [47] ++ y
    rw [List.append_assoc]; rfl
  · rw [e]
    show y.length < (x ++ 47 :: y).length
    rw [List.length_append, List.length_cons]; omega
theorem parts_of : ∀ (n : Nat) (b : Str), (TL.tl b).length ≤ n → ∃ parts : List Str, parts ≠ [] ∧ (∀ p ∈ parts, 47 ∉ TL.tl p) ∧ b = Txt.join "/" parts ∧ (47 ∈ TL.tl b → 1 < parts.length)
  | n, b, hn => by
    by_cases h : 47 ∈ TL.tl b
    · obtain ⟨x, y, e, hx, hl⟩ := slash_at h
      obtain ⟨m, rfl⟩ : ∃ m, n = m + 1 := ⟨n - 1, by omega⟩
      obtain ⟨ps, h1, h2, h3, _⟩ := parts_of m y (by omega)
      obtain ⟨z, r, rfl⟩ : ∃ z r, ps = z :: r := by
        cases ps with
        | nil => exact absurd rfl h1
        | cons z r => exact ⟨z, r, rfl⟩
      refine ⟨x :: z :: r, by simp, fun p hp => (List.mem_cons.mp hp).elim (fun q => by rw [q]; exact hx) (h2 p), ?_, fun _ => by rw [List.length_cons, List.length_cons]; omega⟩
      rw [e, h3, TL.join_eq, TL.join_eq]; rfl
    · exact ⟨[b], by simp, fun p hp => by rw [List.mem_singleton.mp hp]; exact h, by rw [TL.join_eq]; rfl, fun z => absurd z h⟩
theorem sla_of (B : Str) : Sla B := by
  by_cases h : 47 ∈ TL.tl B
  · obtain ⟨a, b, e, ha, _⟩ := slash_at h
    by_cases h2 : 47 ∈ TL.tl b
    · obtain ⟨ps, h3, h4, h5, h6⟩ := parts_of _ b (Nat.le_refl _)
      obtain ⟨z, r, rfl⟩ : ∃ z r, ps = z :: r := by
        cases ps with
        | nil => exact absurd rfl h3
        | cons z r => exact ⟨z, r, rfl⟩
      have := h6 h2
      refine .more a b (a :: z :: r) e ha h2 (by rw [List.length_cons]; omega) ?_ fun p hp => (List.mem_cons.mp hp).elim (fun q => by rw [q]; exact ha) (h4 p)
      rw [e, h5, TL.join_eq, TL.join_eq]; rfl
    · exact .one a b e ha h2
  · exact .no h
def sgI (m : Bool) (v : Nat) : Int := if m = true then -(v : Int) else v
def rd1 (m : Bool) (a : Str) : Option Q := if figB a = true ∧ ¬ (m = true ∧ valT a = 0) then some (sgI m (valT a), 1) else none
def rd2 (m : Bool) (a b : Str) : Option Q := if figB a = true ∧ figB b = true ∧ valT b ≠ 0 ∧ valT b ≠ 1 ∧ Nat.gcd (valT a) (valT b) = 1 ∧ ¬ (m = true ∧ valT a = 0) then some (sgI m (valT a), (valT b : Int)) else none
def rdR : Option Q → Out W
  | some q => .ok (.sh (qD q))
  | none => .exc 2
theorem int_s {t : Str} (h : Fig t) : intD (.str t) = okI (valT t : Nat) := by
  have e := PySem.intText_digits (x := t) h.dig h.ne (by have := h.len; omega)
  have e : PySem.intText? t = some ((valT t : Nat) : Int) := e
  show (match PySem.intText? t with | some n => if t.length ≤ 640 then okI n else .stuck | none => .stuck) = _
  rw [e]
  exact if_pos (by have := h.len; omega)
theorem itT_nat (n : Nat) : TL.tl (itT (n : Int)) = TL.numL n := TL.tl_num n
theorem itT_neg {n : Nat} (h : 0 < n) : itT (-(n : Int)) = "-" ++ itT (n : Int) := by
  obtain ⟨m, rfl⟩ : ∃ m, n = m + 1 := ⟨n - 1, by omega⟩
  refine TL.ext_tl ?_
  rw [TL.tl_append, minus_mk]
  show TL.tl (Str.ofString (toString (Int.negSucc m))) = _
  rw [TL.tl_ofString, itT_nat]
  have : toString (Int.negSucc m) = "-" ++ Nat.repr (m + 1) := rfl
  rw [this, String.toList_append, List.map_append, Nat.toList_repr]
  rfl
theorem itT_ns (i : Int) : 47 ∉ TL.tl (itT i) := by
  rcases Int.le_total 0 i with h | h
  · obtain ⟨n, rfl⟩ := Int.eq_ofNat_of_zero_le h
    rw [itT_nat]
    exact TL.numL_free (by omega)
  · obtain ⟨n, hn⟩ := Int.eq_ofNat_of_zero_le (show 0 ≤ -i by omega)
    have e : i = -(n : Int) := by omega
    by_cases z : n = 0
    · subst z
      rw [e]
      have := itT_nat 0
      rw [show (-((0 : Nat) : Int)) = ((0 : Nat) : Int) by rfl, this]
      exact TL.numL_free (by omega)
    · rw [e, itT_neg (by omega), TL.tl_append, minus_mk, itT_nat]
      intro hm
      rcases List.mem_append.mp hm with hm | hm
      · have : (47 : Nat) ∈ [45] := hm
        simp at this
      · exact TL.numL_free (s := 47) (by omega) hm
theorem itT_inj {i j : Int} (hi : 0 ≤ i) (hj : 0 ≤ j) (h : itT i = itT j) : i = j := by
  obtain ⟨n, rfl⟩ := Int.eq_ofNat_of_zero_le hi
  obtain ⟨m, rfl⟩ := Int.eq_ofNat_of_zero_le hj
  have := congrArg TL.tl h
  rw [itT_nat, itT_nat] at this
  rw [TL.numL_inj this]
theorem fig0 {t : Str} (h : Fig t) : valT t = 0 ↔ t = "0" := by
  constructor
  · intro z
    rw [← h.can, z]
    exact TL.ext_tl (by rw [itT_nat]; decide +kernel)
  · rintro rfl; decide +kernel
theorem sgn_itT {m : Bool} {a B : Str} (h : Fig a) (hz : ¬ (m = true ∧ valT a = 0)) : itT (sgI m (valT a)) = if m = true then "-" ++ a else a := by
  unfold sgI
  cases m with
  | true =>
    have : 0 < valT a := by
      rcases Nat.eq_zero_or_pos (valT a) with z | z
      · exact absurd ⟨rfl, z⟩ hz
      · exact z
    rw [if_pos rfl, if_pos rfl, itT_neg this, h.can]
  | false => exact h.can
def sgQ (m : Bool) (x : Q) : Q := if m = true then negQ x else x
theorem sg_frac (m : Bool) (a b : Nat) (hb : 0 < b) : sgQ m (frac a b) = (sgI m (a / Nat.gcd a b), ((b / Nat.gcd a b : Nat) : Int)) := by
  have e : frac (a : Int) (b : Int) = (((a / Nat.gcd a b : Nat) : Int), ((b / Nat.gcd a b : Nat) : Int)) := by
    unfold frac
    rw [if_neg (by omega)]
    have g : ((Int.gcd (a : Int) (b : Int) : Nat) : Int) = ((Nat.gcd a b : Nat) : Int) := rfl
    rw [g, Int.fdiv_eq_ediv_of_nonneg _ (by omega), Int.fdiv_eq_ediv_of_nonneg _ (by omega)]
    rfl
  unfold sgQ sgI
  rw [e]
  cases m <;> rfl
theorem sl_app (x y : Str) (hx : 47 ∉ TL.tl x) : Txt.partition (x ++ "/" ++ y) "/" = (x, ("/" : Str), y) := TL.partition_app (s := 47) (S := []) slash_tl hx
theorem sl_no (x : Str) (hx : 47 ∉ TL.tl x) : Txt.partition x "/" = (x, ("" : Str), ("" : Str)) := TL.partition_none (s := 47) (S := []) slash_tl hx
theorem sl_mem (x y : Str) : 47 ∈ TL.tl (x ++ "/" ++ y) := by
  rw [TL.tl_append, TL.tl_append, slash_tl]; simp
theorem back1 {t a : Str} {m : Bool} (S : Sgn t m a) (h : Fig a) : (numT (sgQ m ((valT a : Int), 1)) == t) = !decide (m = true ∧ valT a = 0) := by
  have e0 : sgQ m ((valT a : Int), 1) = (sgI m (valT a), 1) := by unfold sgQ sgI; cases m <;> rfl
  rw [e0]
  unfold numT
  rw [if_pos rfl]
  by_cases z : m = true ∧ valT a = 0
  · rw [decide_eq_true z]
    obtain ⟨rfl, z⟩ := z
    refine beq_eq_false_iff_ne.mpr fun e => ?_
    have e1 := S.e
    rw [if_pos rfl, (fig0 h).mp z] at e1
    rw [z, e1] at e
    have := congrArg TL.tl e
    revert this
    decide +kernel
  · rw [decide_eq_false z]
    refine beq_iff_eq.mpr ?_
    show itT (sgI m (valT a)) = t
    rw [sgn_itT (B := a) h z, ← S.e]
theorem back2 {t a b B : Str} {m : Bool} (S : Sgn t m B) (eB : B = a ++ "/" ++ b) (h : Fig a) (g : Fig b) : (numT (sgQ m (if valT b = 0 then ((valT a : Int), 1) else frac (valT a : Int) (valT b : Int))) == t) = decide (valT b ≠ 0 ∧ valT b ≠ 1 ∧ Nat.gcd (valT a) (valT b) = 1 ∧ ¬ (m = true ∧ valT a = 0)) ∧ (valT b ≠ 0 → Nat.gcd (valT a) (valT b) = 1 → sgQ m (frac (valT a : Int) (valT b : Int)) = (sgI m (valT a), (valT b : Int))) := by
  have te : t = (if m = true then "-" ++ a else a) ++ "/" ++ b := by
    rw [S.e, eB]
    cases m with
    | true => refine TL.ext_tl ?_; simp only [if_true, TL.tl_append, List.append_assoc]
    | false => rfl
  have ha : 47 ∉ TL.tl (if m = true then "-" ++ a else a) := by
    cases m with
    | true =>
      rw [if_pos rfl, TL.tl_append, minus_mk]
      intro hm
      rcases List.mem_append.mp hm with hm | hm
      · have : (47 : Nat) ∈ [45] := hm
        simp at this
      · exact h.ns hm
    | false => exact h.ns
  have noS : ∀ i : Int, itT i ≠ t := fun i e => by
    have := itT_ns i
    rw [e, te] at this
    exact this (sl_mem _ _)
  by_cases z : valT b = 0
  · refine ⟨?_, fun n => absurd z n⟩
    rw [if_pos z, decide_eq_false (fun c => c.1 z)]
    have e0 : sgQ m ((valT a : Int), 1) = (sgI m (valT a), 1) := by unfold sgQ sgI; cases m <;> rfl
    rw [e0]
    unfold numT
    rw [if_pos rfl]
    exact beq_eq_false_iff_ne.mpr (noS _)
  · have hb : 0 < valT b := by omega
    have g1 : 0 < Nat.gcd (valT a) (valT b) := Nat.gcd_pos_of_pos_right _ hb
    have gd : Nat.gcd (valT a) (valT b) ∣ valT b := Nat.gcd_dvd_right _ _
    refine ⟨?_, fun _ e => by rw [sg_frac m _ _ hb, e, Nat.div_one, Nat.div_one]⟩
    rw [if_neg z, sg_frac m _ _ hb]
    unfold numT
    by_cases one : valT b / Nat.gcd (valT a) (valT b) = 1
    · have eb : valT b = Nat.gcd (valT a) (valT b) := by
        have := Nat.div_mul_cancel gd
        rw [one, Nat.one_mul] at this
        exact this.symm
      have c : ¬ (valT b ≠ 0 ∧ valT b ≠ 1 ∧ Nat.gcd (valT a) (valT b) = 1 ∧ ¬ (m = true ∧ valT a = 0)) := fun c => c.2.1 (by rw [eb]; exact c.2.2.1)
      rw [decide_eq_false c, if_pos (by show ((valT b / Nat.gcd (valT a) (valT b) : Nat) : Int) = 1; rw [one]; rfl)]
      exact beq_eq_false_iff_ne.mpr (noS _)
    · rw [if_neg (by show ¬ ((valT b / Nat.gcd (valT a) (valT b) : Nat) : Int) = 1; omega)]
      by_cases q : Nat.gcd (valT a) (valT b) = 1
      · have nz : ¬ (m = true ∧ valT a = 0) := fun ⟨_, z0⟩ => by
          rw [z0, Nat.gcd_zero_left] at q
          rw [z0, Nat.gcd_zero_left, Nat.div_self hb] at one
          exact one rfl
        have n1 : valT b ≠ 1 := fun e => one (by rw [q, Nat.div_one]; exact e)
        rw [decide_eq_true ⟨z, n1, q, nz⟩, q, Nat.div_one, Nat.div_one]
        refine beq_iff_eq.mpr ?_
        show itT (sgI m (valT a)) ++ "/" ++ itT ((valT b : Nat) : Int) = t
        rw [sgn_itT (B := B) h nz, g.can, te]
      · rw [decide_eq_false (fun c => q c.2.2.1)]
        refine beq_eq_false_iff_ne.mpr fun e => ?_
        have e : itT (sgI m (valT a / Nat.gcd (valT a) (valT b))) ++ "/" ++ itT ((valT b / Nat.gcd (valT a) (valT b) : Nat) : Int) = t := e
        have p1 := sl_app (itT (sgI m (valT a / Nat.gcd (valT a) (valT b)))) (itT ((valT b / Nat.gcd (valT a) (valT b) : Nat) : Int)) (itT_ns _)
        have p2 := sl_app (if m = true then "-" ++ a else a) b ha
        rw [e, te] at p1
        rw [p1] at p2
        have p3 : itT ((valT b / Nat.gcd (valT a) (valT b) : Nat) : Int) = b := congrArg (·.2.2) p2
        have p3 := p3.trans g.can.symm
        have p4 : ((valT b / Nat.gcd (valT a) (valT b) : Nat) : Int) = ((valT b : Nat) : Int) := itT_inj (Int.natCast_nonneg _) (Int.natCast_nonneg _) p3
        have p5 : valT b / Nat.gcd (valT a) (valT b) = valT b := by omega
        have p6 := Nat.div_mul_cancel gd
        rw [p5] at p6
        exact q (Nat.eq_of_mul_eq_mul_left hb (by rw [p6, Nat.mul_one]))
section
variable {k : Nat}
theorem sgn_tx {t B : Str} {m : Bool} {N : Nat} (S : Sgn t m B) (h : Tx N t) : Tx N B := by
  have e := S.e
  cases m with
  | false => rw [if_neg (by decide)] at e; rw [← e]; exact h
  | true =>
    rw [if_pos rfl] at e
    have l := congrArg Str.length e
    rw [Str.length_append] at l
    refine ⟨by have := h.l; omega, fun x hx => h.c x ?_⟩
    rw [e, TL.tl_append]
    exact List.mem_append_right _ hx
theorem app_tx {a b : Str} {N : Nat} (h : Tx N (a ++ "/" ++ b)) : Tx N a ∧ Tx N b := by
  have l := h.l
  rw [Str.length_append, Str.length_append] at l
  refine ⟨⟨by omega, fun x hx => h.c x ?_⟩, ⟨by omega, fun x hx => h.c x ?_⟩⟩
  · rw [TL.tl_append, TL.tl_append]; exact List.mem_append_left _ (List.mem_append_left _ hx)
  · rw [TL.tl_append]; exact List.mem_append_right _ hx
theorem mth_facts {t B : Str} {m : Bool} {N : Nat} (S : Sgn t m B) (h : Tx N t) (hN : N ≤ 10000) : mthD .removeprefix (.str t) (.str "-") = .ok (.sh (.str B)) ∧ mthD .startswith (.str t) (.str "-") = okB m ∧ mthD .partition (.str B) (.str "/") = .ok (.sh (.tuple [.str (Txt.partition B "/").1, .str (Txt.partition B "/").2.1, .str (Txt.partition B "/").2.2])) ∧ mthD .split (.str B) (.str "/") = .ok (.nl ((Txt.split B "/").map .str)) := by
  have hB := (sgn_tx S h).l
  have ht := h.l
  refine ⟨?_, ?_, ?_, ?_⟩
  · show (if lenOk t.length then Out.ok (W.sh (.str (Txt.removeprefix t "-"))) else .stuck) = _
    rw [S.rp]
    exact if_pos (lenOk_of (by omega))
  · show okB (Txt.startswith t "-") = _
    rw [S.sw]
  · exact if_pos (Bool.and_eq_true_iff.mpr ⟨lenOk_of (by omega), by decide +kernel⟩)
  · exact if_pos (Bool.and_eq_true_iff.mpr ⟨lenOk_of (by omega), by decide +kernel⟩)
theorem sgQ_call (m : Bool) (q : Q) : sgQ m q = if m = true then negQ q else q := rfl
theorem numT_neg {q : Q} {j : Nat} (hj : 0 < j) (h1 : q.1.natAbs < 10 ^ j) (h2 : q.2.natAbs < 10 ^ j) (m : Bool) : (sgQ m q).1.natAbs < 10 ^ j ∧ (sgQ m q).2.natAbs < 10 ^ j := by
  unfold sgQ
  cases m with
  | true => exact ⟨by show (-q.1).natAbs < _; rw [Int.natAbs_neg]; exact h1, h2⟩
  | false => exact ⟨h1, h2⟩
theorem call_read1 {t a : Str} {m : Bool} (S : Sgn t m a) (ht : Tx 1000 t) (hs : 47 ∉ TL.tl a) : callF thePrg fu (k + 2) i_read_number [.str t] = rdR (rd1 m a) := by
  rw [run_read_number]
  obtain ⟨f1, f2, f3, _⟩ := mth_facts S ht (by decide)
  rw [sl_no a hs] at f3
  have hfig := call_is_figures (fu := fu) (k := k) ((sgn_tx S ht).mono (show 1000 ≤ 10000 by decide))
  have e1 : cmpD .eq (.str "") (.str "/") = okB false := isB_eq (by decide +kernel)
  unfold rd1
  cases q : figB a with
  | false =>
    rw [q] at hfig
    rw [if_neg (by rintro ⟨z, _⟩; cases z)]
    generalize callF thePrg fu (k + 1) = cl at *
    generalize thePrg = P at *
    simp! only [bd_read_number, f1, f3, hfig]
    rfl
  | true =>
    rw [q] at hfig
    have F := fig_ok q
    have hi := int_s F
    have hn := call_number (fu := fu) (k := k) (a := ((valT a : Nat) : Int)) (b := 1) (by decide) (by decide +kernel)
    rw [frac_one] at hn
    have hng : callF thePrg fu (k + 1) i_negative [qD (((valT a : Nat) : Int), 1)] = _ := call_negative (k := k)
    have b1 : (((valT a : Nat) : Int), (1 : Int)).1.natAbs < 10 ^ 61 := Nat.lt_trans F.lt (by decide +kernel)
    have hsz := numT_neg (q := (((valT a : Nat) : Int), 1)) (j := 61) (by decide) b1 (show (1 : Int).natAbs < 10 ^ 61 by decide +kernel) m
    have hw := call_write_number (fu := fu) (j := k) (x := sgQ m (((valT a : Nat) : Int), 1)) (k := 61) (by decide) (by decide) hsz.1 hsz.2
    have tx := numT_tx (k := 61) (by decide) hsz.1 hsz.2
    have cn := (cmp_s tx ht).2
    rw [back1 S F] at cn
    have e0 : sgQ m (((valT a : Nat) : Int), 1) = (sgI m (valT a), 1) := by unfold sgQ sgI; cases m <;> rfl
    have nz : ((valT a : Nat) : Int) = 0 ↔ valT a = 0 := by omega
    generalize callF thePrg fu (k + 1) = cl at *
    generalize thePrg = P at *
    by_cases z : m = true ∧ valT a = 0
    · rw [if_neg (fun c => c.2 z)]
      rw [decide_eq_true z] at cn
      obtain ⟨rfl, z0⟩ := z
      have hw : cl i_write_number [qD (negQ (((valT a : Nat) : Int), 1))] = _ := hw
      simp! only [bd_read_number, f1, f2, f3, hfig, e1, hi, hn, hng, hw, cn]
      rfl
    · rw [if_pos ⟨rfl, z⟩]
      rw [decide_eq_false z] at cn
      rw [← e0]
      cases m with
      | true =>
        have hw : cl i_write_number [qD (negQ (((valT a : Nat) : Int), 1))] = _ := hw
        simp! only [bd_read_number, f1, f2, f3, hfig, e1, hi, hn, hng, hw, cn]
        rfl
      | false =>
        have hw : cl i_write_number [qD (((valT a : Nat) : Int), 1)] = _ := hw
        simp! only [bd_read_number, f1, f2, f3, hfig, e1, hi, hn, hw, cn]
        rfl
theorem call_read2 {t a b B : Str} {m : Bool} (S : Sgn t m B) (ht : Tx 1000 t) (eB : B = a ++ "/" ++ b) (ha : 47 ∉ TL.tl a) : callF thePrg fu (k + 2) i_read_number [.str t] = rdR (rd2 m a b) := by
  rw [run_read_number]
  obtain ⟨f1, f2, f3, _⟩ := mth_facts S ht (by decide)
  have tB := sgn_tx S ht
  rw [eB, sl_app a b ha] at f3
  rw [eB] at tB f1
  obtain ⟨ta, tb⟩ := app_tx tB
  have hfa := call_is_figures (fu := fu) (k := k) (ta.mono (show 1000 ≤ 10000 by decide))
  have hfb := call_is_figures (fu := fu) (k := k) (tb.mono (show 1000 ≤ 10000 by decide))
  have e1 : cmpD .eq (.str "/") (.str "/") = okB true := isB_eq (by decide +kernel)
  unfold rd2
  cases q : figB a with
  | false =>
    rw [q] at hfa
    rw [if_neg (by rintro ⟨z, _⟩; cases z)]
    generalize callF thePrg fu (k + 1) = cl at *
    generalize thePrg = P at *
    simp! only [bd_read_number, f1, f3, hfa]
    rfl
  | true =>
  rw [q] at hfa
  cases p : figB b with
  | false =>
    rw [p] at hfb
    rw [if_neg (by rintro ⟨_, z, _⟩; cases z)]
    generalize callF thePrg fu (k + 1) = cl at *
    generalize thePrg = P at *
    simp! only [bd_read_number, f1, f3, hfa, e1, hfb]
    rfl
  | true =>
    rw [p] at hfb
    have F := fig_ok q
    have G := fig_ok p
    have hi := int_s F
    have hj := int_s G
    have hz := (cmp_s tb (txB_ok (N := 1) (s := "0") (by decide +kernel))).2
    have hz : cmpD .ne (.str b) (.str "0") = okB (!decide (valT b = 0)) := by
      rw [hz]
      by_cases z : valT b = 0
      · rw [decide_eq_true z, (fig0 G).mp z, beq_self_eq_true]
      · rw [decide_eq_false z, beq_eq_false_iff_ne.mpr fun e => z ((fig0 G).mpr e)]
    obtain ⟨bk1, bk2⟩ := back2 S eB F G
    have nd : ∀ d : Int, d ≠ 0 → d.natAbs < 10 ^ 60 → callF thePrg fu (k + 1) i_number [.int ((valT a : Nat) : Int), .int d] = .ok (.sh (qD (frac (valT a : Nat) d))) := fun d d1 d2 => call_number (fu := fu) (k := k) d1 (Nat.lt_trans d2 (by decide +kernel))
    -- the number that is found
    obtain ⟨x, hx⟩ : ∃ x : Q, x = (if valT b = 0 then (((valT a : Nat) : Int), 1) else frac (valT a : Nat) (valT b : Nat)) := ⟨_, rfl⟩
    have xs : x.1.natAbs < 10 ^ 61 ∧ x.2.natAbs < 10 ^ 61 := by
      rw [hx]
      by_cases z : valT b = 0
      · rw [if_pos z]
        exact ⟨Nat.lt_trans F.lt (by decide +kernel), show (1 : Int).natAbs < 10 ^ 61 by decide +kernel⟩
      · rw [if_neg z]
        have e := sg_frac false (valT a) (valT b) (by omega)
        have e : frac (valT a : Nat) (valT b : Nat) = (((valT a / Nat.gcd (valT a) (valT b) : Nat) : Int), ((valT b / Nat.gcd (valT a) (valT b) : Nat) : Int)) := e
        rw [e]
        exact ⟨Nat.lt_of_le_of_lt (Nat.div_le_self _ _) (Nat.lt_trans F.lt (by decide +kernel)), Nat.lt_of_le_of_lt (Nat.div_le_self _ _) (Nat.lt_trans G.lt (by decide +kernel))⟩
    rw [← hx] at bk1
    have hsz := numT_neg (q := x) (j := 61) (by decide) xs.1 xs.2 m
    have hw := call_write_number (fu := fu) (j := k) (x := sgQ m x) (k := 61) (by decide) (by decide) hsz.1 hsz.2
    have tx := numT_tx (k := 61) (by decide) hsz.1 hsz.2
    have cn := (cmp_s tx ht).2
    rw [bk1] at cn
    have hng : callF thePrg fu (k + 1) i_negative [qD x] = _ := call_negative (k := k)
    have goalE : rdR (if true = true ∧ true = true ∧ valT b ≠ 0 ∧ valT b ≠ 1 ∧ Nat.gcd (valT a) (valT b) = 1 ∧ ¬ (m = true ∧ valT a = 0) then some (sgI m (valT a), (valT b : Int)) else none) = (if (valT b ≠ 0 ∧ valT b ≠ 1 ∧ Nat.gcd (valT a) (valT b) = 1 ∧ ¬ (m = true ∧ valT a = 0)) then .ok (.sh (qD (sgQ m x))) else .exc 2) := by
      by_cases c : valT b ≠ 0 ∧ valT b ≠ 1 ∧ Nat.gcd (valT a) (valT b) = 1 ∧ ¬ (m = true ∧ valT a = 0)
      · rw [if_pos ⟨rfl, rfl, c⟩, if_pos c, hx, if_neg c.1, bk2 c.1 c.2.2.1]; rfl
      · rw [if_neg fun d => c d.2.2, if_neg c]; rfl
    rw [goalE]
    have n1 := nd 1 (by decide) (by decide +kernel)
    rw [frac_one] at n1
    have nb : valT b ≠ 0 → callF thePrg fu (k + 1) i_number [.int ((valT a : Nat) : Int), .int ((valT b : Nat) : Int)] = .ok (.sh (qD (frac (valT a : Nat) (valT b : Nat)))) := fun z => nd _ (by omega) G.lt
    generalize callF thePrg fu (k + 1) = cl at *
    generalize thePrg = P at *
    by_cases z : valT b = 0
    · rw [if_pos z] at hx
      rw [decide_eq_true z] at hz
      rw [if_neg (fun c => c.1 z)]
      rw [decide_eq_false (fun c => c.1 z)] at cn
      rw [hx] at hng hw cn
      cases m with
      | true =>
        have hw : cl i_write_number [qD (negQ (((valT a : Nat) : Int), 1))] = _ := hw
        simp! only [bd_read_number, f1, f2, f3, hfa, hfb, e1, hi, hj, hz, n1, hng, hw, cn]
      | false =>
        have hw : cl i_write_number [qD (((valT a : Nat) : Int), 1)] = _ := hw
        simp! only [bd_read_number, f1, f2, f3, hfa, hfb, e1, hi, hj, hz, n1, hw, cn]
    · rw [if_neg z] at hx
      rw [decide_eq_false z] at hz
      have nb := nb z
      rw [← hx] at nb
      by_cases c : valT b ≠ 0 ∧ valT b ≠ 1 ∧ Nat.gcd (valT a) (valT b) = 1 ∧ ¬ (m = true ∧ valT a = 0)
      · rw [if_pos c]
        rw [decide_eq_true c] at cn
        cases m with
        | true =>
          have hw : cl i_write_number [qD (negQ x)] = _ := hw
          simp! only [bd_read_number, f1, f2, f3, hfa, hfb, e1, hi, hj, hz, nb, hng, hw, cn]
          rfl
        | false =>
          have hw : cl i_write_number [qD x] = _ := hw
          simp! only [bd_read_number, f1, f2, f3, hfa, hfb, e1, hi, hj, hz, nb, hw, cn]
          rfl
      · rw [if_neg c]
        rw [decide_eq_false c] at cn
        cases m with
        | true =>
          have hw : cl i_write_number [qD (negQ x)] = _ := hw
          simp! only [bd_read_number, f1, f2, f3, hfa, hfb, e1, hi, hj, hz, nb, hng, hw, cn]
        | false =>
          have hw : cl i_write_number [qD x] = _ := hw
          simp! only [bd_read_number, f1, f2, f3, hfa, hfb, e1, hi, hj, hz, nb, hw, cn]
theorem fig_slash {b : Str} (h : 47 ∈ TL.tl b) : figB b = false := by
  cases q : figB b with
  | false => rfl
  | true => exact absurd h (fig_ok q).ns
end
def optD : Option Q → PyData
  | some q => qD q
  | none => .none
section
variable {k : Nat}
theorem call__law_read {t : Str} {o : Option Q} (h : callF thePrg fu (k + 2) i_read_number [.str t] = rdR o) : callF thePrg fu (k + 3) i__law_read [.str t] = .ok (.sh (optD o)) := by
  rw [run__law_read]
  cases o with
  | some q =>
    have h : callF thePrg fu (k + 2) i_read_number [.str t] = .ok (.sh (qD q)) := h
    simp! only [bd__law_read, h]
    rfl
  | none =>
    have h : callF thePrg fu (k + 2) i_read_number [.str t] = .exc 2 := h
    simp! only [bd__law_read, h]
    rfl
theorem any_not (l : List Nat) : (l.filterMap fun c => if isDg c = true then none else some (PyData.str (chS c))).length = 0 ↔ (l.all fun c => decide (48 ≤ c) && decide (c ≤ 57)) = true := by
  rw [List.length_eq_zero_iff, List.filterMap_eq_nil_iff, List.all_eq_true]
  constructor
  · intro h c hc
    have := h c hc
    by_cases d : isDg c = true
    · exact d
    · rw [if_neg d] at this; cases this
  · intro h c hc
    rw [if_pos (show isDg c = true from h c hc)]
theorem meant_turn {P : Prg} {cl : Nat → List PyData → Out W} {p : Str} (h : Tx 1000 p) (x0 x1 x2 v x4 x5 x6 : Option W) : (figB p = true → fBody P cl fu (.nm 3) b1__law_meant (.str p) [x0, x1, x2, v, x4, x5, x6] = .nx [x0, x1, x2, some (.sh (.str p)), x4, x5, x6]) ∧ (figB p = false → fBody P cl fu (.nm 3) b1__law_meant (.str p) [x0, x1, x2, v, x4, x5, x6] = .ret (.sh .none)) := by
  rw [fb_nm _ _ _ _ _ _ _ (by simp)]
  have ce := (cmp_s h e_tx).1
  rw [str_eq] at ce
  have ce : cmpD .eq (.str p) (.str "") = okB (decide (TL.tl p = [])) := ce
  have ll := len_s h (by decide)
  have lt : (TL.tl p).length = p.length := (TL.len_tl p).symm
  have hl := h.l
  unfold figB figL
  cases e : TL.tl p with
  | nil =>
    rw [e] at ce
    have ce : cmpD .eq (.str p) (.str "") = okB true := ce
    refine ⟨fun z => (by cases z), fun _ => ?_⟩
    simp! only [b1__law_meant, ce]
  | cons c r =>
    rw [e] at ce
    have ce : cmpD .eq (.str p) (.str "") = okB false := ce
    have l2 : (c :: r).length = p.length := by rw [← e]; exact lt
    rw [l2]
    by_cases z : p.length ≤ 60
    · have z' : ¬ (60 : Int) < (p.length : Nat) := by omega
      rw [decide_eq_true z]
      have lc := lc_of (f := lcT P cl [x0, x1, x2, some (.sh (.str p)), x4, x5, x6] (.nm 6) [("sign", 6)] (.val (.cmp .notin (.var 6) (.cst (.str "0123456789")))) (.var 6)) (e := fun c => .str (chS c)) (g := fun c => if isDg c = true then none else some (PyData.str (chS c))) (TL.tl p) (fun x hx => by
        have := notin_dig x
        cases q : isDg x with
        | true => rw [q] at this; simp! only [this]
        | false => rw [q] at this; simp! only [this])
      have lc : lcLoop (lcT P cl [x0, x1, x2, some (.sh (.str p)), x4, x5, x6] (.nm 6) [("sign", 6)] (.val (.cmp .notin (.var 6) (.cst (.str "0123456789")))) (.var 6)) (chars p) = _ := lc
      have le : lcEnd ((TL.tl p).filterMap fun c => if isDg c = true then none else some (PyData.str (chS c))) = _ := lce (Nat.le_trans (List.length_filterMap_le _ _) (show (TL.tl p).length ≤ 16000000 by omega))
      have an := any_not (TL.tl p)
      rw [e] at an
      have c0 : decide (c :: r = [48]) = (decide (p.length = 1) && decide (c = 48)) := by
        rw [← l2, List.length_cons]
        cases r with
        | nil =>
          by_cases d : c = 48
          · subst d; rfl
          · rw [decide_eq_false d, decide_eq_false fun z => d (by injection z)]; rfl
        | cons a b => rw [decide_eq_false (by simp), decide_eq_false (by rw [List.length_cons]; omega)]; rfl
      have x0' := at0_s h (by decide) e
      have cc := h.c c (by rw [e]; exact List.mem_cons_self)
      have c1 := (cmp_s (chS_tx cc) (chS_tx (c := 48) (by decide))).1
      rw [ch_eq] at c1
      have c1 : cmpD .eq (.str (chS c)) (.str "0") = okB (decide (c = 48)) := c1
      have hd : decide ((c :: r).head? = some 48) = decide (c = 48) := by
        show decide (some c = some 48) = _
        exact decide_eq_decide.mpr ⟨fun h => by injection h, fun h => by rw [h]⟩
      rw [hd, c0]
      rw [← e] at an
      generalize ((TL.tl p).filterMap fun c => if isDg c = true then none else some (PyData.str (chS c))) = FL at *
      have lnl : lenD (.list FL) = okI (FL.length : Nat) := rfl
      have ne : (c :: r).isEmpty = false := rfl
      rw [ne, ← e]
      generalize ((TL.tl p).all fun c => decide (48 ≤ c) && decide (c ≤ 57)) = b1 at *
      have hp : 0 < p.length := by rw [← l2, List.length_cons]; omega
      cases b1 with
      | false =>
        have an : (0 : Int) < (FL.length : Nat) := by
          have : ¬ FL.length = 0 := fun z => by cases an.mp z
          omega
        refine ⟨fun z => by simp at z, fun _ => ?_⟩
        simp! only [b1__law_meant, ce, ll, z', seq_s, lc, le, lnl, an]
      | true =>
        have an : ¬ (0 : Int) < (FL.length : Nat) := by
          have := an.mpr rfl
          omega
        by_cases one : p.length = 1
        · have one' : ¬ (1 : Int) < (p.length : Nat) := by omega
          rw [decide_eq_true one]
          refine ⟨fun _ => ?_, fun z => by cases decide (c = 48) <;> simp at z⟩
          simp! only [b1__law_meant, ce, ll, z', seq_s, lc, le, lnl, an, one']
        · have one' : (1 : Int) < (p.length : Nat) := by omega
          rw [decide_eq_false one]
          generalize decide (c = 48) = b3 at *
          cases b3 with
          | true =>
            refine ⟨fun z => by simp at z, fun _ => ?_⟩
            simp! only [b1__law_meant, ce, ll, z', seq_s, lc, le, lnl, an, one', x0', c1]
          | false =>
            refine ⟨fun _ => ?_, fun z => by simp at z⟩
            simp! only [b1__law_meant, ce, ll, z', seq_s, lc, le, lnl, an, one', x0', c1]
    · have z' : (60 : Int) < (p.length : Nat) := by omega
      rw [decide_eq_false z]
      refine ⟨fun z => by simp at z, fun _ => ?_⟩
      simp! only [b1__law_meant, ce, ll, z']
end
theorem join_mem {y : Str} {p : Str} : ∀ (parts : List Str), p ∈ parts → ∀ x ∈ TL.tl p, x ∈ TL.tl (Txt.join y parts)
  | [], h, _, _ => by cases h
  | [q], h, x, hx => by
    rw [List.mem_singleton.mp h] at hx
    rw [TL.join_eq]; exact hx
  | q :: r :: s, h, x, hx => by
    have e : TL.tl (Txt.join y (q :: r :: s)) = TL.tl q ++ (TL.tl y ++ TL.tl (Txt.join y (r :: s))) := by
      rw [TL.join_eq, TL.join_eq, TL.tl_join, TL.tl_join]; rfl
    rw [e]
    rcases List.mem_cons.mp h with h | h
    · subst h; exact List.mem_append_left _ hx
    · exact List.mem_append_right _ (List.mem_append_right _ (join_mem _ h x hx))
theorem join_len {y : Str} {p : Str} : ∀ (parts : List Str), p ∈ parts → p.length ≤ (Txt.join y parts).length
  | [], h => by cases h
  | [q], h => by
    rw [List.mem_singleton.mp h, TL.join_eq]; exact Nat.le_refl _
  | q :: r :: s, h => by
    have e : TL.tl (Txt.join y (q :: r :: s)) = TL.tl q ++ (TL.tl y ++ TL.tl (Txt.join y (r :: s))) := by
      rw [TL.join_eq, TL.join_eq, TL.tl_join, TL.tl_join]; rfl
    have e := congrArg List.length e
    rw [List.length_append, List.length_append, ← TL.len_tl, ← TL.len_tl, ← TL.len_tl, ← TL.len_tl] at e
    rcases List.mem_cons.mp h with h | h
    · subst h; omega
    · have := join_len (r :: s) (y := y) h
      omega
theorem cut_tx {N : Nat} {t : Str} (h : Tx N t) (lo hi : Option Int) : Tx N (cutS t lo hi) := by
  have e : TL.tl (cutS t lo hi) = ((TL.tl t).drop (HT.sIx t.length 0 lo)).take (HT.sIx t.length t.length hi - HT.sIx t.length 0 lo) := rfl
  refine ⟨?_, fun x hx => h.c x ?_⟩
  · rw [TL.len_tl, e, List.length_take, List.length_drop, ← TL.len_tl]
    have := h.l; omega
  · rw [e] at hx
    exact List.mem_of_mem_drop (List.mem_of_mem_take hx)
theorem sl_d {t : Str} {N : Nat} (h : Tx N t) (hN : N ≤ 10000) (lo hi : Option Int) : slD (.str t) lo hi = .ok (.sh (.str (cutS t lo hi))) := if_pos (lenOk_of (by have := h.l; omega))
section
variable {k : Nat}
theorem meant_loop {P : Prg} {cl : Nat → List PyData → Out W} (parts : List Str) (h : ∀ p ∈ parts, Tx 1000 p) (x0 x1 x2 : Option W) : (parts.any (fun p => !figB p) = false ∧ ∃ v, forLoop (fBody P cl fu (.nm 3) b1__law_meant) (parts.map .str) [x0, x1, x2, none, none, none, none] = .nx [x0, x1, x2, v, none, none, none]) ∨ (parts.any (fun p => !figB p) = true ∧ forLoop (fBody P cl fu (.nm 3) b1__law_meant) (parts.map .str) [x0, x1, x2, none, none, none, none] = .ret (.sh .none)) := by
  rcases for_ret (f := fBody P cl fu (.nm 3) b1__law_meant) (e := fun p : Str => .str p) (w := .sh .none) (bad := fun p => !figB p) (I := fun ρ => ∃ v, ρ = [x0, x1, x2, v, none, none, none]) parts [x0, x1, x2, none, none, none, none] ⟨_, rfl⟩ (fun p hp ρ ⟨v, e⟩ => by
    subst e
    obtain ⟨a, b⟩ := meant_turn (fu := fu) (P := P) (cl := cl) (h p hp) x0 x1 x2 v none none none
    exact ⟨fun z => ⟨_, a (by simpa using z), _, rfl⟩, fun z => b (by simpa using z)⟩) with ⟨a, ρ, b, v, rfl⟩ | ⟨a, b⟩
  · exact .inl ⟨a, v, b⟩
  · exact .inr ⟨a, b⟩
theorem meant_tail {P : Prg} {cl : Nat → List PyData → Out W} {t B : Str} {m : Bool} {PS QS : List PyData} {x y : PyData} {n a b g : Int} {v : Option W}
    (c1 : slD (.str t) none (some 1) = .ok (.sh (.str (cutS t none (some 1))))) (c2 : slD (.str t) (some (b2I m)) none = .ok (.sh (.str B)))
    (d1 : cmpD .eq (.str (cutS t none (some 1))) (.str "-") = okB m) (f4 : mthD .split (.str B) (.str "/") = .ok (.nl PS)) (lnl : lenD (.list PS) = okI n) (hn : ¬ 2 < n)
    (lp : forLoop (fBody P cl fu (.nm 3) b1__law_meant) PS [some (.sh (.str t)), some (.sh (.bool m)), some (.sh (.list PS)), none, none, none, none] = .nx [some (.sh (.str t)), some (.sh (.bool m)), some (.sh (.list PS)), v, none, none, none])
    (x0 : ixD (.list PS) (.int 0) = .ok (.sh x)) (hi : intD x = okI a) (ct : catD PS [.str "1"] = .ok (.nl QS)) (x1 : ixD (.list QS) (.int 1) = .ok (.sh y)) (hj : intD y = okI b) (gc : cl i__law_gcd [.int a, .int b] = .ok (.sh (.int g))) :
    outR (evBk P cl fu bd__law_meant [some (.sh (.str t)), none, none, none, none, none, none]) = .ok (.sh (if b < 1 ∨ (n = 2 ∧ b = 1) ∨ g ≠ 1 ∨ (m = true ∧ a = 0) then .none else .tuple [.int (if m = true then -a else a), .int b])) := by
  have iB : intD (.bool m) = okI (b2I m) := rfl
  have im : ixD (.list [.int a, .int (-a)]) (.int (b2I m)) = .ok (.sh (.int (if m = true then -a else a))) := by
    cases m
    · exact at_nat (j := 0) rfl
    · exact at_nat (j := 1) rfl
  simp! only [bd__law_meant, c1, c2, d1, iB, f4, lnl, lp, ct, x0, x1, hi, hj, gc, hn, im]
  by_cases h1 : b < 1
  · simp! only [h1, true_or, if_true]
  by_cases hg : g = 1 <;> by_cases ha : a = 0 <;> cases m <;> by_cases h2 : n = 2 <;> by_cases h3 : b = 1 <;> simp! only [h1, hg, ha, h2, h3] <;> simp
theorem meant_none {P : Prg} {cl : Nat → List PyData → Out W} {t B : Str} {m : Bool} {PS : List PyData} {n : Int}
    (c1 : slD (.str t) none (some 1) = .ok (.sh (.str (cutS t none (some 1))))) (c2 : slD (.str t) (some (b2I m)) none = .ok (.sh (.str B)))
    (d1 : cmpD .eq (.str (cutS t none (some 1))) (.str "-") = okB m) (f4 : mthD .split (.str B) (.str "/") = .ok (.nl PS)) (lnl : lenD (.list PS) = okI n)
    (lp : 2 < n ∨ (¬ 2 < n ∧ forLoop (fBody P cl fu (.nm 3) b1__law_meant) PS [some (.sh (.str t)), some (.sh (.bool m)), some (.sh (.list PS)), none, none, none, none] = .ret (.sh .none))) :
    outR (evBk P cl fu bd__law_meant [some (.sh (.str t)), none, none, none, none, none, none]) = .ok (.sh .none) := by
  have iB : intD (.bool m) = okI (b2I m) := rfl
  rcases lp with hn | ⟨hn, lp⟩
  · simp! only [bd__law_meant, c1, c2, d1, iB, f4, lnl, hn]
  · simp! only [bd__law_meant, c1, c2, d1, iB, f4, lnl, hn, lp]
theorem opt_if {C1 C2 : Prop} [Decidable C1] [Decidable C2] {q : Q} {a b : Int} (e : q = (a, b)) (h : C2 ↔ ¬ C1) : Out.ok (W.sh (if C1 then PyData.none else .tuple [.int a, .int b])) = .ok (.sh (optD (if C2 then some q else none))) := by
  by_cases c : C1
  · rw [if_pos c, if_neg (fun d => h.mp d c)]; rfl
  · rw [if_neg c, if_pos (h.mpr c), e]; rfl
theorem len_pd (l : List PyData) : lenD (.list l) = okI (l.length : Nat) := rfl
theorem call__law_meant {t : Str} (h : Tx 1000 t) (hf : FuOk fu) : ∃ o : Option Q, ∀ k, callF thePrg fu (k + 2) i_read_number [.str t] = rdR o ∧ callF thePrg fu (k + 2) i__law_meant [.str t] = .ok (.sh (optD o)) := by
  obtain ⟨m, B, S⟩ := sgn_of t
  have tB := sgn_tx S h
  obtain ⟨_, _, _, f4⟩ := mth_facts S h (by decide)
  have c1 := sl_d h (by decide) none (some 1)
  have c2 := sl_d h (by decide) (some (b2I m)) none
  rw [S.c2] at c2
  have d1 := (cmp_s (cut_tx h none (some 1)) (txB_ok (N := 1) (s := "-") (by decide +kernel))).1
  rw [S.c1] at d1
  have key : ∀ parts : List Str, parts ≠ [] → (∀ p ∈ parts, 47 ∉ TL.tl p) → B = Txt.join "/" parts → mthD .split (.str B) (.str "/") = .ok (.nl (parts.map .str)) ∧ ∀ p ∈ parts, Tx 1000 p := fun parts h1 h2 e => by
    refine ⟨?_, fun p hp => ⟨?_, fun x hx => tB.c x ?_⟩⟩
    · rw [f4]
      have e2 : Txt.split B "/" = parts := by
        rw [e]
        exact TL.split_join (s := 47) (S := []) slash_tl (by decide +kernel) h1 h2
      rw [e2]
    · have := join_len (y := "/") parts hp
      rw [← e] at this
      have := tB.l; omega
    · rw [e]; exact join_mem parts hp x hx
  have i1 : intD (.str "1") = okI 1 := by
    have e : PySem.intText? "1" = some 1 := by decide +kernel
    show (match PySem.intText? "1" with | some n => if ("1" : Str).length ≤ 640 then okI n else .stuck | none => .stuck) = _
    rw [e]
    exact if_pos (by decide +kernel)
  have fl : ∀ n : Nat, n < 10 ^ 60 → ((n : Int)).natAbs < fu := fun n hn => by
    have := hf 200 (by decide)
    have : (10 : Nat) ^ 60 < 2 ^ 200 := by decide +kernel
    show n < fu
    omega
  cases sla_of B with
  | no hs =>
    refine ⟨rd1 m B, fun k => ⟨call_read1 S h hs, ?_⟩⟩
    rw [run__law_meant]
    obtain ⟨k1, k2⟩ := key [B] (by simp) (fun p hp => by rw [List.mem_singleton.mp hp]; exact hs) (by rw [TL.join_eq]; rfl)
    have lp := meant_loop (fu := fu) (P := thePrg) (cl := callF thePrg fu (k + 1)) [B] k2 (some (.sh (.str t))) (some (.sh (.bool m))) (some (.sh (.list ([B].map .str))))
    unfold rd1
    rcases lp with ⟨a, v, b⟩ | ⟨a, b⟩
    · have fg : figB B = true := by simpa using a
      have gc := call__law_gcd (fu := fu) (k := k) ((valT B : Nat) : Int) 1 (fl 1 (by decide +kernel))
      rw [Int.gcd_one] at gc
      rw [meant_tail (QS := [.str B, .str "1"]) (n := 1) (b := 1) (g := 1) c1 c2 d1 k1 rfl (by decide) b (at_nat (j := 0) rfl) (int_s (fig_ok fg)) rfl (at_nat (j := 1) rfl) i1 gc]
      have nz : ((valT B : Nat) : Int) = 0 ↔ valT B = 0 := by omega
      refine opt_if rfl ⟨fun c d => ?_, fun c => ⟨fg, fun z => c (.inr (.inr (.inr ⟨z.1, nz.mpr z.2⟩)))⟩⟩
      rcases d with d | ⟨d, _⟩ | d | ⟨d, f⟩
      · omega
      · omega
      · exact d rfl
      · exact c.2 ⟨d, nz.mp f⟩
    · have fg : figB B = false := by simpa using a
      rw [if_neg (by rintro ⟨z, _⟩; rw [fg] at z; cases z)]
      exact meant_none (n := 1) c1 c2 d1 k1 rfl (.inr ⟨by decide, b⟩)
  | one a b e ha hb =>
    refine ⟨rd2 m a b, fun k => ⟨call_read2 S h e ha, ?_⟩⟩
    rw [run__law_meant]
    obtain ⟨k1, k2⟩ := key [a, b] (by simp) (fun p hp => by
      rcases List.mem_cons.mp hp with q | q
      · rw [q]; exact ha
      · rw [List.mem_singleton.mp q]; exact hb) (by rw [TL.join_eq, e]; exact TL.ext_tl (by rw [TL.tl_append, TL.tl_append, TL.tl_join, List.append_assoc]; rfl))
    have lp := meant_loop (fu := fu) (P := thePrg) (cl := callF thePrg fu (k + 1)) [a, b] k2 (some (.sh (.str t))) (some (.sh (.bool m))) (some (.sh (.list ([a, b].map .str))))
    unfold rd2
    rcases lp with ⟨q, v, r⟩ | ⟨q, r⟩
    · have fg : figB a = true ∧ figB b = true := by simpa using q
      have gc := call__law_gcd (fu := fu) (k := k) ((valT a : Nat) : Int) ((valT b : Nat) : Int) (fl _ (fig_ok fg.2).lt)
      have gg : ((Int.gcd ((valT a : Nat) : Int) ((valT b : Nat) : Int) : Nat) : Int) = ((Nat.gcd (valT a) (valT b) : Nat) : Int) := rfl
      rw [gg] at gc
      rw [meant_tail (QS := [.str a, .str b, .str "1"]) (n := 2) (b := (valT b : Nat)) (g := ((Nat.gcd (valT a) (valT b) : Nat) : Int)) c1 c2 d1 k1 rfl (by decide) r (at_nat (j := 0) rfl) (int_s (fig_ok fg.1)) rfl (at_nat (j := 1) rfl) (int_s (fig_ok fg.2)) gc]
      refine opt_if rfl ⟨fun c d => ?_, fun c => ⟨fg.1, fg.2, fun z => c (.inl (by omega)), fun z => c (.inr (.inl ⟨rfl, by omega⟩)), ?_, fun z => c (.inr (.inr (.inr ⟨z.1, by have := z.2; omega⟩)))⟩⟩
      · obtain ⟨_, _, c1, c2, c3, c4⟩ := c
        rcases d with d | ⟨_, d⟩ | d | ⟨d, f⟩
        · omega
        · exact c2 (by omega)
        · exact d (by rw [c3]; rfl)
        · exact c4 ⟨d, by omega⟩
      · by_cases z : Nat.gcd (valT a) (valT b) = 1
        · exact z
        · exact absurd (.inr (.inr (.inl fun y => z (by omega)))) c
    · have fg : ¬ (figB a = true ∧ figB b = true) := by
        intro z
        simp [z.1, z.2] at q
      rw [if_neg (fun z => fg ⟨z.1, z.2.1⟩)]
      exact meant_none (n := 2) c1 c2 d1 k1 rfl (.inr ⟨by decide, r⟩)
  | more a b parts e ha hb l ep hp =>
    refine ⟨rd2 m a b, fun k => ⟨call_read2 S h e ha, ?_⟩⟩
    rw [run__law_meant]
    obtain ⟨k1, k2⟩ := key parts (by rintro rfl; simp at l) hp ep
    unfold rd2
    rw [if_neg (by rintro ⟨_, z, _⟩; rw [fig_slash hb] at z; cases z)]
    refine meant_none c1 c2 d1 k1 (len_pd _) (.inl ?_)
    rw [List.length_map]; omega
end
theorem numL_head (n : Nat) : TL.numL n = [48] ∨ (TL.numL n).head? ≠ some 48 := by
  induction n using Nat.strongRecOn with
  | ind n ih =>
    by_cases h : n < 10
    · rw [TL.numL_lt h]
      by_cases z : n = 0
      · left; rw [z]
      · right
        intro e
        have e : some (48 + n) = some 48 := e
        injection e with e
        omega
    · rw [TL.numL_step (by omega)]
      right
      rcases ih (n / 10) (Nat.div_lt_self (by omega) (by decide)) with q | q
      · have h1 := TL.numL_val (n / 10)
        rw [q] at h1
        have h1 : 0 = n / 10 := h1
        omega
      · cases e : TL.numL (n / 10) with
        | nil => exact absurd e (TL.numL_ne _)
        | cons c r =>
          rw [e] at q
          exact q
theorem fig_itT {n : Nat} (h : n < 10 ^ 60) : figB (itT (n : Int)) = true ∧ valT (itT (n : Int)) = n := by
  refine ⟨?_, ?_⟩
  · unfold figB figL
    rw [itT_nat]
    have a := TL.numL_ne n
    have b := TL.numL_len (k := 60) (by decide) h
    have c := TL.numL_digits n
    have d := numL_head n
    rw [Bool.and_eq_true, Bool.and_eq_true, Bool.and_eq_true]
    refine ⟨⟨⟨?_, decide_eq_true b⟩, ?_⟩, ?_⟩
    · cases e : TL.numL n with
      | nil => exact absurd e a
      | cons x r => rfl
    · rw [List.all_eq_true]
      intro x hx
      have := c x hx
      rw [decide_eq_true this.1, decide_eq_true this.2]; rfl
    · rcases d with d | d
      · rw [decide_eq_true d]; rfl
      · rw [decide_eq_false d]; simp
  · unfold valT
    rw [itT_nat]
    exact TL.numL_val n
theorem nm_head {n : Nat} {r : List Nat} : (TL.numL n ++ r).head? ≠ some 45 := by
  cases e : TL.numL n with
  | nil => exact absurd e (TL.numL_ne _)
  | cons c q =>
    have := TL.numL_digits n c (by rw [e]; exact List.mem_cons_self)
    intro z
    have z : some c = some 45 := z
    injection z with z
    omega
theorem sgn_num (x : Q) : ∃ S : Sgn (numT x) (decide (x.1 < 0)) (if x.2 = 1 then itT (x.1.natAbs : Nat) else itT (x.1.natAbs : Nat) ++ "/" ++ itT x.2), True := by
  obtain ⟨m, B, S⟩ := sgn_of (numT x)
  obtain ⟨R, hR⟩ : ∃ R : Str, R = (if x.2 = 1 then itT (x.1.natAbs : Nat) else itT (x.1.natAbs : Nat) ++ "/" ++ itT x.2) := ⟨_, rfl⟩
  have hd : (TL.tl R).head? ≠ some 45 := by
    rw [hR]
    split
    · rw [itT_nat]
      have := nm_head (n := x.1.natAbs) (r := [])
      rwa [List.append_nil] at this
    · rw [TL.tl_append, TL.tl_append, itT_nat, List.append_assoc]
      exact nm_head
  have e : TL.tl (numT x) = if x.1 < 0 then 45 :: TL.tl R else TL.tl R := by
    rw [hR]
    unfold numT
    by_cases h : x.1 < 0
    · have e1 : x.1 = -((x.1.natAbs : Nat) : Int) := by omega
      have e2 : TL.tl (itT x.1) = 45 :: TL.tl (itT (x.1.natAbs : Nat)) := by
        conv => lhs; rw [e1]
        rw [itT_neg (by omega), TL.tl_append, minus_mk]; rfl
      rw [if_pos h]
      split
      · exact e2
      · rw [TL.tl_append, TL.tl_append, TL.tl_append, TL.tl_append, e2]; rfl
    · have e1 : x.1 = ((x.1.natAbs : Nat) : Int) := by omega
      rw [if_neg h, ← e1]
  rw [← hR]
  have e0 := congrArg TL.tl S.e
  rw [e] at e0
  have key : m = decide (x.1 < 0) ∧ B = R := by
    cases m with
    | true =>
      rw [if_pos rfl, TL.tl_append, minus_mk] at e0
      have e0 : _ = 45 :: TL.tl B := e0
      by_cases h : x.1 < 0
      · rw [if_pos h] at e0
        injection e0 with _ e0
        exact ⟨(decide_eq_true h).symm, (TL.ext_tl e0).symm⟩
      · rw [if_neg h] at e0
        rw [e0] at hd
        exact absurd rfl hd
    | false =>
      have e0 : _ = TL.tl B := e0
      by_cases h : x.1 < 0
      · have := S.nh rfl
        rw [e, if_pos h] at this
        exact absurd rfl this
      · rw [if_neg h] at e0
        exact ⟨(decide_eq_false h).symm, (TL.ext_tl e0).symm⟩
  rw [← key.1, ← key.2]
  exact ⟨S, trivial⟩
section
variable {k : Nat}
theorem read_back {x : Q} (hc : Int.gcd x.1 x.2 = 1) (hp : 0 < x.2) (h1 : x.1.natAbs < 10 ^ 60) (h2 : x.2.natAbs < 10 ^ 60) : callF thePrg fu (k + 2) i_read_number [.str (numT x)] = rdR (some x) := by
  obtain ⟨S, _⟩ := sgn_num x
  have tx := (numT_tx (k := 60) (by decide) h1 h2).mono (show 60 + 1 + 1 + (60 + 1) ≤ 1000 by decide)
  obtain ⟨f1, f2⟩ := fig_itT h1
  have sg : sgI (decide (x.1 < 0)) x.1.natAbs = x.1 := by
    unfold sgI
    by_cases h : x.1 < 0
    · rw [if_pos (decide_eq_true h)]; omega
    · rw [if_neg (by rw [decide_eq_false h]; decide)]; omega
  have nz : ¬ (decide (x.1 < 0) = true ∧ x.1.natAbs = 0) := fun ⟨a, b⟩ => by
    have := of_decide_eq_true a
    omega
  by_cases h : x.2 = 1
  · rw [if_pos h] at S
    rw [call_read1 S tx (itT_ns _)]
    unfold rd1
    rw [f2, if_pos ⟨f1, nz⟩, sg]
    congr 1
    congr 1
    exact Prod.ext rfl h.symm
  · rw [if_neg h] at S
    rw [call_read2 S tx rfl (itT_ns _)]
    have e2 : x.2 = ((x.2.natAbs : Nat) : Int) := by omega
    obtain ⟨g1, g2⟩ := fig_itT h2
    rw [← e2] at g1 g2
    unfold rd2
    rw [f2, g2, if_pos ⟨f1, g1, by omega, by omega, hc, nz⟩, sg]
    congr 1
    congr 1
    exact Prod.ext rfl e2.symm
end
def oddT (f : Str) : List Str := (["", "-", "-0", "00", "07", "2/4", "3/1", "1/0", "0/1", "-0/1"] : List Str) ++ (["1/-2", "/2", "1/", "1/2/3", " 1", "1 ", "+1", "1.5", "--1", "0/7"] : List Str) ++ [f, ("1/" : Str) ++ f, ("-" : Str) ++ f]
def figT (j : Nat) : Str := "1" ++ repS "0" (j : Int)
theorem any_small {d m : Int} : (anyQ d m).1.natAbs < 10 ^ 60 ∧ (anyQ d m).2.natAbs < 10 ^ 60 ∧ 0 < (anyQ d m).2 ∧ Int.gcd (anyQ d m).1 (anyQ d m).2 = 1 := by
  have h : Sz 145 (anyQ d m) := Sz.any
  have : (2 : Nat) ^ 145 ≤ 10 ^ 60 := by decide +kernel
  exact ⟨Nat.lt_of_lt_of_le h.a this, Nat.lt_of_lt_of_le h.b this, h.p, Cop.frac (Int.ne_of_gt any_sz.2.2)⟩
theorem sg_at {j : Int} (h0 : 0 ≤ j) (h : j < 16) : ∃ s : Str, ixD (.str "0123456789/-+ .x") (.int j) = .ok (.sh (.str s)) ∧ Tx 1 s := by
  obtain ⟨n, rfl⟩ := Int.eq_ofNat_of_zero_le h0
  have key : ∀ n : Nat, n < 16 → ((TL.tl "0123456789/-+ .x")[n]?.all fun c => decide (c < 0x110000)) = true ∧ ((TL.tl "0123456789/-+ .x")[n]?.isSome) = true := by decide +kernel
  obtain ⟨k1, k2⟩ := key n (by omega)
  cases e : (TL.tl "0123456789/-+ .x")[n]? with
  | none => rw [e] at k2; cases k2
  | some c =>
    rw [e] at k1
    refine ⟨chS c, ?_, chS_tx (of_decide_eq_true k1)⟩
    have e1 : ixD (.str "0123456789/-+ .x") (.int (n : Int)) = if lenOk (Str.length "0123456789/-+ .x") then (match atI (TL.tl "0123456789/-+ .x") (n : Int) with | some c => .ok (.sh (.str ⟨#[c]⟩)) | none => .stuck) else .stuck := rfl
    rw [e1, if_pos (by decide +kernel)]
    have e2 : atI (TL.tl "0123456789/-+ .x") (n : Int) = some c := by
      rw [← e]
      have sz : (Str.ofString "0123456789/-+ .x").cps.size = 16 := by decide +kernel
      have hn : n < (Str.ofString "0123456789/-+ .x").cps.size := by rw [sz]; omega
      simp [atI, ixN, hn]
    rw [e2]; rfl
theorem odd_tx {f : Str} (h : Tx 100 f) : ∀ x ∈ oddT f, Tx 1000 x := by
  intro x hx
  unfold oddT at hx
  rcases List.mem_append.mp hx with hx | hx
  · rcases List.mem_append.mp hx with hx | hx
    · have key : ((["", "-", "-0", "00", "07", "2/4", "3/1", "1/0", "0/1", "-0/1"] : List Str).all (txB 1000)) = true := by decide +kernel
      exact txB_ok (List.all_eq_true.mp key x hx)
    · have key : ((["1/-2", "/2", "1/", "1/2/3", " 1", "1 ", "+1", "1.5", "--1", "0/7"] : List Str).all (txB 1000)) = true := by decide +kernel
      exact txB_ok (List.all_eq_true.mp key x hx)
  · have a1 : Tx 2 ("1/" : Str) := txB_ok (by decide +kernel)
    have a2 : Tx 1 ("-" : Str) := txB_ok (by decide +kernel)
    rcases List.mem_cons.mp hx with q | q
    · rw [q]; exact h.mono (by decide)
    · rcases List.mem_cons.mp q with q | q
      · rw [q]; exact (a1.app h).mono (by decide)
      · rw [List.mem_singleton.mp q]; exact (a2.app h).mono (by decide)
theorem fig_tx {j : Int} (h0 : 58 ≤ j) (h : j < 62) : ∃ f : Str, Tx 100 f ∧ opD .mul (.str "0") (.int j) = .ok (.sh (.str (repS "0" j))) ∧ opD .add (.str "1") (.str (repS "0" j)) = .ok (.sh (.str f)) := by
  obtain ⟨n, rfl⟩ := Int.eq_ofNat_of_zero_le (show 0 ≤ j by omega)
  have key : ∀ n : Nat, n < 62 → txB 99 (repS "0" (n : Int)) = true := by decide +kernel
  have r := txB_ok (key n (by omega))
  have a : Tx 1 ("1" : Str) := txB_ok (by decide +kernel)
  refine ⟨_, a.app r, ?_, o_adds a r (by decide)⟩
  show (if 0 ≤ (n : Int) ∧ (n : Int) ≤ 1000 ∧ ("0" : Str).length ≤ 1000 then _ else _) = _
  rw [if_pos ⟨by omega, by omega, by decide +kernel⟩]
theorem law_text {P : Prg} {cl : Nat → List PyData → Out W} {x : Q} (hp : 0 < x.2) (h1 : x.1.natAbs < 10 ^ 60) (h2 : x.2.natAbs < 10 ^ 60) (z0 z1 z2 z4 z5 z6 z7 z8 z9 z10 : Option W) : evBk P cl fu b1_law_2 [z0, z1, z2, some (.sh (qD x)), z4, z5, z6, z7, z8, z9, z10] = evBk P cl fu b1_law_4 [z0, z1, z2, some (.sh (qD x)), some (.sh (.str (numT x))), z5, z6, z7, z8, z9, z10] := by
  have s1 := str_i (small1000 (show 60 ≤ 200 by decide) h1)
  have s2 := str_i (small1000 (show 60 ≤ 200 by decide) h2)
  have t1 := itT_tx (show 0 < 60 by decide) h1
  have t2 := itT_tx (show 0 < 60 by decide) h2
  have tc : Tx 1 ("/" : Str) := txB_ok (by decide +kernel)
  by_cases z : x.2 = 1
  · have e : numT x = itT x.1 := by unfold numT; rw [if_pos z]
    have z' : ¬ 1 < x.2 := by omega
    simp! only [b1_law_2, b1_law_3, ix_q0, ix_q1, s1, z', e]
  · have e : numT x = itT x.1 ++ "/" ++ itT x.2 := by unfold numT; rw [if_neg z]
    have z' : 1 < x.2 := by omega
    simp! only [b1_law_2, b1_law_3, ix_q0, ix_q1, s1, z', s2, o_adds t1 tc (by decide), o_adds (t1.app tc) t2 (by decide), e]
theorem law_rows {P : Prg} {cl : Nat → List PyData → Out W} {x : Q} {t : Str} {ds : List Int} (hd : ds.length = 8) (ht : Tx 200 t)
    (hw : cl i_write_number [qD x] = .ok (.sh (.str t))) (hi : cl i__law_is_text [.str t, .str t] = .ok (.sh (.bool true))) (hr : cl i__law_read [.str t] = .ok (.sh (qD x))) (hs : cl i__law_same [qD x, qD x] = .ok (.sh (.bool true)))
    (hrow : ∀ s, Tx 1000 s → ∃ d, cl i__law_read [.str s] = .ok (.sh d) ∧ cl i__law_meant [.str s] = .ok (.sh d) ∧ cl i__law_same [d, d] = .ok (.sh (.bool true)))
    (z0 z1 z5 z6 z7 z8 z9 z10 : Option W) : ∃ u5 u6 u7 u8 u9 u10, evBk P cl fu b1_law_4 [z0, z1, some (.nl (ds.map .int)), some (.sh (qD x)), some (.sh (.str t)), z5, z6, z7, z8, z9, z10] = .nx [z0, z1, some (.nl (ds.map .int)), some (.sh (qD x)), some (.sh (.str t)), u5, u6, u7, u8, u9, u10] := by
  have i2 := at_ints (ds := ds) (n := 2) 2 rfl (by omega)
  have i3 := at_ints (ds := ds) (n := 3) 3 rfl (by omega)
  have i4 := at_ints (ds := ds) (n := 4) 4 rfl (by omega)
  have i5 := at_ints (ds := ds) (n := 5) 5 rfl (by omega)
  generalize ds.getD 2 0 = d2 at i2
  generalize ds.getD 3 0 = d3 at i3
  generalize ds.getD 4 0 = d4 at i4
  generalize ds.getD 5 0 = d5 at i5
  have hl := ht.l
  have ln := len_s ht (by decide)
  have o2 : opD .mod (.int d2) (.int ((t.length : Nat) + 1)) = okI (d2.fmod ((t.length : Nat) + 1)) := o_mod (by omega)
  have o3 : opD .mod (.int d3) (.int 16) = okI (d3.fmod 16) := o_mod (by decide)
  have o5 : opD .mod (.int d5) (.int 4) = okI (d5.fmod 4) := o_mod (by decide)
  have m2 := fmod_lt (a := d2) (b := (t.length : Nat) + 1) (by omega)
  have m3 := fmod_lt (a := d3) (b := 16) (by decide)
  have m5 := fmod_lt (a := d5) (b := 4) (by decide)
  obtain ⟨sg, sg1, sg2⟩ := sg_at m3.1 m3.2
  generalize d2.fmod ((t.length : Nat) + 1) = at' at *
  have q1 := sl_d ht (by decide) none (some at')
  have q2 := sl_d ht (by decide) (some at') none
  have q3 := sl_d ht (by decide) (some (at' + 1)) none
  have c1 := cut_tx ht none (some at')
  have c2 := cut_tx ht (some at') none
  have c3 := cut_tx ht (some (at' + 1)) none
  generalize cutS t none (some at') = A at *
  generalize cutS t (some at') none = B at *
  generalize cutS t (some (at' + 1)) none = C at *
  have r1 := o_adds c1 sg2 (by decide)
  have r2 := o_adds (c1.app sg2) c2 (by decide)
  have r3 := o_adds c1 c3 (by decide)
  have r4 := o_adds (c1.app sg2) c3 (by decide)
  obtain ⟨f, f1, f2, f3⟩ := fig_tx (j := 58 + d5.fmod 4) (by omega) (by omega)
  have g1 := o_adds (show Tx 2 ("1/" : Str) from txB_ok (by decide +kernel)) f1 (by decide)
  have g2 := o_adds (show Tx 1 ("-" : Str) from txB_ok (by decide +kernel)) f1 (by decide)
  have ol : (oddT f).length = 23 := rfl
  have od := odd_tx f1
  have o4 : opD .mod (.int d4) (.int 23) = okI (d4.fmod 23) := o_mod (by decide)
  have o7 : opD .mod (.int (d4 + 7)) (.int 23) = okI ((d4 + 7).fmod 23) := o_mod (by decide)
  have m4 := fmod_lt (a := d4) (b := 23) (by decide)
  have m7 := fmod_lt (a := d4 + 7) (b := 23) (by decide)
  have pick : ∀ j : Int, 0 ≤ j → j < 23 → ∃ s : Str, ixD (.list ((oddT f).map .str)) (.int j) = .ok (.sh (.str s)) ∧ Tx 1000 s := fun j h0 h1 => by
    obtain ⟨n, rfl⟩ := Int.eq_ofNat_of_zero_le h0
    have hn : n < (oddT f).length := by rw [ol]; omega
    exact ⟨(oddT f)[n], at_nat (by rw [List.getElem?_map, List.getElem?_eq_getElem hn]; rfl), od _ (List.getElem_mem hn)⟩
  obtain ⟨p1, k1, t1⟩ := pick _ m4.1 m4.2
  obtain ⟨p2, k2, t2⟩ := pick _ m7.1 m7.2
  have hodd : (oddT f).map PyData.str = [.str "", .str "-", .str "-0", .str "00", .str "07", .str "2/4", .str "3/1", .str "1/0", .str "0/1", .str "-0/1", .str "1/-2", .str "/2", .str "1/", .str "1/2/3", .str " 1", .str "1 ", .str "+1", .str "1.5", .str "--1", .str "0/7", .str f, .str (("1/" : Str) ++ f), .str (("-" : Str) ++ f)] := rfl
  rw [hodd] at k1 k2
  have lod : lenD (.list [.str "", .str "-", .str "-0", .str "00", .str "07", .str "2/4", .str "3/1", .str "1/0", .str "0/1", .str "-0/1", .str "1/-2", .str "/2", .str "1/", .str "1/2/3", .str " 1", .str "1 ", .str "+1", .str "1.5", .str "--1", .str "0/7", .str f, .str (("1/" : Str) ++ f), .str (("-" : Str) ++ f)]) = okI 23 := rfl
  have hc : catD [.str (A ++ sg ++ B), .str (A ++ C), .str (A ++ sg ++ C)] [.str p1, .str p2] = .ok (.nl ([A ++ sg ++ B, A ++ C, A ++ sg ++ C, p1, p2].map .str)) := rfl
  have rows : ∀ s ∈ [A ++ sg ++ B, A ++ C, A ++ sg ++ C, p1, p2], Tx 1000 s := by
    intro s hs
    simp only [List.mem_cons, List.not_mem_nil, or_false] at hs
    rcases hs with rfl | rfl | rfl | rfl | rfl
    · exact ((c1.app sg2).app c2).mono (by decide)
    · exact (c1.app c3).mono (by decide)
    · exact ((c1.app sg2).app c3).mono (by decide)
    · exact t1
    · exact t2
  have loop : ∀ y5 y6 y7 y8 y9 y10, ∃ u10, forLoop (fBody P cl fu (.nm 10) b2_law) ([A ++ sg ++ B, A ++ C, A ++ sg ++ C, p1, p2].map .str) [z0, z1, some (.nl (ds.map .int)), some (.sh (qD x)), some (.sh (.str t)), y5, y6, y7, y8, y9, y10] = .nx [z0, z1, some (.nl (ds.map .int)), some (.sh (qD x)), some (.sh (.str t)), y5, y6, y7, y8, y9, u10] := fun y5 y6 y7 y8 y9 y10 => by
    obtain ⟨ρ, e, u, rfl⟩ := for_of (f := fBody P cl fu (.nm 10) b2_law) (e := fun s : Str => .str s) (I := fun _ ρ => ∃ u, ρ = [z0, z1, some (.nl (ds.map .int)), some (.sh (qD x)), some (.sh (.str t)), y5, y6, y7, y8, y9, u]) (l := [A ++ sg ++ B, A ++ C, A ++ sg ++ C, p1, p2]) (ρ := [z0, z1, some (.nl (ds.map .int)), some (.sh (qD x)), some (.sh (.str t)), y5, y6, y7, y8, y9, y10]) ⟨_, rfl⟩ (fun d s r ρ hl ⟨u, e⟩ => by
      subst e
      rw [fb_nm _ _ _ _ _ _ _ (by simp)]
      obtain ⟨w, w1, w2, w3⟩ := hrow s (rows s (by rw [hl]; simp))
      refine ⟨[z0, z1, some (.nl (ds.map .int)), some (.sh (qD x)), some (.sh (.str t)), y5, y6, y7, y8, y9, some (.sh (.str s))], .inl ?_, _, rfl⟩
      simp! only [b2_law, w1, w2, w3])
    exact ⟨u, e⟩
  have tail : ∀ y5 y6 y8 y9 y10, ∃ u10, evBk P cl fu b1_law_11 [z0, z1, some (.nl (ds.map .int)), some (.sh (qD x)), some (.sh (.str t)), y5, y6, some (.nl ([A ++ sg ++ B, A ++ C, A ++ sg ++ C, p1, p2].map .str)), y8, y9, y10] = .nx [z0, z1, some (.nl (ds.map .int)), some (.sh (qD x)), some (.sh (.str t)), y5, y6, some (.sh (.list ([A ++ sg ++ B, A ++ C, A ++ sg ++ C, p1, p2].map .str))), y8, y9, u10] := fun y5 y6 y8 y9 y10 => by
    obtain ⟨u, e⟩ := loop y5 y6 (some (.sh (.list ([A ++ sg ++ B, A ++ C, A ++ sg ++ C, p1, p2].map .str)))) y8 y9 y10
    generalize ([A ++ sg ++ B, A ++ C, A ++ sg ++ C, p1, p2].map PyData.str) = RW at *
    refine ⟨u, ?_⟩
    simp! only [b1_law_11, e]
  simp! only [b1_law_4, b1_law_5, b1_law_6, b1_law_7, b1_law_8, b1_law_9, b1_law_10, hw, hi, hr, hs, i2, i3, i4, i5, ln, o2, o3, o5, sg1, q1, q2, q3, r1, r2, r3, r4, f2, f3, g1, g2, lod, o4, o7, k1, k2, hc]
  obtain ⟨u, e⟩ := tail (some (.sh (.int at'))) (some (.sh (.str sg))) (some (.sh (.str f))) (some (.nl ((oddT f).map .str))) z10
  exact ⟨_, _, _, _, _, _, e⟩
theorem law_pure (ns : List Int) (hl : ns.length ≤ 63) (hb : ∀ z ∈ ns, Builtin.Int.intBits z ≤ 1048576) (hf : FuOk fu) : callF thePrg fu 200 i_law [.list (ns.map .int)] = .ok (.sh (.bool true)) := by
  rw [run_law (k := 199)]
  have turn : ∀ (i : Nat) (z2 z3 z4 z5 z6 z7 z8 z9 z10 : Option W), ∃ u2 u3 u4 u5 u6 u7 u8 u9 u10, evBk thePrg (callF thePrg fu 199) fu b1_law [some (.sh (.list (ns.map .int))), some (.sh (.int (i : Nat))), z2, z3, z4, z5, z6, z7, z8, z9, z10] = .nx [some (.sh (.list (ns.map .int))), some (.sh (.int (i : Nat))), u2, u3, u4, u5, u6, u7, u8, u9, u10] := fun i z2 z3 z4 z5 z6 z7 z8 z9 z10 => by
    obtain ⟨c, ds, hc, hd, hdl, hdr⟩ := start_turn (fu := fu) (k := 198) ns i 8 (by decide)
    have i0 := at_ints (ds := ds) (n := 0) 0 rfl (by omega)
    have i1 := at_ints (ds := ds) (n := 1) 1 rfl (by omega)
    have ha := call__law_any_number (fu := fu) (k := 196) (d := ds.getD 0 0) (m := ds.getD 1 0) hf
    obtain ⟨x1, x2, x3, x4⟩ := any_small (d := ds.getD 0 0) (m := ds.getD 1 0)
    generalize anyQ (ds.getD 0 0) (ds.getD 1 0) = x at *
    generalize ds.getD 0 0 = d0 at *
    generalize ds.getD 1 0 = d1 at *
    have tx := numT_tx (k := 60) (by decide) x1 x2
    have hw := call_write_number (fu := fu) (j := 198) (x := x) (k := 60) (by decide) (by decide) x1 x2
    have hi := call__law_is_text (fu := fu) (k := 198) (numT x) tx.ok
    have hr := call__law_read (fu := fu) (k := 196) (o := some x) (read_back x4 x3 x1 x2)
    have same : ∀ q : Q, callF thePrg fu 199 i__law_same [qD q, qD q] = .ok (.sh (.bool true)) := fun q => call__law_same 2 (k := 195) (qD q) rfl
    have hrow : ∀ s, Tx 1000 s → ∃ d, callF thePrg fu 199 i__law_read [.str s] = .ok (.sh d) ∧ callF thePrg fu 199 i__law_meant [.str s] = .ok (.sh d) ∧ callF thePrg fu 199 i__law_same [d, d] = .ok (.sh (.bool true)) := fun s hs => by
      obtain ⟨o, ho⟩ := call__law_meant (fu := fu) hs hf
      refine ⟨optD o, call__law_read (k := 196) (ho 196).1, (ho 197).2, ?_⟩
      cases o with
      | none => exact call__law_same 1 (k := 196) .none rfl
      | some q => exact same q
    have rest := law_rows (fu := fu) (P := thePrg) (cl := callF thePrg fu 199) hdl (tx.mono (by decide)) hw hi hr (same x) hrow (some (.sh (.list (ns.map .int)))) (some (.sh (.int (i : Nat)))) z5 z6 z7 z8 z9 z10
    have tt := law_text (fu := fu) (P := thePrg) (cl := callF thePrg fu 199) x3 x1 x2 (some (.sh (.list (ns.map .int)))) (some (.sh (.int (i : Nat)))) (some (.nl (ds.map .int))) z4 z5 z6 z7 z8 z9 z10
    have hc : callF thePrg fu 199 i__law_cell [.list (ns.map .int), .int (i : Nat)] = _ := hc
    have hd : callF thePrg fu 199 i__law_draws [.int c, .int 8] = _ := hd
    generalize callF thePrg fu 199 = cl at *
    generalize thePrg = P at *
    obtain ⟨u5, u6, u7, u8, u9, u10, rest⟩ := rest
    refine ⟨some (.nl (ds.map .int)), some (.sh (qD x)), some (.sh (.str (numT x))), u5, u6, u7, u8, u9, u10, ?_⟩
    simp! only [b1_law, b1_law_1, hc, hd, i0, i1, ha, tt, rest]
  have hr : rng1D (.int 3) = .ok (rngD 0 3) := rng1_ok (n := 3) (by decide)
  obtain ⟨ρ, e, z1, z2, z3, z4, z5, z6, z7, z8, z9, z10, rfl⟩ := for_rng (f := fBody thePrg (callF thePrg fu 199) fu (.nm 1) b1_law) (n := 3) (I := fun _ ρ => ∃ z1 z2 z3 z4 z5 z6 z7 z8 z9 z10, ρ = [some (.sh (.list (ns.map .int))), z1, z2, z3, z4, z5, z6, z7, z8, z9, z10]) (ρ := [some (.sh (.list (ns.map .int))), none, none, none, none, none, none, none, none, none, none]) ⟨_, _, _, _, _, _, _, _, _, _, rfl⟩ (fun i ρ hi ⟨z1, z2, z3, z4, z5, z6, z7, z8, z9, z10, e⟩ => by
    subst e
    rw [fb_nm _ _ _ _ _ _ _ (by simp)]
    obtain ⟨u2, u3, u4, u5, u6, u7, u8, u9, u10, e⟩ := turn i z2 z3 z4 z5 z6 z7 z8 z9 z10
    exact ⟨_, .inl e, _, _, _, _, _, _, _, _, _, _, rfl⟩)
  simp! only [bd_law, hr, e]
end Ev
open PySem PySem.W
open PySem.Calls PyProof.Rows
theorem PySem.Challenge.cw_rootfast_k04_texts_of_numbers_holds : PySem.Challenge.rw_rootfast_k04_texts_of_numbers.Holds := by
  w_on; o_law
  refine HandSHeadRun.head_imp (r := Ev.theRow) (q := view Ev.theRow.prog [0, 25]) (H := Ev.hookX 4 Ev.theTbl) (ob := Ev.theOb) (M := 2000) (loose := Ev.theLoose) (d := HandSHeadRun.topDef Ev.theRow.prog 25) (kwd := []) Ev.theOb_eq
    Ev.theRun (by kernel_rfl) (by kernel_rfl) (by kernel_rfl) (by rfl) (by first | assumption | decide +kernel) (by decide +kernel) ⟨rfl, rfl, rfl, rfl, rfl, by decide +kernel⟩ ?hw ?hc
  case hw => w_witness2
  case hc => exact Ev.walk_ofX (l := PySem.Challenge.rw_rootfast_k04_texts_of_numbers) (n := 63) (k := 200) (fu := 2 ^ 3000000) (fL := Ev.i_law) (x := "script") (Z := Ev.theTbl) rfl (by decide) (by kernel_rfl) ⟨rfl, by decide, by decide⟩ Ev.the_ok rfl Ev.at_law rfl rfl (by kernel_rfl) (fun ns h1 h2 => Ev.law_pure ns h1 h2 Ev.fu_ok)
