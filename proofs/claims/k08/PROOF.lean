import PyProof.Rows.All
import Wide.All
import OpenK.AllK
import Wide.FinOn
import HandS.ForMost
import HandS.EndBits
import HandS.Evl
import HandS.Walk
import HandS.TupAny
import HandS.IsInst
import HandS.Style
import KE.KUnpackStar
import KE.DatumOrd
import KE.GoesComp
import KE.GoesDict
import KE.KDictDisplayH
import KE.KDictCopyH
import PySem.Challenge.RW_paintyard_k08_whole_turns_come_back
set_option Elab.async false
set_option linter.all false
set_option maxRecDepth 100000
set_option maxHeartbeats 4000000
namespace K08
open PySem PySem.Spec PyProof.Rows L2
/-! ### one, *rest = a list -/
section
variable {prog : Program} {w : World} {A : Around} {E : Value → Shared → Prop} {s : Shared}
theorem unpack_rest {l : Addr} {u0 : Value} {us : List Value} {n : Nat} {Q : List Value → Shared → Prop} (hh : A.handled = none)
    (hl : s.heap.get? l = some { cls := .type "list", data := .seq (u0 :: us).toArray n }) (hz : us.length ≤ 16000)
    (h : ∀ (h' : Heap) (tk : Nat), (∀ b o, s.heap.get? b = some o → h'.get? b = some o) → Q [u0, .ref h'.objs.size] { s with heap := h'.push { cls := .type "list", data := .seq us.toArray }, toks := tk }) :
    wpAny (model prog w) A (unpackItems (.ref l) 2 (some 1)) Q E s := by
  have hL : s.heap.IsList l (u0 :: us).toArray := ⟨_, hl, rfl, n, rfl⟩
  have lt : l < s.heap.objs.size := Heap.lt_size hl
  have ne : l ≠ s.heap.objs.size := Nat.ne_of_lt lt
  have hsz : (u0 :: us).toArray.size = us.length + 1 := by simp
  unfold unpackItems
  refine wpAny_bind ?_
  unfold notIterableAtAll
  refine wpAny_bind (wpAny_specialOf hL.typeIs slot_list_iter.lookup (wpAny_pure ?_))
  simp only [Bool.false_eq_true, if_false]
  refine wpAny_bind (wpAny_holding (wpAny_pyIter_list hL ?_))
  refine wpAny_bind (wpAny_holding (PySem.W.kun_draw ne 1 0 _ _ ⟨_, Heap.get?_push_size _ rfl, rfl, rfl⟩ (hL.push _) (by rw [hsz]; omega) fun h1 st1 sb1 => ?_))
  have q1 : h1.IsList l (u0 :: us).toArray := (hL.push _).extBut sb1.extBut ne
  have take1 : List.take 1 (List.drop 0 (u0 :: us).toArray.toList) = [u0] := by simp
  rw [take1, if_neg (by simp)]
  obtain ⟨oi, hoi, _⟩ := id st1
  obtain ⟨ol, hol, _⟩ := id q1
  refine wpAny_bind (wpAny_holding (PySem.W.kun_collect (s := { s with heap := h1 }) (T := "list_iterator") (k := 1) (.inr (.inr (.inl rfl))) (Walks.list (A := A.in1) hh s.heap.objs.size l ne (u0 :: us).toArray) (fun j u st => st.1.typeIs) (by rw [hsz]; omega) ⟨st1, q1⟩ (Heap.lt_size hoi) (Heap.lt_size hol) (fun h2 tk kk => ?_) (by rw [hsz, sizeLine_eq]; omega)))
  have drop1 : (u0 :: us).toArray.toList.drop 1 = us := by simp
  rw [drop1]
  have old : ∀ b o, s.heap.get? b = some o → h2.get? b = some o := fun b o e =>
    kk b o (Nat.ne_of_lt (Heap.lt_size e)) (sb1.extBut b o (Nat.ne_of_lt (Heap.lt_size e)) (Heap.get?_push_of_some _ e))
  have z : 2 - 1 - 1 = 0 := rfl
  rw [z, if_neg (Nat.not_lt_zero _), Nat.sub_zero, List.take_length, List.drop_length]
  refine wpAny_bind (wpAny_newList ?_ (by rw [sizeLine_eq]; omega))
  exact wpAny_pure (h h2 tk old)
end
section
variable {X : Cx}
/-- first, *rest = a list: the rest is a new list -/
def gStar (g1 g2 : TG) : TG := fun v σ H Q => ∃ (l : Addr) (x : V) (xs : List V), v = .ref l ∧ H l = some (.lst (x :: xs)) ∧ xs.length ≤ 16000 ∧ ∀ p, H p = none → g1 x σ (upd H p (.lst xs)) fun σ' H' => g2 (.ref p) σ' H' Q
theorem pg_star {t1 t2 : Expr} {sp pos : Pos} {k : Nat} {g1 g2 : TG} (hc : X.calm = true) (h1 : PG X t1 g1) (h2 : PG X t2 g2)
    (hs : assignEach [t1, .Starred t2 sp] X.env = [(false, assign t1 X.env), (true, assign t2 X.env)] := by rfl) : PG X (.Tuple [t1, .Starred t2 sp] k pos) (gStar g1 g2) := by
  refine ⟨fun pins s σ H v u Q I r hw => ?_⟩
  obtain ⟨l, x, xs, rfl, hl, hz, q⟩ := hw
  cases r
  obtain ⟨z, its, n, rv, _, eo⟩ := I.lstM hl
  cases rv with
  | @cons _ u0 _ us r0 rr =>
    have hlen : us.length = xs.length := rr.length.symm
    rw [assign_Tuple]
    refine wpAny_bind (wpAny_standAt ?_)
    unfold unpack
    rw [hs]
    refine wpAny_bind (wpAny_holding (unpack_rest (I.ok.hd hc) eo (by omega) fun h' tk kept => ?_))
    have I1 : Inv X pins σ H { s with heap := h', toks := tk } := I.kept kept
    have hp : H h'.objs.size = none := I1.hok.fresh (Nat.le_refl _)
    have I2 : Inv X pins σ (upd H h'.objs.size (.lst xs)) { s with heap := h'.push { cls := .type "list", data := .seq us.toArray }, toks := tk } :=
      I1.laid (a := h'.objs.size) (o := .lst xs) (t' := tk) (fun b o e => Heap.get?_push_of_some _ e) (Nat.le_refl _) ⟨by rw [sizeLine_eq]; omega, us, 0, rr, Heap.get?_push_size _ rfl⟩
    show wpAny _ _ (assignInOrder [assign t1 X.env, assign t2 X.env] [u0, .ref h'.objs.size]) _ _ _
    refine assignInOrder_cons (thn (h1.run pins _ σ _ x u0 _ I2 r0 (q _ hp)) fun _ s3 ⟨σ3, H3, I3, q3⟩ => ?_)
    refine assignInOrder_cons (thn (h2.run pins s3 σ3 H3 (.ref h'.objs.size) _ Q I3 rfl q3) fun _ s4 q4 => assignInOrder_nil q4)
end
/-! ### {(x, y): v} -/
section
variable {X : Cx}
def tDisp1T (tk tv : TE) : TE := fun σ H Q => ∀ p, H p = none → tk σ (upd H p (.dT [])) fun y H2 => tv σ H2 fun z H3 => ∃ (b : Addr) (k : List L2.Key), y = .ref b ∧ H3 b = some (.tup (k.map kV)) ∧ H3 p = some (.dT []) ∧ Q (.ref p) (upd H3 p (.dT [(k, z)]))
theorem pe_disp1T {ke ve : Expr} {pos : Pos} {tk tv : TE} (hu : X.A.units < cLine) (hk : PE X ke tk) (hv : PE X ve tv) : PE X (.Dict [some ke] [ve] pos) (tDisp1T tk tv) := by
  refine ⟨fun pins s σ H Q I q => ?_⟩
  have hn := I.hok.fresh (Nat.le_refl s.heap.objs.size)
  have I1 := I.laid (a := s.heap.objs.size) (o := .dT []) (h' := s.heap.push { cls := .type "dict", data := .dict #[] }) (t' := s.toks) (fun _ _ q => Heap.get?_push_of_some _ q) (Nat.le_refl _) (dt_empty s.heap I.big)
  rw [arm_eval_Dict, zip_pairTrees [some ke] [ve] X.env pos rfl rfl, dictDisplay_pairs _ (by simp [pairTrees]) (by simp [pairTrees])]
  refine wpAny_bind (wpAny_standAt (wpAny_bind (wpAny_subDictH (knd := tupleKind (mixKind X.prog X.w)) (Q := fun d s' => wpAny (model X.prog X.w) X.A (pure (Value.ref d)) _ _ s') hu (by simp [pairTrees]) ?_)))
  refine pairTrees_cons_walk (thn (hk.run pins _ σ _ _ I1 (q _ hn)) fun kv s1 ⟨y, H2, I2, ry, q2⟩ => thn (hv.run pins s1 σ H2 _ I2 q2) fun vv s2 ⟨z, H3, I3, rz, b, k, e1, eb, ed, q3⟩ => pairTrees_nil_walk ?_)
  subst e1
  cases ry
  obtain ⟨zz, hd, xs, rel, dd⟩ := dt_of I3.hok ed
  cases rel
  refine ⟨[(k, b, vv)], ⟨rfl, rfl, key_of I3.hok eb, trivial⟩, dd, fun h' tk dd' hs => wpAny_pure ?_⟩
  obtain ⟨o, es, ep, ho, h2, h3, h4, _, h5⟩ := dd'
  have one : storedAllH [] [(k, b, vv)] = [(k, b, vv)] := rfl
  rw [one] at h4 h5
  refine ⟨.ref s.heap.objs.size, _, d_write (t' := tk) (ob := .dT [(k, z)]) I3 (by rw [ed]; exact True.intro) hs ⟨o, ho⟩ ⟨by show 1 ≤ sizeLine; decide, hd, [(k, b, vv)], .cons ⟨rfl, ?_, rz⟩ .nil, o, es, ep, ho, h2, h3, h4, h5⟩, rfl, q3⟩
  show upd H3 s.heap.objs.size (.dT [(k, z)]) b = _
  rw [upd_ne (ne_of eb ed (fun z => nomatch z))]
  exact eb
end
/-! ### d.update(d2), keys that are tuples -/
def mergeT (kvs more : List (List L2.Key × V)) : List (List L2.Key × V) := more.foldl (fun acc kv => putK acc kv.1 kv.2) kvs
theorem mergeT_len : ∀ (more kvs : List (List L2.Key × V)), (mergeT kvs more).length ≤ kvs.length + more.length
  | [], kvs => Nat.le_refl _
  | p :: r, kvs => by
    have a := mergeT_len r (putK kvs p.1 p.2)
    have b := length_putK kvs p.1 p.2
    have c : mergeT kvs (p :: r) = mergeT (putK kvs p.1 p.2) r := rfl
    rw [c, List.length_cons]
    omega
theorem KT_merge {H : Hp} : ∀ {more : List (List L2.Key × V)} {ys : List (List L2.Key × Addr × Value)} {kvs : List (List L2.Key × V)} {xs : List (List L2.Key × Addr × Value)}, KT H more ys → KT H kvs xs → KT H (mergeT kvs more) (storedAllH xs ys) := by
  intro more ys kvs xs r
  unfold KT at r
  induction r generalizing kvs xs with
  | nil => exact fun q => q
  | @cons p q ps qs h t ih =>
    intro r0
    have e := KT.put r0 p.1 (b := q.2.1) h.2.1 h.2.2
    rw [h.1] at e
    obtain ⟨q1, q2, q3⟩ := q
    obtain ⟨p1, p2⟩ := p
    have h1 : p1 = q1 := h.1
    subst h1
    exact ih e
section
variable {X : Cx}
def rUpdT (P : Program) (w : World) : V → List V → Hp → VK → Prop := fun x xs H Q => ∃ (d o : Addr) (kvs more : List (List L2.Key × V)), x = .ref d ∧ xs = [.ref o] ∧ d ≠ o ∧ H d = some (.dT kvs) ∧ H o = some (.dT more) ∧
  (kvs ≠ [] ∨ (more.map fun p => (tupleKind (mixKind P w)).hash p.1).Nodup) ∧ kvs.length + more.length ≤ sizeLine ∧ Q .non (upd H d (.dT (mergeT kvs more)))
theorem mt_updT (hu : X.A.units + 1 < cLine) : MtR X "dict.update" (rUpdT X.prog X.w) := by
  intro pins s σ H x xs v us Q I rx rs h
  obtain ⟨d, o, kvs, more, rfl, rfl, hne, hd, ho, hap, hz, q⟩ := h
  cases rx
  rw [Vals.ref1 rs]
  obtain ⟨z1, s1, ys1, rel1, dd1⟩ := dt_of I.hok hd
  obtain ⟨z2, s2, ys2, rel2, dd2⟩ := dt_of I.hok ho
  have l1 : kvs.length = ys1.length := Paired.length rel1
  have l2 : more.length = ys2.length := Paired.length rel2
  have keys2 : ∀ {a : List (List L2.Key × V)} {b : List (List L2.Key × Addr × Value)}, KT H a b → (a.map fun p => (tupleKind (mixKind X.prog X.w)).hash p.1) = b.map fun x => (tupleKind (mixKind X.prog X.w)).hash x.1 := by
    intro a b r
    induction r with
    | nil => rfl
    | cons h t ih => rw [List.map_cons, List.map_cons, ih, h.1]
  have tys : ∀ y ∈ ys2, s.TypeIs (.ref y.2.1) "tuple" := by
    intro y hy
    obtain ⟨_, _, _, _, _, _, _, his, _⟩ := dd2
    obtain ⟨ob, _, _, e1, e2, _⟩ := his y hy
    exact ⟨ob, e1, e2⟩
  refine call_update_dictH (knd := tupleKind (mixKind X.prog X.w)) (tupleKind_room_in1 hu) hne s2 dd1 dd2 ?_ (by omega) fun h' hd' _ hs => ?_
  · rcases hap with hap | hap
    · refine .inl fun e => hap ?_
      rw [e] at l1
      exact List.length_eq_zero_iff.mp l1
    · refine .inr ⟨tys, ?_⟩
      rw [← keys2 rel2]
      exact hap
  · obtain ⟨ob, es, ep, e1, h2, h3, h4, _, h5⟩ := hd'
    refine ⟨.non, _, d_write (t' := s.toks) (ob := .dT (mergeT kvs more)) I (by rw [hd]; exact True.intro) hs ⟨ob, e1⟩ ⟨?_, s1, _, (KT_merge rel2 rel1).keeps fun c ys ec => ?_, ob, es, ep, e1, h2, h3, h4, h5⟩, rfl, q⟩
    · have := mergeT_len more kvs
      omega
    · rw [upd_ne (ne_of ec hd (fun z => nomatch z))]
      exact ec
end
/-! ### max of a tuple of ints -/
section
variable {X : Cx}
def rMaxT (K : PySem.W.Frag) : List V → Hp → VK → Prop := fun vs H Q => ∃ (a : Addr) (n : Int) (ns : List Int), vs = [V.ref a] ∧ SqT K H a ((n :: ns).map V.int) ∧ ∀ m, m ∈ n :: ns → (∀ y, y ∈ n :: ns → y ≤ m) → Q (.int m) H
theorem dpAll_ints {K : PySem.W.Frag} {H : Hp} : ∀ ns : List Int, DpAll K H (ns.map V.int) (ns.map PyData.int)
  | [] => .nil
  | n :: r => .cons (.int n) (dpAll_ints r)
theorem maxOf_int : ∀ (xs : List Int) (x : Int), PySem.W.maxOf x xs ∈ x :: xs ∧ ∀ y, y ∈ x :: xs → y ≤ PySem.W.maxOf x xs
  | [], x => ⟨List.mem_cons_self, fun y hy => by
    have e : y = x := by simpa using hy
    subst e
    exact Int.le_refl _⟩
  | z :: r, x => by
    obtain ⟨a, b⟩ := maxOf_int r (if decide (x < z) = true then z else x)
    have e : PySem.W.maxOf x (z :: r) = PySem.W.maxOf (if decide (x < z) = true then z else x) r := rfl
    rw [e]
    have up := b _ List.mem_cons_self
    by_cases hc : x < z
    · rw [decide_eq_true hc, if_pos rfl] at a b up ⊢
      refine ⟨List.mem_cons_of_mem _ a, fun y hy => ?_⟩
      rcases List.mem_cons.mp hy with rfl | hy
      · omega
      · exact b y hy
    · rw [decide_eq_false hc, if_neg Bool.false_ne_true] at a b up ⊢
      refine ⟨?_, fun y hy => ?_⟩
      · rcases List.mem_cons.mp a with e | h
        · rw [e]
          exact List.mem_cons_self
        · exact List.mem_cons_of_mem _ (List.mem_cons_of_mem _ h)
      · rcases List.mem_cons.mp hy with rfl | hy
        · exact up
        · rcases List.mem_cons.mp hy with rfl | hy
          · omega
          · exact b y (List.mem_cons_of_mem _ hy)
theorem cr_maxT (hc : X.calm = true) (hu : X.A.units + 1 < cLine) : CallR X (.builtin "max") (rMaxT X.K) := by
  intro pins s σ H vs us Q I r h
  obtain ⟨a, n, ns, rfl, hs, q⟩ := h
  obtain ⟨its, rv, ht, hz⟩ := I.tuple hs
  rw [Vals.ref1 r]
  have hd : PySem.W.HoldAll s.heap its.toArray.toList (n :: ns) := Dp.readsAll I ((n :: ns).map PyData.int) _ _ (dpAll_ints (n :: ns)) rv
  obtain ⟨m1, m2⟩ := maxOf_int ns n
  refine PySem.W.max_tuple_datum (I.ok.hd hc) ht hd hu fun i v h' tk hi hv kept => ?_
  obtain ⟨as, hr⟩ := hv
  have hr' : Reads h' v (.int (PySem.W.maxOf n ns)) as := hr
  cases hr'
  exact ⟨.int _, H, I.kept kept, ⟨_, rfl⟩, q _ m1 m2⟩
end
end K08
namespace K08
open PySem PySem.Spec PyProof.Rows L2
/-! ### t[::-1] -/
theorem pick_back (xs : Array Value) : ((List.range xs.size).filterMap fun (k : Nat) => xs[((((xs.size : Int) - 1) + (k : Int) * (-1))).toNat]?) = xs.toList.reverse := by
  have e : (List.range xs.size).map (fun (k : Nat) => xs[((((xs.size : Int) - 1) + (k : Int) * (-1))).toNat]?) = xs.toList.reverse.map some := by
    refine List.ext_getElem (by simp) fun i h1 h2 => ?_
    simp only [List.length_map, List.length_range] at h1
    have q : ((((xs.size : Int) - 1) + (i : Int) * (-1))).toNat = xs.size - 1 - i := by omega
    simp only [List.getElem_map, List.getElem_range]
    rw [q, List.getElem_reverse]
    have hlt : xs.size - 1 - i < xs.size := by omega
    simp [hlt]
  have f : ∀ (l : List Nat) (g : Nat → Option Value), l.filterMap g = (l.map g).filterMap id := fun l g => by rw [List.filterMap_map]; rfl
  rw [f, e, List.filterMap_map]
  simp
section
variable {prog : Program} {w : World} {A : Around} {E : Value → Shared → Prop} {s : Shared}
theorem getItem_tuple_back {t sl : Addr} {items : Array Value} {tk : Tok} {Q : Value → Shared → Prop} (ht : IsTup s.heap t items) (hs : s.heap.IsSliceOf sl .none .none (.int (-1) tk))
    (h : Q (.ref s.heap.objs.size) { s with heap := s.heap.push { cls := .type "tuple", data := .seq items.toList.reverse.toArray } }) (hsz : items.size ≤ sizeLine) : wpAny (model prog w) A (getItem (.ref t) (.ref sl)) Q E s := by
  have room : sizeOk (.seq items.toList.reverse.toArray) := by
    show items.toList.reverse.toArray.size ≤ sizeLine
    simpa using hsz
  obtain ⟨os, hos, hcs, hds⟩ := id hs
  have hTs : s.TypeIs (.ref sl) "slice" := ⟨os, hos, hcs⟩
  unfold getItem
  try with_reducible refine wpAny_holding ?_
  first | refine wpAny_bind (wpAny_pure ?_) | skip
  refine wpAny_bind (wpAny_sequenceKey ht.typeIs (by decide) (wpAny_bind (wpAny_callSpecial?_slot (name := Str.ofString "__getitem__") ht.typeIs PyProof.Rows.slot_tuple_getitem
    (wpAny_call_entry PyProof.Rows.slot_tuple_getitem ht.typeIs entry_tuple_getitem ?_ (args_tuple_getitem _ _)))))
  show wpAny _ _ (Builtin.Tuple.tupleItemsOf (.ref t) >>= _) _ _ s
  refine wpAny_bind (tupleItemsOf_ ht (wpAny_bind (wpAny_typeOf hTs ?_)))
  rw [if_pos (by decide)]
  have parts : ∀ {Q' : Int × Int × Nat → Shared → Prop} {E' : Value → Shared → Prop} {A' : Around}, Q' ((items.size : Int) - 1, -1, items.size) s → wpAny (model prog w) A' (Builtin.Slice.sliceApplied (.ref sl) (pure (items.size : Int))) Q' E' s := by
    intro Q' E' A' q
    unfold Builtin.Slice.sliceApplied Builtin.Slice.sliceFields
    refine wpAny_bind (wpAny_bind (wpAny_field hos hds (x := .none) rfl (wpAny_bind (wpAny_field hos hds (x := .none) rfl (wpAny_bind (wpAny_field hos hds (x := .int (-1) tk) rfl (wpAny_pure ?_)))))))
    refine wpAny_bind (slicePart_int ?_)
    show wpAny _ _ (if ((-1 : Int) == 0) = true then _ else _) _ _ s
    rw [if_neg (by decide)]
    refine wpAny_bind (slicePart_none (wpAny_bind (slicePart_none (wpAny_bind (wpAny_pure ?_)))))
    have adj : Builtin.Slice.sliceAdjust none none (-1) (items.size : Int) = ((items.size : Int) - 1, -1) := rfl
    show wpAny _ _ (match Builtin.Slice.sliceAdjust none none (-1) (items.size : Int) with | (lo, hi) => pure (lo, (-1 : Int), Builtin.Slice.slicePlaces lo hi (-1))) _ _ s
    rw [adj]
    have pl : Builtin.Slice.slicePlaces ((items.size : Int) - 1) (-1) (-1) = items.size := by
      unfold Builtin.Slice.slicePlaces
      simp
      omega
    show wpAny _ _ (pure ((items.size : Int) - 1, (-1 : Int), Builtin.Slice.slicePlaces ((items.size : Int) - 1) (-1) (-1))) _ _ s
    rw [pl]
    exact wpAny_pure q
  refine wpAny_bind (parts ?_)
  show wpAny _ _ (if (((items.size : Int) - 1) == 0 && (-1 : Int) == 1 && items.size == items.size) = true then _ else _) _ _ s
  rw [if_neg (by simp), pick_back]
  first
    | exact wpAny_bind (m := Builtin.Tuple.tupleExact _) (wpAny_newObj_type (wpAny_pure ⟨_, rfl, wpAny_pure h⟩) room)
    | exact wpAny_bind (wpAny_bind (m := Builtin.Tuple.tupleExact _) (wpAny_newObj_type (wpAny_pure ⟨_, rfl, wpAny_pure h⟩) room))
end
section
variable {X : Cx}
/-- t[::-1]: a new tuple -/
def tRevT (K : PySem.W.Frag) (te : TE) : TE := fun σ H Q => te σ H fun x H1 => ∃ a xs, x = .ref a ∧ SqT K H1 a xs ∧ ∀ p, H1 p = none → Q (.ref p) (upd H1 p (.tup xs.reverse))
theorem pe_revT {e : Expr} {te : TE} {k : Nat} {p1 p2 p3 pos : Pos} (he : PE X e te) : PE X (.Subscript e (.Slice none none (some (.UnaryOp .USub (.Constant (.int 1) k p1) p2)) p3) pos) (tRevT X.K te) := by
  refine ⟨fun pins s σ H Q I h => Subscript_ (thn (he.run pins s σ H _ I h) fun v s1 ⟨x, H1, I1, r1, a, xs, ex, hx, q⟩ => ?_)⟩
  subst ex
  cases r1
  have minus : PO X (some (.UnaryOp .USub (.Constant (.int 1) k p1) p2)) (tPart (tUn (rU fun i => .int (-i)) (tC (.int 1)))) := po_some (pe_un un_neg pe_int)
  refine wpAny_Slice (thn (po_none.run pins s1 σ H1 (fun o G => o = none ∧ G = H1) I1 ⟨rfl, rfl⟩) fun v1 s2 ⟨o1, G1, J1, w1, e1, g1⟩ => ?_)
  subst e1 g1
  refine thn (po_none.run pins s2 σ G1 (fun o G => o = none ∧ G = G1) J1 ⟨rfl, rfl⟩) fun v2 s3 ⟨o2, G2, J2, w2, e2, g2⟩ => ?_
  subst e2 g2
  refine thn (minus.run pins s3 σ G2 (fun o G => o = some (-1) ∧ G = G2) J2 ⟨1, rfl, -1, rfl, rfl, rfl⟩) fun v3 s4 ⟨o3, G3, J3, w3, e3, g3⟩ => ?_
  subst e3 g3
  cases w1
  cases w2
  cases w3 with
  | int _ tk =>
    have J4 : Inv X pins σ G3 { s4 with heap := s4.heap.push { cls := .type "slice", data := .fields #[.none, .none, .int (-1) tk] } } := J3.kept (t' := s4.toks) fun b ob q => Heap.get?_push_of_some _ q
    obtain ⟨its, r, ht, hz⟩ := J4.tuple hx
    have hlen := r.length
    refine tail_any (ops := [.ref a, .ref s4.heap.objs.size]) ht.typeIs (PyProof.Rows.slot_tuple_getitem.lookup) ?_ (by with_unfolding_all rfl)
    refine getItem_tuple_back ht (Heap.IsSliceOf.new _ .none .none (.int (-1) tk)) ⟨.ref _, _, J4.laid (t' := s4.toks) (o := .tup xs.reverse) (fun b ob q => Heap.get?_push_of_some _ q) (Nat.le_refl _) ⟨by rw [List.length_reverse]; exact hz, its.reverse, ?_, ?_⟩, rfl, q _ (J4.hok.fresh (Nat.le_refl _))⟩ (by rw [List.size_toArray]; omega)
    · exact r.reverse
    · exact IsTup.new _ _
end
end K08
namespace K08
open PySem PySem.Spec PyProof.Rows L2
/-! ### {place: many for place in d}, d a dict whose keys are tuples -/
def dcNames : List (Str × NameKind) := [((".0" : Str), .local), (("place" : Str), .local), (("many" : Str), .free)]
def dcCells (c : Addr) : List (Str × Addr) := [(("many" : Str), c)]
theorem dc_closure {scope : Scope} {env : Env} {c : Addr} (hsc : scope.names = dcNames) (hc : env.cells.lookup ("many" : Str) = some c) : closureFor scope env = pure (dcCells c) := by
  have hfree : ∀ y ∈ scope.names, y.2 = .free → ∃ c, env.cells.lookup y.1 = some c := by
    rw [hsc]
    intro y hy hf
    simp only [dcNames, List.mem_cons, List.not_mem_nil, or_false] at hy
    rcases hy with rfl | rfl | rfl
    · cases hf
    · cases hf
    · exact ⟨c, hc⟩
  have clo : cloFrom env.cells scope.names [] = dcCells c := by
    rw [hsc]
    show [(("many" : Str), (env.cells.lookup ("many" : Str)).getD 0)] = _
    rw [hc]
    rfl
  exact (closure_ok hfree).trans (by rw [clo])
theorem dc_relabel {scope : Scope} {env : Env} (hsc : scope.names = dcNames) (hk : env.scope.kind = .function) (hm : env.kindOf ("many" : Str) = some .cell) :
    (relabel scope env).names = [((".0" : Str), NameKind.local), (("place" : Str), NameKind.local), (("many" : Str), NameKind.cell)] := by
  show scope.names.map _ = _
  rw [hsc]
  show [(if (NameKind.local == NameKind.free && env.scope.kind == .function && env.kindOf (".0" : Str) == some .cell) = true then ((".0" : Str), NameKind.cell) else ((".0" : Str), NameKind.local)),
    (if (NameKind.local == NameKind.free && env.scope.kind == .function && env.kindOf ("place" : Str) == some .cell) = true then (("place" : Str), NameKind.cell) else (("place" : Str), NameKind.local)),
    (if (NameKind.free == NameKind.free && env.scope.kind == .function && env.kindOf ("many" : Str) == some .cell) = true then (("many" : Str), NameKind.cell) else (("many" : Str), NameKind.free))] = _
  rw [hk, hm]
  rfl
theorem nodup_fresh {K : Type} [DecidableEq K] {xs : List (K × Addr × Value)} (hn : (xs.map (·.1)).Nodup) {i : Nat} {x : K × Addr × Value} (hx : xs[i]? = some x) (u : Value) : atKey ((xs.take i).map fun p => (p.1, p.2.1, u)) x.1 = none := by
  unfold atKey
  rw [Option.map_eq_none_iff, List.find?_eq_none]
  intro y hy
  obtain ⟨z, hz, rfl⟩ := List.mem_map.mp hy
  obtain ⟨j, hj, ej⟩ := List.getElem_of_mem hz
  rw [List.length_take] at hj
  rw [List.getElem_take] at ej
  obtain ⟨hi, ei⟩ := List.getElem?_eq_some_iff.mp hx
  intro e
  have e1 : z.1 = x.1 := of_decide_eq_true e
  rw [← ej, ← ei] at e1
  have hj' : j < xs.length := by omega
  have n1 : (xs.map (·.1))[j]'(by simpa using hj') = (xs.map (·.1))[i]'(by simpa using hi) := by simpa using e1
  have n2 := (List.getElem_inj hn).mp n1
  omega
section
variable {X : Cx}
/-- j: the slot of the captured name that is the value -/
def tDcKeys (ti : TE) (j : Nat) : TE := fun σ H Q => ti σ H fun x H1 => ∃ (a : Addr) (kvs : List (List L2.Key × V)) (v : V), x = .ref a ∧ H1 a = some (.dT kvs) ∧ σ[j]? = some (some v) ∧ ∀ D, H1 D = none → Q (.ref D) (upd H1 D (.dT (kvs.map fun p => (p.1, v))))
theorem pe_dcKeys {iter : Expr} {ti : TE} {j : Nat} {scope : Scope} {p1 p2 p3 pos : Pos} (hc : X.calm = true) (hi : PE X iter ti) (hN : X.N[j]? = some ("many" : Str)) (hm : X.env.kindOf ("many" : Str) = some .cell) (hu : X.A.units < cLine)
    (hk : scope.kind = .function) (hsc : scope.names = dcNames) (hs : ∀ x, foldedSetIterable iter X.env x = pure x := by intro _; rfl) :
    PE X (.DictComp (.Name ("place" : Str) p1) (.Name ("many" : Str) p2) [⟨.Name ("place" : Str) p3, iter, [], 0⟩] scope pos) (tDcKeys ti j) := by
  refine ⟨fun pins s σ H Q I h => ?_⟩
  obtain ⟨cm, hcm⟩ := I.ok.has ("many" : Str) (.inl hm)
  have rel := dc_relabel hsc I.ok.kind hm
  refine DictComp_goes (cl := dcCells cm) (dc_closure hsc hcm) (by rw [hsc]; simp [dcNames]) hk (by rw [hsc]; unfold dcNames; decide) (thn (hi.run pins s σ H _ I h) fun v s1 ⟨x, H1, I1, r1, a, kvs, vv, ex, ha, hv, q⟩ => ?_) hs
  subst ex
  cases r1
  -- the value's cell
  obtain ⟨m0, _, hloc⟩ := id I1.loc
  obtain ⟨u, ru, look⟩ := hloc j _ vv hN hv (.inr (.inl hm))
  have hcell : s1.heap.IsCell cm (some u) := by
    rcases look with ⟨k1, _⟩ | ⟨_, c, e, z⟩
    · rw [hm] at k1
      cases k1
    · rw [hcm] at e
      cases e
      exact z
  obtain ⟨zl, hsys, xs, krel, dd⟩ := dt_of I1.hok ha
  obtain ⟨ob, es, ep, ho, hex, hdat, hes, his, hnd⟩ := id dd
  have hlen : es.size = xs.length := by
    have := congrArg List.length hes
    simpa using this
  refine wpAny_pyIter_dict_raw hsys ⟨ob, ho, hex, hdat⟩ ?_
  have adIt : a ≠ s1.heap.objs.size := Nat.ne_of_lt (Heap.lt_size ho)
  refine ⟨s1.heap.objs.size, _, _, _, _, _, rfl, Goes.rawKeys (I.ok.hd hc) s1.heap.objs.size a adIt es ep, ⟨⟨_, Heap.get?_push_size _ rfl, rfl, rfl⟩, ob, Heap.get?_push_of_some _ ho, hex, hdat⟩, fun D C s3 B hD3 => ?_⟩
  have nD : s1.heap.objs.size < D := by
    have := B.newD
    rw [Heap.size_push] at this
    omega
  have nC : s1.heap.objs.size < C := by
    have := B.newC
    rw [Heap.size_push] at this
    omega
  have old3 : ∀ b o, s1.heap.get? b = some o → s3.heap.get? b = some o := fun b o e => B.old b o (Heap.get?_push_of_some _ e)
  have low : ∀ b o, s1.heap.get? b = some o → b < s1.heap.objs.size := fun b o e => Heap.lt_size e
  have kfun : (compEnvC scope (dcCells cm) C X.env).scope.kind = .function := hk
  have kplace : (compEnvC scope (dcCells cm) C X.env).kindOf ("place" : Str) = some .local := by
    show (relabel scope X.env).names.lookup ("place" : Str) = _
    rw [rel]
    rfl
  have kmany : (compEnvC scope (dcCells cm) C X.env).kindOf ("many" : Str) = some .cell := by
    show (relabel scope X.env).names.lookup ("many" : Str) = _
    rw [rel]
    rfl
  have cmany : (compEnvC scope (dcCells cm) C X.env).cells.lookup ("many" : Str) = some cm := rfl
  refine ⟨fun i s' => ∃ (h : Heap) (tk : Nat), s' = { s1 with heap := h, toks := tk } ∧ (∀ b o, s1.heap.get? b = some o → h.get? b = some o) ∧ (∃ m, h.Ns C m) ∧
    h.DictOfH (tupleKind (mixKind X.prog X.w)) D ((xs.take i).map fun p => (p.1, p.2.1, u)), ?_, ?_, ?_, ?_⟩
  · obtain ⟨h, tk, e⟩ := B.only
    subst e
    exact ⟨h, tk, rfl, old3, ⟨_, B.names⟩, _, #[], 0, hD3, ⟨rfl, rfl, rfl⟩, rfl, rfl, (fun x hx => nomatch hx), List.nodup_nil⟩
  · rintro i s' h' tk' ⟨h, tk, rfl, old, ⟨m, hns⟩, d'⟩ kept _
    have out : ∀ b, b ≠ s1.heap.objs.size → b ∉ [s1.heap.objs.size] := fun b hb hm => hb (by simpa using hm)
    obtain ⟨o', es', ep', e1, e2, e3, e4, e5, e6⟩ := d'
    refine ⟨h', tk', rfl, fun b o e => kept b o (out b (Nat.ne_of_lt (low b o e))) (old b o e), ⟨m, ?_⟩, o', es', ep', kept D o' (out D (Nat.ne_of_gt nD)) e1, e2, e3, e4, fun x hx => ?_, e6⟩
    · obtain ⟨oc, ec, pc, f1, f2⟩ := hns
      exact ⟨oc, ec, pc, kept C oc (out C (Nat.ne_of_gt nC)) f1, f2⟩
    · obtain ⟨y, hy, rfl⟩ := List.mem_map.mp hx
      obtain ⟨ok, ik, nk, k1, k2, k3, k4⟩ := his y (List.mem_of_mem_take hy)
      exact ⟨ok, ik, nk, kept _ _ (out _ (Nat.ne_of_lt (low _ _ k1))) (old _ _ k1), k2, k3, k4⟩
  · rintro i v s' hi ⟨hi', ev⟩ st ⟨h, tk, rfl, old, ⟨m, hns⟩, d'⟩
    have hix : i < xs.length := by omega
    have exi : xs[i]? = some xs[i] := List.getElem?_eq_getElem hix
    have ek : v = .ref xs[i].2.1 := by
      rw [ev]
      have e0 : es[i] = entryOfKey (tupleKind (mixKind X.prog X.w)) xs[i] := by
        have e1 : es.toList[i]? = (xs.map (entryOfKey (tupleKind (mixKind X.prog X.w))))[i]? := by rw [hes]
        rw [List.getElem?_map, exi, Array.getElem?_toList, Array.getElem?_eq_getElem hi'] at e1
        exact Option.some.inj e1
      rw [e0]
      rfl
    subst ek
    refine wpAny_assign_Name (wpAny_storeName_local (m := m) kplace hns (fun h1 ns1 sb1 => ?_) (by
      show ((compEnvC scope (dcCells cm) C X.env).scope.kind == .class || _) = false
      rw [kfun]
      rfl))
    have old1 : ∀ b o, s1.heap.get? b = some o → h1.get? b = some o := fun b o e => (sb1.2 b (Nat.ne_of_lt (Nat.lt_trans (low b o e) nC))).trans (old b o e)
    refine wpAny_tests_nil ?_
    rw [if_pos rfl]
    refine wpAny_Name (wpAny_loadName_local (v := .ref xs[i].2.1) kfun kplace ns1 (by simp) ?_) rfl
    refine wpAny_Name (wpAny_loadName_cell kfun kmany cmany (v := u) ?_ ?_) rfl
    · obtain ⟨oc, f1, f2⟩ := hcell
      exact ⟨oc, old1 _ _ f1, f2⟩
    · have d1 : h1.DictOfH (tupleKind (mixKind X.prog X.w)) D ((xs.take i).map fun p => (p.1, p.2.1, u)) := by
        obtain ⟨o', es', ep', e1, e2, e3, e4, e5, e6⟩ := d'
        refine ⟨o', es', ep', (sb1.2 D B.ne).trans e1, e2, e3, e4, fun x hx => ?_, e6⟩
        obtain ⟨y, hy, rfl⟩ := List.mem_map.mp hx
        obtain ⟨ok, ik, nk, k1, k2, k3, k4⟩ := his y (List.mem_of_mem_take hy)
        exact ⟨ok, ik, nk, old1 _ _ k1, k2, k3, k4⟩
      have key : (tupleKind (mixKind X.prog X.w)).is h1 xs[i].1 xs[i].2.1 := by
        obtain ⟨ok, ik, nk, k1, k2, k3, k4⟩ := his xs[i] (List.getElem_mem hix)
        exact ⟨ok, ik, nk, old1 _ _ k1, k2, k3, k4⟩
      refine wpAny_dictSet_heap (hsz := by rw [List.length_map, List.length_take, sizeLine_eq]; have := krel.length; rw [sizeLine_eq] at zl; omega) hu key d1 fun h2 d2 sb2 => ⟨⟨h2, _, rfl, fun b o e => (sb2.2 b (Nat.ne_of_lt (Nat.lt_trans (low b o e) nD))).trans (old1 b o e), ⟨_, ns1.sameBut sb2 (Ne.symm B.ne)⟩, ?_⟩, ?_⟩
      · rw [storedH_new (nodup_fresh hnd exi u)] at d2
        rw [List.take_add_one, exi, List.map_append]
        exact d2
      · obtain ⟨⟨oi, f1, f2⟩, od, g1, g2⟩ := st
        exact ⟨⟨oi, (sb2.2 _ (Nat.ne_of_lt nD)).trans ((sb1.2 _ (Nat.ne_of_lt nC)).trans f1), f2⟩, od,
          (sb2.2 _ (Nat.ne_of_lt (Nat.lt_trans (low _ _ ho) nD))).trans ((sb1.2 _ (Nat.ne_of_lt (Nat.lt_trans (low _ _ ho) nC))).trans g1), g2⟩
  · rintro s' ⟨h, tk, rfl, old, ⟨m, hns⟩, d'⟩
    refine ⟨m, hns, fun h' sb => ?_⟩
    have hall : xs.take es.size = xs := by rw [hlen, List.take_length]
    rw [hall] at d'
    have hDn : H1 D = none := I1.hok.fresh (Nat.le_of_lt nD)
    obtain ⟨o', es', ep', e1, e2, e3, e4, e5, e6⟩ := d'
    refine ⟨.ref D, _, I1.laid (a := D) (o := .dT (kvs.map fun p => (p.1, vv))) (t' := tk) (fun b o e => (sb.2 b (Nat.ne_of_lt (Nat.lt_trans (low b o e) nC))).trans (old b o e)) (Nat.le_of_lt nD) ⟨by rw [List.length_map]; exact zl, ?_, xs.map (fun p => (p.1, p.2.1, u)), ?_, o', es', ep', (sb.2 D B.ne).trans e1, e2, e3, e4, e6⟩, rfl, q D hDn⟩
    · refine beq_eq_false_iff_ne.mpr (Nat.ne_of_gt (Nat.lt_trans I1.big nD))
    · have go : ∀ {l : List (List L2.Key × V)} {l2 : List (List L2.Key × Addr × Value)}, KT H1 l l2 → Paired (fun (p : List L2.Key × V) (q : List L2.Key × Addr × Value) => p.1 = q.1 ∧ (upd H1 D (.dT (kvs.map fun p => (p.1, vv)))) q.2.1 = some (.tup (p.1.map kV)) ∧ RelV p.2 q.2.2) (l.map fun p => (p.1, vv)) (l2.map fun p => (p.1, p.2.1, u)) := by
        intro l l2 r
        induction r with
        | nil => exact .nil
        | cons hq t ih =>
          refine .cons ⟨hq.1, ?_, ru⟩ ih
          rw [upd_ne (ne_of_none hq.2.1 hDn)]
          exact hq.2.1
      exact go krel
end
end K08
namespace K08
open PySem PySem.Spec PyProof.Rows L2
open Evl (Ex)
/-! ### what is kept -/
/-- tuples are kept -/
def Kp (H H' : Hp) : Prop := ∀ a xs, Rd H a (.tup xs) → Rd H' a (.tup xs)
theorem Kp.refl (H : Hp) : Kp H H := fun _ _ h => h
theorem Kp.trans {H H1 H2 : Hp} (a : Kp H H1) (b : Kp H1 H2) : Kp H H2 := fun x xs h => b x xs (a x xs h)
theorem Kp.ex {H H' : Hp} (e : Ex H H') : Kp H H' := fun _ _ h => Evl.ex_rd e h
theorem Kp.wr {H : Hp} {p : Addr} {o u : HO} (h : H p = some o) (n1 : ∀ xs, o ≠ .tup xs) (n2 : ∀ ob xs, o ≠ .frz ob (.tup xs)) : Kp H (upd H p u) := fun a xs r => by
  have ne : a ≠ p := by
    intro e
    subst e
    rcases r with r | ⟨ob, r⟩
    · rw [h] at r
      exact n1 xs (Option.some.inj r)
    · rw [h] at r
      exact n2 ob xs (Option.some.inj r)
  rcases r with r | ⟨ob, r⟩
  · exact .inl (by rw [upd_ne ne]; exact r)
  · exact .inr ⟨ob, by rw [upd_ne ne]; exact r⟩
theorem Kp.lst {H : Hp} {p : Addr} {xs : List V} {u : HO} (h : H p = some (.lst xs)) : Kp H (upd H p u) := Kp.wr h (fun _ e => nomatch e) (fun _ _ e => nomatch e)
theorem Kp.sq {K : PySem.W.Frag} {H H' : Hp} {a : Addr} {xs : List V} (k : Kp H H') (h : SqT K H a xs) : SqT K H' a xs := by
  rcases h with h | h
  · exact .inl (k _ _ h)
  · exact .inr h
/-- all but D is kept -/
def Eb (D : Addr) (H H' : Hp) : Prop := ∀ a o, a ≠ D → H a = some o → H' a = some o
theorem Eb.refl (D : Addr) (H : Hp) : Eb D H H := fun _ _ _ h => h
theorem Eb.trans {D : Addr} {H H1 H2 : Hp} (a : Eb D H H1) (b : Eb D H1 H2) : Eb D H H2 := fun x o n h => b x o n (a x o n h)
theorem Eb.ex {D : Addr} {H H' : Hp} (e : Ex H H') : Eb D H H' := fun a o _ h => e a o h
theorem Eb.wr {D : Addr} {H : Hp} {u : HO} : Eb D H (upd H D u) := fun a o n h => by rw [upd_ne n]; exact h
/-- tuples are kept, and all but D -/
def Kd (D : Addr) (H H' : Hp) : Prop := Eb D H H' ∧ Kp H H'
theorem Kd.refl (D : Addr) (H : Hp) : Kd D H H := ⟨Eb.refl D H, Kp.refl H⟩
theorem Kd.trans {D : Addr} {H H1 H2 : Hp} (a : Kd D H H1) (b : Kd D H1 H2) : Kd D H H2 := ⟨a.1.trans b.1, a.2.trans b.2⟩
theorem Kd.ex {D : Addr} {H H' : Hp} (e : Ex H H') : Kd D H H' := ⟨Eb.ex e, Kp.ex e⟩
theorem Kd.app {D : Addr} {H : Hp} {xs ys : List V} (h : H D = some (.lst xs)) : Kd D H (upd H D (.lst ys)) := ⟨Eb.wr, Kp.lst h⟩
/-! ### values told up to data -/
abbrev VP := Hp → V → Prop
/-- it leans on tuples alone -/
def Mo (P : VP) : Prop := ∀ H H' v, Kp H H' → P H v → P H' v
/-- ys are n things, the i-th is a P i -/
def ItsP (ys : List V) (n : Nat) (P : Nat → VP) (H : Hp) : Prop := ys.length = n ∧ ∀ i u, ys[i]? = some u → P i H u
theorem ItsP.get {ys : List V} {n : Nat} {P : Nat → VP} {H : Hp} (h : ItsP ys n P H) {i : Nat} (hi : i < n) : ∃ u, ys[i]? = some u ∧ P i H u := by
  have hl : i < ys.length := by rw [h.1]; exact hi
  exact ⟨ys[i], List.getElem?_eq_getElem hl, h.2 i _ (List.getElem?_eq_getElem hl)⟩
theorem ItsP.mono {ys : List V} {n : Nat} {P Q : Nat → VP} {H H' : Hp} (h : ItsP ys n P H) (f : ∀ i u, i < n → P i H u → Q i H' u) : ItsP ys n Q H' :=
  ⟨h.1, fun i u e => f i u (by rw [← h.1]; exact (List.getElem?_eq_some_iff.mp e).1) (h.2 i u e)⟩
theorem ItsP.nil {P : Nat → VP} {H : Hp} : ItsP [] 0 P H := ⟨rfl, fun i u e => by simp at e⟩
theorem ItsP.snoc {ys : List V} {n : Nat} {P : Nat → VP} {H : Hp} {y : V} (h : ItsP ys n P H) (hy : P n H y) : ItsP (ys ++ [y]) (n + 1) P H := by
  refine ⟨by rw [List.length_append, h.1]; rfl, fun i u e => ?_⟩
  by_cases hi : i < ys.length
  · rw [List.getElem?_append_left hi] at e
    exact h.2 i u e
  · rw [List.getElem?_append_right (by omega)] at e
    have h0 : i - ys.length = 0 := by
      rcases Nat.eq_zero_or_pos (i - ys.length) with z | z
      · exact z
      · rw [List.getElem?_eq_none (by rw [List.length_singleton]; exact z)] at e
        cases e
    rw [h0] at e
    have e1 : y = u := Option.some.inj e
    have e2 : i = n := by rw [← h.1]; omega
    rw [← e1, e2]
    exact hy
theorem ItsP.take {ys : List V} {n : Nat} {P : Nat → VP} {H : Hp} (h : ItsP ys n P H) {k : Nat} (hk : k ≤ n) : ItsP (ys.take k) k P H := by
  refine ⟨by rw [List.length_take, h.1]; omega, fun i u e => ?_⟩
  have hi : i < k := by
    have := (List.getElem?_eq_some_iff.mp e).1
    rw [List.length_take] at this
    omega
  rw [List.getElem?_take_of_lt hi] at e
  exact h.2 i u e
theorem ItsP.drop {ys : List V} {n : Nat} {P : Nat → VP} {H : Hp} (h : ItsP ys n P H) (k : Nat) : ItsP (ys.drop k) (n - k) (fun i => P (k + i)) H := by
  refine ⟨by rw [List.length_drop, h.1], fun i u e => ?_⟩
  rw [List.getElem?_drop] at e
  exact h.2 (k + i) u e
theorem ItsP.append {ys zs : List V} {n m : Nat} {P Q : Nat → VP} {H : Hp} (h : ItsP ys n P H) (h2 : ItsP zs m Q H) : ItsP (ys ++ zs) (n + m) (fun i => if i < n then P i else Q (i - n)) H := by
  refine ⟨by rw [List.length_append, h.1, h2.1], fun i u e => ?_⟩
  by_cases hi : i < n
  · rw [List.getElem?_append_left (by rw [h.1]; exact hi)] at e
    show (if i < n then P i else Q (i - n)) H u
    rw [if_pos hi]
    exact h.2 i u e
  · rw [List.getElem?_append_right (by rw [h.1]; omega), h.1] at e
    show (if i < n then P i else Q (i - n)) H u
    rw [if_neg hi]
    exact h2.2 _ u e
theorem ItsP.rev {ys : List V} {n : Nat} {P : Nat → VP} {H : Hp} (h : ItsP ys n P H) : ItsP ys.reverse n (fun i => P (n - 1 - i)) H := by
  refine ⟨by rw [List.length_reverse, h.1], fun i u e => ?_⟩
  have hi : i < ys.length := by
    have := (List.getElem?_eq_some_iff.mp e).1
    rw [List.length_reverse] at this
    exact this
  rw [List.getElem?_reverse hi, h.1] at e
  exact h.2 _ u e
/-- a tuple of n things, a list of n things -/
def TpP (K : PySem.W.Frag) (n : Nat) (P : Nat → VP) : VP := fun H v => ∃ p ys, v = .ref p ∧ SqT K H p ys ∧ ItsP ys n P H
def LsP (n : Nat) (P : Nat → VP) : VP := fun H v => ∃ p ys, v = .ref p ∧ H p = some (.lst ys) ∧ ItsP ys n P H
theorem TpP.mo {K : PySem.W.Frag} {n : Nat} {P : Nat → VP} (h : ∀ i, Mo (P i)) : Mo (TpP K n P) := fun H H' v k ⟨p, ys, e, s, its⟩ => ⟨p, ys, e, k.sq s, its.mono fun i u _ q => h i H H' u k q⟩
theorem TpP.imp {K : PySem.W.Frag} {n : Nat} {P Q : Nat → VP} {H : Hp} {v : V} (x : TpP K n P H v) (h : ∀ i u, i < n → P i H u → Q i H u) : TpP K n Q H v := let ⟨p, ys, e, s, its⟩ := x; ⟨p, ys, e, s, its.mono h⟩
theorem LsP.imp {n : Nat} {P Q : Nat → VP} {H : Hp} {v : V} (x : LsP n P H v) (h : ∀ i u, i < n → P i H u → Q i H u) : LsP n Q H v := let ⟨p, ys, e, s, its⟩ := x; ⟨p, ys, e, s, its.mono h⟩
theorem LsP.ex {n : Nat} {P : Nat → VP} {H H' : Hp} {v : V} (h : ∀ i, Mo (P i)) (e : Ex H H') (x : LsP n P H v) : LsP n P H' v := let ⟨p, ys, ev, s, its⟩ := x; ⟨p, ys, ev, e p _ s, its.mono fun i u _ q => h i H H' u (Kp.ex e) q⟩
/-! ### comprehensions -/
/-- [elt for target in source]: what each turn gives is a P i -/
theorem lcP {J : It} {n : Nat} {Y : Nat → Hp → V → Hp → Prop} {g : TG} {te : TE} {vs : List Nat} {σ : L2.St} {H1 : Hp} {D : Addr} {Qd : Hp → Prop} (P : Nat → VP) (w : Walk J n (Ex H1) Y) (hD : H1 D = none) (hn : n ≤ 100000)
    (hP : ∀ i H H' v, Kd D H H' → P i H v → P i H' v)
    (hs : ∀ i x H' H'', i < n → Ex H1 H' → Y i H' x H'' → Ex H' H'' ∧ ∀ Q1 : VK, (∀ y H4, Ex H' H4 → P i H4 y → Q1 y H4) → g x (wipe σ vs) H'' fun σ2 H2 => wipe σ2 vs = wipe σ vs ∧ te σ2 H2 Q1)
    (hd : ∀ H' ys, Ex H1 H' → H' D = some (.lst ys) → ItsP ys n P H' → Qd H') (mono : ∀ x σ' H Q Q', (∀ σ2 H2, Q σ2 H2 → Q' σ2 H2) → g x σ' H Q → g x σ' H Q') :
    ∃ W : Nat → Nat → Hp → Prop, (∃ m, W 0 m (upd H1 D (.lst []))) ∧ ∀ i m H, W i m H →
      (J.stop i H ∧ Qd H) ∨ (J.go i H ∧ ∃ Nx : Hp → Prop, (∀ H', Nx H' → ∃ m', m' < m ∧ W (i + 1) m' H') ∧ ∀ x H', J.yld i H x H' → g x (wipe σ vs) H' fun σ2 H2 => wipe σ2 vs = wipe σ vs ∧ tYes σ2 H2 fun b H3 =>
        if b = true then te σ2 H3 fun y H4 => ∃ acc, H4 D = some (.lst acc) ∧ acc.length < sizeLine ∧ Nx (upd H4 D (.lst (acc ++ [y]))) else Nx H3) := by
  refine lc_it w (fun i H => Ex H1 H ∧ ∃ ys, H D = some (.lst ys) ∧ ItsP ys i P H) ⟨Ex.new hD, [], upd_same, .nil⟩ (fun i H _ p => p.1) ?_ fun H ⟨e, ys, h1, h2⟩ => hd H ys e h1 h2
  rintro i x H H' hi ⟨e, ys, h1, h2⟩ y
  obtain ⟨e1, turn⟩ := hs i x H H' hi e y
  refine mono _ _ _ _ _ (fun σ2 H2 q => ⟨q.1, ?_⟩) (turn (fun y H4 => ∃ acc, H4 D = some (.lst acc) ∧ acc.length < sizeLine ∧ (Ex H1 (upd H4 D (.lst (acc ++ [y]))) ∧ ∃ ys, upd H4 D (.lst (acc ++ [y])) D = some (.lst ys) ∧ ItsP ys (i + 1) P (upd H4 D (.lst (acc ++ [y]))))) ?_)
  · simp only [tYes, if_true]
    exact q.2
  · intro y H4 e4 py
    have hD4 : H4 D = some (.lst ys) := e4 D _ h1
    refine ⟨ys, hD4, by rw [h2.1, sizeLine_eq]; omega, Ex.mut (e.trans e4) hD, ys ++ [y], upd_same, ?_⟩
    exact (h2.mono (fun j u _ q => hP j _ _ u ((Kd.ex e4).trans (Kd.app hD4)) q)).snoc (hP i _ _ y (Kd.app hD4) py)
theorem gName_mono {j : Nat} (x : V) (σ' : L2.St) (H : Hp) (Q Q' : L2.St → Hp → Prop) (h : ∀ σ2 H2, Q σ2 H2 → Q' σ2 H2) (q : gName j x σ' H Q) : gName j x σ' H Q' := h _ _ q
/-- [elt for a in source for b in source1], m turns of the second source in each turn of the first -/
theorem lc2P {J : It} {n : Nat} {T : Nat → V → Prop} {wi1 : TI} {j0 j1 : Nat} {te : TE} {vs vs1 : List Nat} {σ : L2.St} {H1 : Hp} {D : Addr} {Qd : Hp → Prop} (m : Nat) (P : Nat → VP) (w : Walk J n (Ex H1) (fun i H x H' => H' = H ∧ T i x)) (hD : H1 D = none)
    (hnm : n * m ≤ 100000) (hP : ∀ i H H' v, Kd D H H' → P i H v → P i H' v) (hw0 : ∀ x, wipe ((wipe σ vs).set j0 (some x)) vs = wipe σ vs)
    (hw1 : ∀ x x', wipe ((wipe ((wipe σ vs).set j0 (some x)) vs1).set j1 (some x')) vs1 = wipe ((wipe σ vs).set j0 (some x)) vs1)
    (hs : ∀ i x H', i < n → T i x → Ex H1 H' → ∀ R : It → Hp → Prop, (∀ (J1 : It) (H4 : Hp) (Y1 : Nat → V → Prop), Ex H' H4 → Walk J1 m (fun H5 => Kd D H4 H5 ∧ Ex H1 H5) (fun j H x H' => H' = H ∧ Y1 j x) →
      (∀ j x' H5, j < m → Y1 j x' → Kd D H4 H5 → Ex H1 H5 → ∀ Q1 : VK, (∀ y H7, Ex H5 H7 → P (i * m + j) H7 y → Q1 y H7) → te ((wipe ((wipe σ vs).set j0 (some x)) vs1).set j1 (some x')) H5 Q1) → R J1 H4) → wi1 ((wipe σ vs).set j0 (some x)) H' R)
    (hd : ∀ H' ys, Ex H1 H' → H' D = some (.lst ys) → ItsP ys (n * m) P H' → Qd H') :
    ∃ W : Nat → Nat → Hp → Prop, (∃ m, W 0 m (upd H1 D (.lst []))) ∧ ∀ i m H, W i m H →
      (J.stop i H ∧ Qd H) ∨ (J.go i H ∧ ∃ Nx : Hp → Prop, (∀ H', Nx H' → ∃ m', m' < m ∧ W (i + 1) m' H') ∧ ∀ x H', J.yld i H x H' → gName j0 x (wipe σ vs) H' fun σ2 H2 => wipe σ2 vs = wipe σ vs ∧ tYes σ2 H2 fun b H3 =>
        if b = true then wi1 σ2 H3 fun J1 H4 => ∃ W1 : Nat → Nat → Hp → Prop, (∃ m, W1 0 m H4) ∧ ∀ j k H, W1 j k H →
          (J1.stop j H ∧ Nx H) ∨ (J1.go j H ∧ ∃ Nx1 : Hp → Prop, (∀ H', Nx1 H' → ∃ k', k' < k ∧ W1 (j + 1) k' H') ∧ ∀ x H', J1.yld j H x H' → gName j1 x (wipe σ2 vs1) H' fun σ3 H5 => wipe σ3 vs1 = wipe σ2 vs1 ∧ tYes σ3 H5 fun b H6 =>
            if b = true then te σ3 H6 fun y H7 => ∃ acc, H7 D = some (.lst acc) ∧ acc.length < sizeLine ∧ Nx1 (upd H7 D (.lst (acc ++ [y]))) else Nx1 H6)
        else Nx H3) := by
  refine ⟨fun i k H => k = n - i ∧ i ≤ n ∧ Ex H1 H ∧ ∃ ys, H D = some (.lst ys) ∧ ItsP ys (i * m) P H, ⟨n, by simp, Nat.zero_le _, Ex.new hD, [], upd_same, by rw [Nat.zero_mul]; exact .nil⟩, ?_⟩
  rintro i k H ⟨rfl, hi, e, ys, h1, h2⟩
  by_cases hlt : i < n
  · refine .inr ⟨w.goes i H hlt e, fun H' => i + 1 ≤ n ∧ Ex H1 H' ∧ ∃ ys, H' D = some (.lst ys) ∧ ItsP ys ((i + 1) * m) P H', fun H' q => ⟨n - (i + 1), by omega, rfl, q⟩, fun x H' y => ?_⟩
    obtain ⟨rfl, tx⟩ := w.yields i H x H' hlt e y
    refine ⟨hw0 x, ?_⟩
    simp only [tYes, if_true]
    refine hs i x H' hlt tx e _ fun J1 H4 Y1 e4 w1 turn => ?_
    refine ⟨fun j k H => k = m - j ∧ j ≤ m ∧ Kd D H4 H ∧ Ex H1 H ∧ ∃ ys, H D = some (.lst ys) ∧ ItsP ys (i * m + j) P H,
      ⟨m, by simp, Nat.zero_le _, Kd.refl _ _, e.trans e4, ys, e4 D _ h1, h2.mono fun a u _ q => hP a _ _ u (Kd.ex e4) q⟩, ?_⟩
    rintro j k H5 ⟨rfl, hj, kd, ex, zs, z1, z2⟩
    by_cases hlj : j < m
    · refine .inr ⟨w1.goes j H5 hlj ⟨kd, ex⟩, fun H' => j + 1 ≤ m ∧ Kd D H4 H' ∧ Ex H1 H' ∧ ∃ ys, H' D = some (.lst ys) ∧ ItsP ys (i * m + (j + 1)) P H', fun H' q => ⟨m - (j + 1), by omega, rfl, q⟩, fun x' H6 y' => ?_⟩
      obtain ⟨rfl, tx'⟩ := w1.yields j H5 x' H6 hlj ⟨kd, ex⟩ y'
      refine ⟨hw1 x x', ?_⟩
      simp only [if_true]
      refine turn j x' H6 hlj tx' kd ex _ fun y H7 e7 py => ?_
      have hD7 : H7 D = some (.lst zs) := e7 D _ z1
      have small : i * m + m ≤ n * m := by
        rw [← Nat.succ_mul]
        exact Nat.mul_le_mul_right m hlt
      refine ⟨zs, hD7, by rw [z2.1, sizeLine_eq]; omega, hlj, kd.trans ((Kd.ex e7).trans (Kd.app hD7)), Ex.mut (ex.trans e7) hD, zs ++ [y], upd_same, ?_⟩
      exact (z2.mono (fun a u _ q => hP a _ _ u ((Kd.ex e7).trans (Kd.app hD7)) q)).snoc (hP _ _ _ y (Kd.app hD7) py)
    · have ej : j = m := by omega
      subst ej
      refine .inl ⟨w1.stops H5 ⟨kd, ex⟩, hlt, ex, zs, z1, ?_⟩
      rw [Nat.succ_mul]
      exact z2
  · have ei : i = n := by omega
    subst ei
    exact .inl ⟨w.stops H e, hd H ys e h1 h2⟩
end K08
namespace K08
open PySem PySem.Spec PyProof.Rows L2
open Evl (Ex)
/-! ### the text by places -/
def topS (i : Nat) : Stmt := PySem.Challenge.pw_paintyard_k08_whole_turns_come_back.main.body.getD i (.Pass ⟨0, 0, 0, 0⟩)
abbrev sIsWhole : Stmt := topS 7
abbrev sIsPart : Stmt := topS 8
abbrev sIsColour : Stmt := topS 9
abbrev sRounded : Stmt := topS 10
abbrev sMean : Stmt := topS 11
abbrev sIsSize : Stmt := topS 14
abbrev sIsLot : Stmt := topS 15
abbrev sIsPicture : Stmt := topS 16
abbrev sRowsOf : Stmt := topS 17
abbrev sOfRows : Stmt := topS 18
abbrev sIsIn : Stmt := topS 19
abbrev sCellAt : Stmt := topS 20
abbrev sCutOut : Stmt := topS 21
abbrev sTurned : Stmt := topS 22
abbrev sMirrored : Stmt := topS 23
abbrev sSmall : Stmt := topS 24
abbrev sBeside : Stmt := topS 25
abbrev sStacked : Stmt := topS 26
abbrev sGrown : Stmt := topS 27
abbrev sShrunk : Stmt := topS 28
abbrev sSized : Stmt := topS 29
abbrev sAreaFrom : Stmt := topS 31
abbrev sAreas : Stmt := topS 32
abbrev sDraw : Stmt := topS 35
abbrev sPick : Stmt := topS 36
abbrev sDrawnColour : Stmt := topS 37
abbrev sDrawnPicture : Stmt := topS 38
abbrev sCleared : Stmt := topS 39
abbrev sThrice : Stmt := topS 40
abbrev sPair : Stmt := topS 41
abbrev sLaw : Stmt := topS 42
/-! ### defs of the text, callees -/
def DefAt (K : PySem.W.Frag) (mg : Str → Option Value) (x : Str) (st : Stmt) : Prop := ∃ f fd, Fun K x x st f fd ∧ mg x = some (.ref f)
structure Cal (P : Program) (w : World) (K : PySem.W.Frag) (mg : Str → Option Value) (base : Heap) (k : Nat) (x : Str) (ps : List Str) (sp : Sp) : Prop where
  ex : ∃ f fd, FnOk P w K mg base CX0 k f fd ps sp ∧ mg x = some (.ref f) ∧ PySem.W.keepIn K (.ref f) = true ∧ Binds K fd ps []
section
variable {P : Program} {w : World} {K : PySem.W.Frag} {mg : Str → Option Value} {base : Heap}
theorem cal_of {x : Str} {st : Stmt} {N ps : List Str} {k : Nat} {sp : Sp} (D : DefAt K mg x st) (S : FnScope N ps (defScope st))
    (bnd : ∀ (kV doc pm : Value) (an : Option Addr) (cdv ct : Value) (us : List Value), us.length = ps.length → bindArgs (PySem.W.fnOf x x (defArgs st) (defBody st) (defScope st) .none kV doc pm an cdv ct) ⟨us, []⟩ = pure (ps.zip us))
    (len : ∀ vs H Q E, sp vs H Q E → vs.length = ps.length)
    (hbody : ∀ (f : Addr) (cdv : Value) (A : Around) (outer : List Env) (s : Shared) (H : Hp) (vs : List V) (Q : VK) (E : XK), Room k (A.deeper (envOfC x (defScope st) s.heap.objs.size f cdv)) → sp vs H Q E →
      ∃ t, PSs (cxOf CX0 P w K mg base N x (defScope st) f cdv A outer s H E).nox (defBody st) t ∧ t { nx := fun _ H' => Q .non H', rt := Q } (start N vs) H) : Cal P w K mg base (k + 1) x ps sp := by
  obtain ⟨f, fd, F, m⟩ := D
  exact ⟨f, fd, F.ok S len (fun cdv A outer s H vs Q E hr h => hbody f cdv A outer s H vs Q E hr h), m, F.kp, F.binds bnd⟩
end
theorem pe_cal {X : Cx} {k : Nat} {x : Str} {ps : List Str} {sp : Sp} {e : Expr} {es : List Expr} {t : TA} {p pos : Pos} (C : Cal X.prog X.w X.K X.mg X.base k x ps sp) (hr : Room k X.A) (hg : Gl X x) (ha : PA X (e :: es) t)
    (hdb : (x == ("__debug__" : Str)) = false := by decide) (he : starEach (e :: es) X.env = (false, eval e X.env) :: starEach es X.env := by rfl) (hpl : (backTo pos (starEach es X.env)).any (·.1) = false := by rfl) :
    PE X (.Call (.Name x p) (e :: es) [] pos) (tCall sp [] E0 t) := by
  obtain ⟨f, fd, F, m, kp, b⟩ := C.ex
  exact pe_call F hr hg m kp b .nil pass0 ha hdb he hpl
/-- promises: what comes of the arguments, leaving what is known -/
def Pr (R : List V → Hp → VP → Prop) : Sp := fun vs H Q _ => ∃ T : VP, R vs H T ∧ ∀ v H', Ex H H' → T H' v → Q v H'
/-- the built-in names that the text uses are not its own -/
structure Blt (mg : Str → Option Value) : Prop where
  len : mg "len" = none
  range : mg "range" = none
  tuple : mg "tuple" = none
  isinst : mg "isinstance" = none
  int : mg "int" = none
  bool : mg "bool" = none
  zip : mg "zip" = none
  max : mg "max" = none
  sum : mg "sum" = none
  abs : mg "abs" = none
  all : mg "all" = none
/-! ### what is walked -/
theorem wk_tup {K : PySem.W.Frag} {H1 : Hp} {a : Addr} {xs : List V} (h : SqT K H1 a xs) : Walk (Itt K a) xs.length (Ex H1) (fun i H x H' => H' = H ∧ xs[i]? = some x) := walk_tup.mono (fun _ e => Evl.ex_t e h) fun _ _ _ _ _ _ y => y
theorem wk_lst {K : PySem.W.Frag} {H1 : Hp} {a : Addr} {xs : List V} (h : SqL K H1 a xs) : Walk (Itl K a) xs.length (Ex H1) (fun i H x H' => H' = H ∧ xs[i]? = some x) := walk_list.mono (fun _ e => Evl.ex_l e h) fun _ _ _ _ _ _ y => y
theorem wk_rng {H1 : Hp} {lo : Int} {n : Nat} : Walk (Itr lo n) n (Ex H1) (fun i H x H' => H' = H ∧ x = .int (lo + i)) := walk_range.mono (fun _ _ => True.intro) fun _ _ _ _ _ _ y => y
theorem wk_rngC {H1 : Hp} {lo c : Int} {n : Nat} : Walk (Itc lo c n) n (Ex H1) (fun i H x H' => H' = H ∧ x = .int (lo + (i : Nat) * c)) := walk_rangeC.mono (fun _ _ => True.intro) fun _ _ _ _ _ _ y => y
theorem wi_tup {K : PySem.W.Frag} {D : Addr} {H1 H4 : Hp} {a : Addr} {xs : List V} (h : SqT K H4 a xs) : Walk (Itt K a) xs.length (fun H5 => Kd D H4 H5 ∧ Ex H1 H5) (fun i H x H' => H' = H ∧ xs[i]? = some x) := walk_tup.mono (fun _ e => e.1.2.sq h) fun _ _ _ _ _ _ y => y
theorem wi_rng {D : Addr} {H1 H4 : Hp} {lo : Int} {n : Nat} : Walk (Itr lo n) n (fun H5 => Kd D H4 H5 ∧ Ex H1 H5) (fun i H x H' => H' = H ∧ x = .int (lo + i)) := walk_range.mono (fun _ _ => True.intro) fun _ _ _ _ _ _ y => y
theorem wi_rngC {D : Addr} {H1 H4 : Hp} {lo c : Int} {n : Nat} : Walk (Itc lo c n) n (fun H5 => Kd D H4 H5 ∧ Ex H1 H5) (fun i H x H' => H' = H ∧ x = .int (lo + (i : Nat) * c)) := walk_rangeC.mono (fun _ _ => True.intro) fun _ _ _ _ _ _ y => y
theorem ItsP.rep {ys : List V} {n : Nat} {c : V} {H : Hp} (h : ItsP ys n (fun _ _ u => u = c) H) : ys = List.replicate n c := by
  rw [← h.1]
  exact List.eq_replicate_iff.mpr ⟨rfl, fun u hu => by
    obtain ⟨i, hi, e⟩ := List.getElem_of_mem hu
    exact h.2 i u (by rw [← e]; exact List.getElem?_eq_getElem hi)⟩
theorem ItsP.maps {ys : List V} {n : Nat} {c : Nat → V} {H : Hp} (h : ItsP ys n (fun i _ u => u = c i) H) : ys = (List.range n).map c := by
  refine List.ext_getElem? fun i => ?_
  by_cases hi : i < n
  · obtain ⟨u, e1, e2⟩ := h.get hi
    rw [e1, e2, List.getElem?_map, List.getElem?_range hi]
    rfl
  · rw [List.getElem?_eq_none (by rw [h.1]; omega), List.getElem?_eq_none (by simp; omega)]
/-- what leans on tuples alone leans on no list -/
theorem Mo.kd {T : Nat → VP} (h : ∀ i, Mo (T i)) (D : Addr) : ∀ i H H' v, Kd D H H' → T i H v → T i H' v := fun i H H' v k t => h i H H' v k.2 t
theorem Mo.const (p : V → Prop) : Mo (fun _ v => p v) := fun _ _ _ _ h => h
/-! ### colours, rows, pictures -/
abbrev Col := Int × Int × Int × Int
def ColP (K : PySem.W.Frag) (c : Col) : VP := fun H v => ∃ p, v = .ref p ∧ SqT K H p [.int c.1, .int c.2.1, .int c.2.2.1, .int c.2.2.2]
theorem ColP.mo (K : PySem.W.Frag) (c : Col) : Mo (ColP K c) := fun _ _ _ k ⟨p, e, s⟩ => ⟨p, e, k.sq s⟩
abbrev RowP (K : PySem.W.Frag) (w : Nat) (g : Nat → Col) : VP := TpP K w fun x => ColP K (g x)
theorem RowP.mo (K : PySem.W.Frag) (w : Nat) (g : Nat → Col) : Mo (RowP K w g) := TpP.mo fun _ => ColP.mo K _
abbrev Pix := Nat → Nat → Col
def PicP (K : PySem.W.Frag) (w h : Nat) (f : Pix) : VP := fun H v => ∃ p q cs, v = .ref p ∧ SqT K H p [.int w, .int h, .ref q] ∧ SqT K H q cs ∧ ItsP cs (w * h) (fun i => ColP K (f (i % w) (i / w))) H
theorem PicP.mo (K : PySem.W.Frag) (w h : Nat) (f : Pix) : Mo (PicP K w h f) := fun _ _ _ k ⟨p, q, cs, e, s, s2, its⟩ => ⟨p, q, cs, e, k.sq s, k.sq s2, its.mono fun _ _ _ z => ColP.mo K _ _ _ _ k z⟩
abbrev RowsP (K : PySem.W.Frag) (w h : Nat) (f : Pix) : VP := LsP h fun y => RowP K w fun x => f x y
theorem PicP.imp {K : PySem.W.Frag} {w h : Nat} {f g : Pix} {H : Hp} {v : V} (x : PicP K w h f H v) (e : ∀ x y, x < w → y < h → f x y = g x y) : PicP K w h g H v := by
  obtain ⟨p, q, cs, e1, e2, e3, its⟩ := x
  refine ⟨p, q, cs, e1, e2, e3, its.mono fun i u hi z => ?_⟩
  have hw : 0 < w := by
    rcases Nat.eq_zero_or_pos w with z | z
    · rw [z, Nat.zero_mul] at hi
      exact absurd hi (Nat.not_lt_zero _)
    · exact z
  rw [← e (i % w) (i / w) (Nat.mod_lt _ hw) (Nat.div_lt_of_lt_mul hi)]
  exact z
theorem PicP.ex {K : PySem.W.Frag} {w h : Nat} {f : Pix} {H H' : Hp} {v : V} (x : PicP K w h f H v) (e : Ex H H') : PicP K w h f H' v := PicP.mo K w h f _ _ _ (Kp.ex e) x
theorem ix_lt {w h x y : Nat} (hx : x < w) (hy : y < h) : y * w + x < w * h := by
  have a : (y + 1) * w ≤ h * w := Nat.mul_le_mul_right w hy
  rw [Nat.succ_mul, Nat.mul_comm h w] at a
  omega
theorem ix_mod {w x y : Nat} (hx : x < w) : (y * w + x) % w = x := by
  rw [Nat.add_comm, Nat.add_mul_mod_self_right, Nat.mod_eq_of_lt hx]
theorem ix_div {w x y : Nat} (hx : x < w) : (y * w + x) / w = y := by
  rw [Nat.add_comm, Nat.add_mul_div_right _ _ (Nat.lt_of_le_of_lt (Nat.zero_le x) hx), Nat.div_eq_of_lt hx, Nat.zero_add]
end K08
namespace K08
open PySem PySem.Spec PyProof.Rows L2
open Evl (Ex)
theorem tyx_tup {K : PySem.W.Frag} {H : Hp} {a : Addr} {xs : List V} (h : SqT K H a xs) : TyX K H (.ref a) (.type "tuple") := by
  rcases h with (h | ⟨o, h⟩) | ⟨o, its, n, h, c, _⟩
  · exact .base (.tup h)
  · exact .fTuple h
  · exact .kTuple h c
section
variable {P : Program} {w : World} {K : PySem.W.Frag} {mg : Str → Option Value} {base : Heap}
/-! ### is_whole -/
def spWhole : Sp := Pr fun vs H T => ∃ n : Int, vs = [.int n] ∧ T = fun _ v => v = .bl true
theorem scWhole : FnScope ["thing"] ["thing"] (defScope sIsWhole) := ⟨rfl, rfl, rfl, by decide +kernel, rfl, by decide +kernel, by decide +kernel⟩
theorem cal_whole (D : DefAt K mg "is_whole" sIsWhole) (B : Blt mg) : Cal P w K mg base 1 "is_whole" ["thing"] spWhole := by
  refine cal_of D scWhole (fun _ _ _ _ _ _ us hl => match us, hl with | [_], _ => rfl) (fun vs H Q E h => ?_) (fun f cdv A outer s H vs Q E hr h => ?_)
  · obtain ⟨T, ⟨n, rfl, _⟩, _⟩ := h
    rfl
  · obtain ⟨T, ⟨n, rfl, rfl⟩, q⟩ := h
    refine ⟨_, pss_one (ps_ret (pe_and (pe_callB call_isi (by rfl) B.isinst boot_isinstance (pa_cons (pv 0) (pa_cons (pe_bltn (v := .ty "int") (by rfl) B.int PyProof.Rows.boot_int rfl) pa_nil)))
      (pe_one (pe_not (pe_callB call_isi (by rfl) B.isinst boot_isinstance (pa_cons (pv 0) (pa_cons (pe_bltn (v := .ty "bool") (by rfl) B.bool PyProof.Rows.boot_bool rfl) pa_nil))))))), ?_⟩
    refine ⟨_, rfl, _, _, _, _, _, rfl, .ty "int", .base (.int n), kit_ty (by decide +kernel), true, rfl, iteT ?_⟩
    exact ⟨_, rfl, _, _, _, _, _, rfl, .ty "bool", .base (.int n), kit_ty (by decide +kernel), false, rfl, q _ _ (Evl.Ex.refl H) rfl⟩
/-! ### is_part, is_size -/
def spPart : Sp := Pr fun vs H T => ∃ n : Int, vs = [.int n] ∧ 0 ≤ n ∧ n ≤ 255 ∧ T = fun _ v => v = .bl true
theorem scPart : FnScope ["thing"] ["thing"] (defScope sIsPart) := ⟨rfl, rfl, rfl, by decide +kernel, rfl, by decide +kernel, by decide +kernel⟩
theorem cal_part (D : DefAt K mg "is_part" sIsPart) (C : Cal P w K mg base 1 "is_whole" ["thing"] spWhole) : Cal P w K mg base 2 "is_part" ["thing"] spPart := by
  refine cal_of D scPart (fun _ _ _ _ _ _ us hl => match us, hl with | [_], _ => rfl) (fun vs H Q E h => ?_) (fun f cdv A outer s H vs Q E hr h => ?_)
  · obtain ⟨T, ⟨n, rfl, _⟩, _⟩ := h
    rfl
  · obtain ⟨T, ⟨n, rfl, h0, h1, rfl⟩, q⟩ := h
    refine ⟨_, pss_one (ps_ret (pe_and (pe_cal C hr (by rfl) (pa_cons (pv 0) pa_nil)) (pe_one (pe_chain op_le op_le pe_int (pv 0) pe_int)))), ?_⟩
    refine ⟨_, rfl, _, ⟨n, rfl, rfl⟩, fun v H' e z => ⟨true, z, iteT ?_⟩⟩
    refine ⟨_, rfl, 0, n, rfl, rfl, _, rfl, ?_⟩
    rw [decide_eq_true h0]
    refine iteT ⟨n, 255, rfl, rfl, ?_⟩
    exact q _ _ e (congrArg V.bl (decide_eq_true h1))
def spSize : Sp := Pr fun vs H T => ∃ n : Int, vs = [.int n] ∧ 1 ≤ n ∧ n ≤ 99 ∧ T = fun _ v => v = .bl true
theorem scSize : FnScope ["thing"] ["thing"] (defScope sIsSize) := ⟨rfl, rfl, rfl, by decide +kernel, rfl, by decide +kernel, by decide +kernel⟩
theorem cal_size (D : DefAt K mg "is_size" sIsSize) (mm : ∃ t, mg "MOST" = some (.int 99 t)) (C : Cal P w K mg base 1 "is_whole" ["thing"] spWhole) : Cal P w K mg base 2 "is_size" ["thing"] spSize := by
  obtain ⟨tm, mm⟩ := mm
  refine cal_of D scSize (fun _ _ _ _ _ _ us hl => match us, hl with | [_], _ => rfl) (fun vs H Q E h => ?_) (fun f cdv A outer s H vs Q E hr h => ?_)
  · obtain ⟨T, ⟨n, rfl, _⟩, _⟩ := h
    rfl
  · obtain ⟨T, ⟨n, rfl, h0, h1, rfl⟩, q⟩ := h
    refine ⟨_, pss_one (ps_ret (pe_and (pe_cal C hr (by rfl) (pa_cons (pv 0) pa_nil)) (pe_one (pe_chain op_le op_le pe_int (pv 0) (pe_glob (v := .int 99) (by rfl) mm ⟨_, rfl⟩))))), ?_⟩
    refine ⟨_, rfl, _, ⟨n, rfl, rfl⟩, fun v H' e z => ⟨true, z, iteT ?_⟩⟩
    refine ⟨_, rfl, 1, n, rfl, rfl, _, rfl, ?_⟩
    rw [decide_eq_true h0]
    refine iteT ⟨n, 99, rfl, rfl, ?_⟩
    exact q _ _ e (congrArg V.bl (decide_eq_true h1))
/-! ### is_colour -/
def OkC (c : Col) : Prop := (0 ≤ c.1 ∧ c.1 ≤ 255) ∧ (0 ≤ c.2.1 ∧ c.2.1 ≤ 255) ∧ (0 ≤ c.2.2.1 ∧ c.2.2.1 ≤ 255) ∧ (0 ≤ c.2.2.2 ∧ c.2.2.2 ≤ 255)
def spColour (K : PySem.W.Frag) : Sp := Pr fun vs H T => ∃ (v : V) (c : Col), vs = [v] ∧ ColP K c H v ∧ OkC c ∧ T = fun _ v => v = .bl true
theorem scColour : FnScope ["thing", "one"] ["thing"] (defScope sIsColour) := ⟨rfl, rfl, rfl, by decide +kernel, rfl, by decide +kernel, by decide +kernel⟩
theorem cal_colour (D : DefAt K mg "is_colour" sIsColour) (B : Blt mg) (C : Cal P w K mg base 2 "is_part" ["thing"] spPart) : Cal P w K mg base 3 "is_colour" ["thing"] (spColour K) := by
  refine cal_of D scColour (fun _ _ _ _ _ _ us hl => match us, hl with | [_], _ => rfl) (fun vs H Q E h => ?_) (fun f cdv A outer s H vs Q E hr h => ?_)
  · obtain ⟨T, ⟨v, c, rfl, _⟩, _⟩ := h
    rfl
  · obtain ⟨T, ⟨v, c, rfl, ⟨p, rfl, hc⟩, ok, rfl⟩, q⟩ := h
    refine ⟨_, pss_one (ps_ret (pe_and (pe_callB call_isi (by rfl) B.isinst boot_isinstance (pa_cons (pv 0) (pa_cons (pe_bltn (v := .ty "tuple") (by rfl) B.tuple PyProof.Rows.boot_tuple rfl) pa_nil)))
      (pe_and (pe_cmpR op_eq (pe_callB call_len_seq (by rfl) B.len PySem.boot_len (pa_cons (pv 0) pa_nil)) pe_int (nomark _))
        (pe_one (pe_callB (cr_all rfl) (by rfl) B.all boot_all (pa_cons
          (pe_lc (own := [("one", 1)]) (g := gName 1) (tt := tYes) rfl scColour.nd (pi_tup (pv 0)) (blkOk_by (own := [("one", 1)]) (N := ["thing", "one"]) (sc := defScope sIsColour) (by decide +kernel))
            (fun _ _ _ _ _ => pg_name (i := 1) scColour.nd rfl (Or.inl rfl)) (fun _ _ _ _ _ => pts_nil) (fun _ _ _ _ _ => pe_cal C hr (by rfl) (pa_cons (pv 1) pa_nil))) pa_nil)))))), ?_⟩
    refine ⟨_, rfl, _, _, _, _, _, rfl, .ty "tuple", tyx_tup hc, kit_ty (by decide +kernel), true, rfl, iteT ?_⟩
    refine ⟨_, rfl, p, _, rfl, .inr hc, rfl, true, rfl, iteT ?_⟩
    refine ⟨_, rfl, p, rfl, ⟨_, hc⟩, fun D hD => ?_⟩
    refine lcP (fun _ _ u => u = .bl true) (wk_tup hc) hD (by show 4 ≤ 100000; decide) (fun _ _ _ _ _ z => z) ?_ ?_ gName_mono
    · rintro i x H' H'' hi e ⟨rfl, hx⟩
      refine ⟨Evl.Ex.refl _, fun Q1 k => ⟨rfl, ⟨x, rfl, ?_⟩⟩⟩
      have : ∃ n : Int, x = .int n ∧ 0 ≤ n ∧ n ≤ 255 := by
        obtain ⟨⟨a1, a2⟩, ⟨b1, b2⟩, ⟨c1, c2⟩, d1, d2⟩ := ok
        match i, hi, hx with
        | 0, _, hx => exact ⟨_, (Option.some.inj hx).symm, a1, a2⟩
        | 1, _, hx => exact ⟨_, (Option.some.inj hx).symm, b1, b2⟩
        | 2, _, hx => exact ⟨_, (Option.some.inj hx).symm, c1, c2⟩
        | 3, _, hx => exact ⟨_, (Option.some.inj hx).symm, d1, d2⟩
      obtain ⟨n, rfl, n0, n1⟩ := this
      exact ⟨_, ⟨n, rfl, n0, n1, rfl⟩, fun v H4 e4 z => k v H4 e4 z⟩
    · intro H' ys e hl its
      refine ⟨D, List.replicate 4 true, rfl, .inl (.inl ?_), q _ _ e rfl⟩
      rw [hl, its.rep]
      rfl
/-! ### is_lot, is_picture -/
def OkF (w h : Nat) (f : Pix) : Prop := ∀ x y, x < w → y < h → OkC (f x y)
def spLot (K : PySem.W.Frag) : Sp := Pr fun vs H T => ∃ (v : V) (a b : Nat) (f : Pix), vs = [v] ∧ PicP K a b f H v ∧ 0 < a ∧ 0 < b ∧ a ≤ 99 ∧ b ≤ 99 ∧ T = fun _ v => v = .bl true
theorem scLot : FnScope ["thing"] ["thing"] (defScope sIsLot) := ⟨rfl, rfl, rfl, by decide +kernel, rfl, by decide +kernel, by decide +kernel⟩
theorem cal_lot (D : DefAt K mg "is_lot" sIsLot) (B : Blt mg) (C : Cal P w K mg base 2 "is_size" ["thing"] spSize) : Cal P w K mg base 3 "is_lot" ["thing"] (spLot K) := by
  refine cal_of D scLot (fun _ _ _ _ _ _ us hl => match us, hl with | [_], _ => rfl) (fun vs H Q E h => ?_) (fun f cdv A outer s H vs Q E hr h => ?_)
  · obtain ⟨T, ⟨v, a, b, f, rfl, _⟩, _⟩ := h
    rfl
  · obtain ⟨T, ⟨v, a, b, f, rfl, ⟨p, pc, cs, rfl, hp, hc, its⟩, a0, b0, a9, b9, rfl⟩, q⟩ := h
    refine ⟨_, pss_cons (ps_if (PW.pt (pw_or (pt_not (pt_val (pe_callB call_isi (by rfl) B.isinst boot_isinstance (pa_cons (pv 0) (pa_cons (pe_bltn (v := .ty "tuple") (by rfl) B.tuple PyProof.Rows.boot_tuple rfl) pa_nil)))))
        (pw_or (pt_cmpR op_ne (pe_callB call_len_seq (by rfl) B.len PySem.boot_len (pa_cons (pv 0) pa_nil)) pe_int (nomark _))
        (pw_or (pt_not (pt_val (pe_cal C hr (by rfl) (pa_cons (pe_ix ix_tup (pv 0) pe_int (fun _ _ => rfl)) pa_nil))))
        (pw_or1 (pt_not (pt_val (pe_cal C hr (by rfl) (pa_cons (pe_ix ix_tup (pv 0) pe_int (fun _ _ => rfl)) pa_nil)))))))))
      pss_never pss_nil)
      (pss_one (ps_ret (pe_and (pe_callB call_isi (by rfl) B.isinst boot_isinstance (pa_cons (pe_ix ix_tup (pv 0) pe_int (fun _ _ => rfl)) (pa_cons (pe_bltn (v := .ty "tuple") (by rfl) B.tuple PyProof.Rows.boot_tuple rfl) pa_nil)))
        (pe_one (pe_cmpR op_eq (pe_callB call_len_seq (by rfl) B.len PySem.boot_len (pa_cons (pe_ix ix_tup (pv 0) pe_int (fun _ _ => rfl)) pa_nil)) (pe_op op_mul (pe_ix ix_tup (pv 0) pe_int (fun _ _ => rfl)) (pe_ix ix_tup (pv 0) pe_int (fun _ _ => rfl))) (nomark _)))))), ?_⟩
    refine ⟨_, rfl, _, _, _, _, _, rfl, .ty "tuple", tyx_tup hp, kit_ty (by decide +kernel), true, rfl, ?_⟩
    refine ⟨_, rfl, p, _, rfl, .inr hp, rfl, false, rfl, ?_⟩
    refine ⟨_, rfl, p, _, 0, _, rfl, rfl, hp, atI_nat (j := 0) rfl, _, ⟨_, rfl, by omega, by omega, rfl⟩, fun v1 H1 e1 z1 => ⟨true, z1, ?_⟩⟩
    refine ⟨_, rfl, p, _, 1, _, rfl, rfl, Evl.ex_t e1 hp, atI_nat (j := 1) rfl, _, ⟨_, rfl, by omega, by omega, rfl⟩, fun v2 H2 e2 z2 => ⟨true, z2, ?_⟩⟩
    have e := e1.trans e2
    have hp2 := Evl.ex_t e hp
    have hc2 := Evl.ex_t e hc
    refine ⟨_, rfl, p, _, 2, _, rfl, rfl, hp2, atI_nat (j := 2) rfl, _, _, _, _, _, rfl, .ty "tuple", tyx_tup hc2, kit_ty (by decide +kernel), true, rfl, iteT ?_⟩
    refine ⟨_, rfl, p, _, 2, _, rfl, rfl, hp2, atI_nat (j := 2) rfl, pc, _, rfl, .inr hc2, ?_⟩
    refine ⟨_, rfl, p, _, 0, _, rfl, rfl, hp2, atI_nat (j := 0) rfl, _, rfl, p, _, 1, _, rfl, rfl, hp2, atI_nat (j := 1) rfl, _, _, rfl, rfl, .inl ⟨by omega, by omega⟩, rfl, q _ _ e ?_⟩
    rw [its.1]
    show V.bl (decide (V.int ((a * b : Nat) : Int) = V.int ((a : Int) * (b : Int)))) = V.bl true
    rw [decide_eq_true (by rw [Int.natCast_mul])]
def spPicture (K : PySem.W.Frag) : Sp := Pr fun vs H T => ∃ (v : V) (a b : Nat) (f : Pix), vs = [v] ∧ PicP K a b f H v ∧ 0 < a ∧ 0 < b ∧ a ≤ 99 ∧ b ≤ 99 ∧ OkF a b f ∧ T = fun _ v => v = .bl true
theorem scPicture : FnScope ["thing", "one"] ["thing"] (defScope sIsPicture) := ⟨rfl, rfl, rfl, by decide +kernel, rfl, by decide +kernel, by decide +kernel⟩
theorem cal_picture (D : DefAt K mg "is_picture" sIsPicture) (B : Blt mg) (C : Cal P w K mg base 3 "is_lot" ["thing"] (spLot K)) (C2 : Cal P w K mg base 3 "is_colour" ["thing"] (spColour K)) : Cal P w K mg base 4 "is_picture" ["thing"] (spPicture K) := by
  refine cal_of D scPicture (fun _ _ _ _ _ _ us hl => match us, hl with | [_], _ => rfl) (fun vs H Q E h => ?_) (fun f cdv A outer s H vs Q E hr h => ?_)
  · obtain ⟨T, ⟨v, a, b, f, rfl, _⟩, _⟩ := h
    rfl
  · obtain ⟨T, ⟨v, a, b, f, rfl, hpic, a0, b0, a9, b9, ok, rfl⟩, q⟩ := h
    refine ⟨_, pss_one (ps_ret (pe_and (pe_cal C hr (by rfl) (pa_cons (pv 0) pa_nil)) (pe_one (pe_callB (cr_all rfl) (by rfl) B.all boot_all (pa_cons
          (pe_lc (own := [("one", 1)]) (g := gName 1) (tt := tYes) rfl scPicture.nd (pi_tup (pe_ix ix_tup (pv 0) pe_int (fun _ _ => rfl))) (blkOk_by (own := [("one", 1)]) (N := ["thing", "one"]) (sc := defScope sIsPicture) (by decide +kernel))
            (fun _ _ _ _ _ => pg_name (i := 1) scPicture.nd rfl (Or.inl rfl)) (fun _ _ _ _ _ => pts_nil) (fun _ _ _ _ _ => pe_cal C2 hr (by rfl) (pa_cons (pv 1) pa_nil))) pa_nil))))), ?_⟩
    refine ⟨_, rfl, _, ⟨_, a, b, f, rfl, hpic, a0, b0, a9, b9, rfl⟩, fun v1 H1 e1 z1 => ⟨true, z1, iteT ?_⟩⟩
    obtain ⟨p, pc, cs, rfl, hp, hc, its⟩ := hpic.ex e1
    refine ⟨_, rfl, p, _, 2, _, rfl, rfl, hp, atI_nat (j := 2) rfl, pc, rfl, ⟨_, hc⟩, fun D hD => ?_⟩
    have small : a * b ≤ 99 * 99 := Nat.mul_le_mul a9 b9
    refine lcP (fun _ _ u => u = .bl true) (wk_tup hc) hD (by rw [its.1]; omega) (fun _ _ _ _ _ z => z) ?_ ?_ gName_mono
    · rintro i x H' H'' hi e ⟨rfl, hx⟩
      have hi' : i < a * b := by rw [its.1] at hi; exact hi
      refine ⟨Evl.Ex.refl _, fun Q1 k => ⟨rfl, ⟨x, rfl, ?_⟩⟩⟩
      exact ⟨_, ⟨x, _, rfl, ColP.mo K _ _ _ _ (Kp.ex e) (its.2 i x hx), ok _ _ (Nat.mod_lt _ a0) (Nat.div_lt_of_lt_mul hi'), rfl⟩, fun v H4 e4 z => k v H4 e4 z⟩
    · intro H' ys e hl its'
      refine ⟨D, List.replicate (cs.length) true, rfl, .inl (.inl ?_), q _ _ (e1.trans e) ?_⟩
      · rw [hl, its'.rep, List.map_replicate]
      · show V.bl ((List.replicate cs.length true).all id) = V.bl true
        have : (List.replicate cs.length true).all id = true := by
          rw [List.all_eq_true]
          intro z hz
          exact (List.mem_replicate.mp hz).2
        rw [this]
end
end K08
namespace K08
open PySem PySem.Spec PyProof.Rows L2
open Evl (Ex)
section
variable {P : Program} {w : World} {K : PySem.W.Frag} {mg : Str → Option Value} {base : Heap}
/-! ### slices of tuples -/
theorem cut_whole {xs : List V} {lo hi : Option Int} (h : HT.sIx xs.length 0 lo = 0 ∧ HT.sIx xs.length xs.length hi = xs.length) : cutV xs lo hi = xs := by
  unfold cutV
  rw [h.1, h.2, List.drop_zero, Nat.sub_zero, List.take_length]
theorem sl_go {K : PySem.W.Frag} {H : Hp} {a : Addr} {xs : List V} {lo hi : Option Int} {n : Nat} {T : Nat → VP} {Q : VK} (hs : SqT K H a xs) (its : ItsP (cutV xs lo hi) n T H) (mo : ∀ i, Mo (T i))
    (k : ∀ y H4, Ex H H4 → TpP K n T H4 y → Q y H4) : rSlA K (.ref a) lo hi H Q := by
  refine ⟨a, xs, rfl, hs, fun h => ?_, fun _ p hp => ?_⟩
  · rw [cut_whole h] at its
    exact k _ _ (Evl.Ex.refl H) ⟨a, xs, rfl, hs, its⟩
  · exact k _ _ (Evl.Ex.new hp) ⟨p, _, rfl, SqT.of upd_same, its.mono fun i u _ z => mo i _ _ _ (Kp.ex (Evl.Ex.new hp)) z⟩
/-! ### rows_of -/
theorem unpack3 {K : PySem.W.Frag} {v : V} {σ : L2.St} {H : Hp} {i j l : Nat} {x y z : V} {p : Addr} {Q : L2.St → Hp → Prop} (hv : v = .ref p) (h : SqT K H p [x, y, z]) (q : Q (((σ.set i (some x)).set j (some y)).set l (some z)) H) :
    gTup K 3 (gCons (gName i) (gCons (gName j) (gCons (gName l) gNil))) v σ H Q := ⟨p, _, hv, h, rfl, x, _, rfl, y, _, rfl, z, _, rfl, rfl, q⟩
def spRowsOf (K : PySem.W.Frag) : Sp := Pr fun vs H T => ∃ (v : V) (a b : Nat) (f : Pix), vs = [v] ∧ PicP K a b f H v ∧ 0 < a ∧ 0 < b ∧ a ≤ 99 ∧ b ≤ 99 ∧ T = RowsP K a b f
theorem scRowsOf : FnScope ["picture", "width", "height", "cells", "y"] ["picture"] (defScope sRowsOf) := ⟨rfl, rfl, rfl, by decide +kernel, rfl, by decide +kernel, by decide +kernel⟩
theorem cut_row {K : PySem.W.Frag} {cs : List V} {a b y : Nat} {f : Pix} {H : Hp} (its : ItsP cs (a * b) (fun i => ColP K (f (i % a) (i / a))) H) (hy : y < b) :
    ItsP (cutV cs (some ((y : Int) * (a : Int))) (some (((y : Int) + 1) * (a : Int)))) a (fun x => ColP K (f x y)) H := by
  have e1 : (y : Int) * (a : Int) = ((y * a : Nat) : Int) := (Int.natCast_mul y a).symm
  have e2 : ((y : Int) + 1) * (a : Int) = ((y * a + a : Nat) : Int) := by
    rw [Int.add_mul, Int.one_mul, e1, ← Int.natCast_add]
  have le : y * a + a ≤ a * b := by
    have := Nat.mul_le_mul_right a hy
    rw [Nat.succ_mul, Nat.mul_comm b a] at this
    exact this
  unfold cutV
  have m1 : min (y * a) (a * b) = y * a := Nat.min_eq_left (by omega)
  rw [e1, e2, HT.sIx_nat, HT.sIx_nat, its.1, m1, Nat.min_eq_left le]
  have e3 : y * a + a - y * a = a := by omega
  rw [e3]
  refine ((its.drop (y * a)).take (k := a) (by omega)).mono fun x u hx z => ?_
  rw [ix_mod hx, ix_div hx] at z
  exact z
theorem cal_rowsof (D : DefAt K mg "rows_of" sRowsOf) (B : Blt mg) : Cal P w K mg base 1 "rows_of" ["picture"] (spRowsOf K) := by
  refine cal_of D scRowsOf (fun _ _ _ _ _ _ us hl => match us, hl with | [_], _ => rfl) (fun vs H Q E h => ?_) (fun fa cdv A outer s H vs Q E hr h => ?_)
  · obtain ⟨T, ⟨v, a, b, f, rfl, _⟩, _⟩ := h
    rfl
  · obtain ⟨T, ⟨v, a, b, f, rfl, ⟨p, pc, cs, rfl, hp, hc, its⟩, a0, b0, a9, b9, rfl⟩, q⟩ := h
    refine ⟨_, pss_cons (ps_asg (pv 0) (pg_tup rfl (pgs_cons (pg_name (i := 1) scRowsOf.nd rfl (Or.inr rfl)) (pgs_cons (pg_name (i := 2) scRowsOf.nd rfl (Or.inl rfl)) (pgs_cons (pg_name (i := 3) scRowsOf.nd rfl (Or.inr rfl)) pgs_nil)))))
      (pss_one (ps_ret (pe_lc (own := [("y", 4)]) (g := gName 4) (tt := tYes) rfl scRowsOf.nd (pi_range1 (by rfl) B.range (pa_cons (pv 2) pa_nil)) (blkOk_by (own := [("y", 4)]) (N := ["picture", "width", "height", "cells", "y"]) (sc := defScope sRowsOf) (by decide +kernel))
            (fun _ _ _ _ _ => pg_name (i := 4) scRowsOf.nd rfl (Or.inl rfl)) (fun _ _ _ _ _ => pts_nil)
            (fun _ _ _ _ _ => pe_slice (r := rSlA K) sl_tupA (pv 3) (po_some (pe_op op_mul (pv 4) (pv 1))) (po_some (pe_op op_mul (pe_op op_add (pv 4) pe_int) (pv 1))))))), ?_⟩
    refine ⟨_, rfl, unpack3 rfl hp ?_⟩
    refine ⟨_, rfl, b, rfl, by omega, by omega, fun Dl hD => ?_⟩
    refine lcP (fun y => RowP K a fun x => f x y) wk_rng hD (by omega) (Mo.kd (fun y => RowP.mo K a _) _) ?_ ?_ gName_mono
    · rintro y x H' H'' hy e ⟨rfl, rfl⟩
      have hy' : y < b := by omega
      have hc' := Evl.ex_t e hc
      have e0 : (0 : Int) + (y : Int) = (y : Int) := Int.zero_add _
      have row : ItsP (cutV cs (some (((0 : Int) + (y : Int)) * (a : Int))) (some (((0 : Int) + (y : Int) + 1) * (a : Int)))) a (fun x => ColP K (f x y)) H'' := by
        rw [e0]
        exact cut_row (its.mono fun i u _ z => ColP.mo K _ _ _ _ (Kp.ex e) z) hy'
      refine ⟨Evl.Ex.refl _, fun Q1 k => ⟨rfl, ?_⟩⟩
      refine ⟨_, rfl, _, rfl, _, rfl, (0 : Int) + (y : Int), (a : Int), rfl, rfl, .inl ⟨by omega, by omega⟩, _, rfl, ?_⟩
      refine ⟨_, rfl, (0 : Int) + (y : Int), 1, rfl, rfl, _, rfl, (0 : Int) + (y : Int) + 1, (a : Int), rfl, rfl, .inl ⟨by omega, by omega⟩, _, rfl, ?_⟩
      exact sl_go hc' row (fun _ => ColP.mo K _) k
    · intro H' ys e hl its'
      exact q _ _ e ⟨Dl, ys, rfl, hl, by simpa using its'⟩
end
end K08
namespace K08
open PySem PySem.Spec PyProof.Rows L2
open Evl (Ex)
section
variable {P : Program} {w : World} {K : PySem.W.Frag} {mg : Str → Option Value} {base : Heap}
/-! ### of_rows -/
def spOfRows (K : PySem.W.Frag) : Sp := Pr fun vs H T => ∃ (v : V) (a b : Nat) (f : Pix), vs = [v] ∧ RowsP K a b f H v ∧ 0 < a ∧ 0 < b ∧ a ≤ 99 ∧ b ≤ 99 ∧ T = PicP K a b f
theorem scOfRows : FnScope ["rows", "row", "cell"] ["rows"] (defScope sOfRows) := ⟨rfl, rfl, rfl, by decide +kernel, rfl, by decide +kernel, by decide +kernel⟩
theorem cal_ofrows (D : DefAt K mg "of_rows" sOfRows) (B : Blt mg) : Cal P w K mg base 1 "of_rows" ["rows"] (spOfRows K) := by
  refine cal_of D scOfRows (fun _ _ _ _ _ _ us hl => match us, hl with | [_], _ => rfl) (fun vs H Q E h => ?_) (fun fa cdv A outer s H vs Q E hr h => ?_)
  · obtain ⟨T, ⟨v, a, b, f, rfl, _⟩, _⟩ := h
    rfl
  · obtain ⟨T, ⟨v, a, b, f, rfl, ⟨p, rs, rfl, hl, its⟩, a0, b0, a9, b9, rfl⟩, q⟩ := h
    refine ⟨_, pss_one (ps_ret (pe_tup (pa_cons (pe_callB call_len_seq (by rfl) B.len PySem.boot_len (pa_cons (pe_ix ix_list (pv 0) pe_int (fun _ _ => rfl)) pa_nil))
      (pa_cons (pe_callB call_len_seq (by rfl) B.len PySem.boot_len (pa_cons (pv 0) pa_nil))
      (pa_cons (pe_callTy call_tuple_of (by rfl) B.tuple PyProof.Rows.boot_tuple (pa_cons
        (pe_lc2 (own := [("row", 1), ("cell", 2)]) (vs1 := [2]) (g := gName 1) (g1 := gName 2) (tt := tYes) (tt1 := tYes) (wi1 := iTup K (tVar 1)) rfl scOfRows.nd (pi_list (pv 0))
          (blkOk_by (own := [("row", 1), ("cell", 2)]) (N := ["rows", "row", "cell"]) (sc := defScope sOfRows) (by decide +kernel)) (by decide)
          (fun _ _ _ _ _ => pg_name (i := 1) scOfRows.nd rfl (Or.inl rfl)) (fun _ _ _ _ _ => pts_nil) (fun _ _ _ _ _ => pi_tup (pv 1)) (fun _ _ _ _ _ => pg_name (i := 2) scOfRows.nd rfl (Or.inl rfl)) (fun _ _ _ _ _ => pts_nil)
          (fun _ _ _ _ _ => pv 2)) pa_nil)) pa_nil))))), ?_⟩
    obtain ⟨u0, g0, p0, cs0, rfl, hs0, ic0⟩ := its.get b0
    refine ⟨_, rfl, p, rs, 0, _, rfl, rfl, .inl (.inl hl), atI_nat (j := 0) g0, p0, cs0, rfl, .inr hs0, ?_⟩
    refine ⟨_, rfl, p, rs, rfl, .inl (.inl (.inl hl)), ?_⟩
    refine ⟨_, rfl, p, rfl, ⟨_, .inl (.inl hl)⟩, fun D hD => ?_⟩
    have small : b * a ≤ 99 * 99 := Nat.mul_le_mul b9 a9
    refine lc2P (T := fun i x => rs[i]? = some x) a (fun i => ColP K (f (i % a) (i / a))) (wk_lst (K := K) (.inl (.inl hl))) hD (by rw [its.1]; omega) (Mo.kd (fun _ => ColP.mo K _) _) (fun _ => rfl) (fun _ _ => rfl) ?_ ?_
    · intro i x H' hi hx e R k
      obtain ⟨px, cs, rfl, hs, ic⟩ := its.2 i x hx
      refine ⟨_, rfl, px, rfl, ⟨cs, Evl.ex_t e hs⟩, ?_⟩
      refine k _ H' (fun j u => cs[j]? = some u) (Evl.Ex.refl _) (by rw [← ic.1]; exact wi_tup (Evl.ex_t e hs)) fun j x' H5 hj hx' kd ex Q1 kk => ?_
      refine ⟨_, rfl, kk _ _ (Evl.Ex.refl _) ?_⟩
      rw [ix_mod hj, ix_div hj]
      exact ColP.mo K _ _ _ _ (Kp.ex ex) (ic.2 j x' hx')
    · intro H' ys e hD' its'
      rw [its.1] at its'
      refine ⟨D, ys, rfl, .inl ⟨.inl (.inl hD'), fun l hl' => ?_⟩⟩
      refine ⟨by show 3 ≤ sizeLine; decide, fun t ht => ?_⟩
      have e2 := Evl.Ex.new (o := HO.tup ys) hl'
      have e3 := Evl.Ex.new (o := HO.tup [V.int (cs0.length : Nat), V.int (rs.length : Nat), V.ref l]) ht
      refine q _ _ ((e.trans e2).trans e3) ⟨t, l, ys, rfl, ?_, Evl.ex_t e3 (SqT.of upd_same), ?_⟩
      · rw [ic0.1, its.1]
        exact SqT.of upd_same
      · rw [Nat.mul_comm]
        exact its'.mono fun i u _ z => ColP.mo K _ _ _ _ (Kp.ex (e2.trans e3)) z
end
end K08
namespace K08
open PySem PySem.Spec PyProof.Rows L2
open Evl (Ex)
section
variable {P : Program} {w : World} {K : PySem.W.Frag} {mg : Str → Option Value} {base : Heap}
/-! ### is_in -/
def inB (a b : Nat) (x y : Int) : Bool := decide (0 ≤ x) && (decide (x < (a : Int)) && (decide (0 ≤ y) && decide (y < (b : Int))))
theorem inB_true {a b : Nat} {x y : Int} : inB a b x y = true ↔ (0 ≤ x ∧ x < (a : Int)) ∧ (0 ≤ y ∧ y < (b : Int)) := by
  unfold inB
  simp only [Bool.and_eq_true, decide_eq_true_eq]
  constructor
  · rintro ⟨h1, h2, h3, h4⟩
    exact ⟨⟨h1, h2⟩, h3, h4⟩
  · rintro ⟨⟨h1, h2⟩, h3, h4⟩
    exact ⟨h1, h2, h3, h4⟩
def spIsIn (K : PySem.W.Frag) : Sp := Pr fun vs H T => ∃ (v : V) (a b : Nat) (f : Pix) (x y : Int), vs = [v, .int x, .int y] ∧ PicP K a b f H v ∧ T = fun _ v => v = .bl (inB a b x y)
theorem scIsIn : FnScope ["picture", "x", "y"] ["picture", "x", "y"] (defScope sIsIn) := ⟨rfl, rfl, rfl, by decide +kernel, rfl, by decide +kernel, by decide +kernel⟩
theorem cal_isin (D : DefAt K mg "is_in" sIsIn) : Cal P w K mg base 1 "is_in" ["picture", "x", "y"] (spIsIn K) := by
  refine cal_of D scIsIn (fun _ _ _ _ _ _ us hl => match us, hl with | [_, _, _], _ => rfl) (fun vs H Q E h => ?_) (fun fa cdv A outer s H vs Q E hr h => ?_)
  · obtain ⟨T, ⟨v, a, b, f, x, y, rfl, _⟩, _⟩ := h
    rfl
  · obtain ⟨T, ⟨v, a, b, f, x, y, rfl, ⟨p, pc, cs, rfl, hp, hc, its⟩, rfl⟩, q⟩ := h
    refine ⟨_, pss_one (ps_ret (pe_and (pe_chain op_le op_lt pe_int (pv 1) (pe_ix ix_tup (pv 0) pe_int (fun _ _ => rfl))) (pe_one (pe_chain op_le op_lt pe_int (pv 2) (pe_ix ix_tup (pv 0) pe_int (fun _ _ => rfl)))))), ?_⟩
    have fin : ∀ c : Bool, c = inB a b x y → Q (.bl c) H := fun c e => q _ _ (Evl.Ex.refl H) (by rw [e])
    refine ⟨_, rfl, 0, x, rfl, rfl, _, rfl, ?_⟩
    cases h1 : decide (0 ≤ x) with
    | false =>
      refine iteF ⟨false, rfl, iteF (fin _ ?_)⟩
      unfold inB
      rw [h1]
      rfl
    | true =>
      refine iteT ⟨_, rfl, p, _, 0, _, rfl, rfl, hp, atI_nat (j := 0) rfl, x, (a : Int), rfl, rfl, decide (x < (a : Int)), rfl, ?_⟩
      cases h2 : decide (x < (a : Int)) with
      | false =>
        refine iteF (fin _ ?_)
        unfold inB
        rw [h1, h2]
        rfl
      | true =>
        refine iteT ⟨_, rfl, 0, y, rfl, rfl, _, rfl, ?_⟩
        cases h3 : decide (0 ≤ y) with
        | false =>
          refine iteF (fin _ ?_)
          unfold inB
          rw [h1, h2, h3]
          rfl
        | true =>
          refine iteT ⟨_, rfl, p, _, 0 + 1, _, rfl, rfl, hp, atI_nat (j := 1) rfl, y, (b : Int), rfl, rfl, fin _ ?_⟩
          unfold inB
          rw [h1, h2, h3]
          rfl
/-! ### cell_at -/
def spCellAt (K : PySem.W.Frag) : Sp := Pr fun vs H T => ∃ (v : V) (a b : Nat) (f : Pix) (x y : Nat), vs = [v, .int (x : Int), .int (y : Int)] ∧ PicP K a b f H v ∧ x < a ∧ y < b ∧ a ≤ 99 ∧ b ≤ 99 ∧ T = ColP K (f x y)
theorem scCellAt : FnScope ["picture", "x", "y"] ["picture", "x", "y"] (defScope sCellAt) := ⟨rfl, rfl, rfl, by decide +kernel, rfl, by decide +kernel, by decide +kernel⟩
theorem cal_cellat (D : DefAt K mg "cell_at" sCellAt) (C : Cal P w K mg base 1 "is_in" ["picture", "x", "y"] (spIsIn K)) : Cal P w K mg base 2 "cell_at" ["picture", "x", "y"] (spCellAt K) := by
  refine cal_of D scCellAt (fun _ _ _ _ _ _ us hl => match us, hl with | [_, _, _], _ => rfl) (fun vs H Q E h => ?_) (fun fa cdv A outer s H vs Q E hr h => ?_)
  · obtain ⟨T, ⟨v, a, b, f, x, y, rfl, _⟩, _⟩ := h
    rfl
  · obtain ⟨T, ⟨v, a, b, f, x, y, rfl, hpic, hx, hy, a9, b9, rfl⟩, q⟩ := h
    refine ⟨_, pss_cons (ps_if (pt_not (pt_val (pe_cal C hr (by rfl) (pa_cons (pv 0) (pa_cons (pv 1) (pa_cons (pv 2) pa_nil)))))) pss_never pss_nil)
      (pss_one (ps_ret (pe_ix ix_tup (pe_ix ix_tup (pv 0) pe_int (fun _ _ => rfl)) (pe_op op_add (pe_op op_mul (pv 2) (pe_ix ix_tup (pv 0) pe_int (fun _ _ => rfl))) (pv 1)) (fun _ _ => rfl)))), ?_⟩
    have yes : inB a b (x : Int) (y : Int) = true := inB_true.mpr ⟨⟨by omega, by omega⟩, by omega, by omega⟩
    refine ⟨_, rfl, _, rfl, _, rfl, _, ⟨_, a, b, f, _, _, rfl, hpic, rfl⟩, fun v1 H1 e1 z1 => ⟨true, by rw [z1, yes], ?_⟩⟩
    obtain ⟨p, pc, cs, rfl, hp, hc, its⟩ := hpic.ex e1
    obtain ⟨u, g, hu⟩ := its.get (ix_lt hx hy)
    rw [ix_mod hx, ix_div hx] at hu
    refine ⟨_, rfl, p, _, 2, _, rfl, rfl, hp, atI_nat (j := 2) rfl, _, rfl, _, rfl, p, _, 0, _, rfl, rfl, hp, atI_nat (j := 0) rfl, (y : Int), (a : Int), rfl, rfl, .inl ⟨by omega, by omega⟩, _, rfl, (y : Int) * (a : Int), (x : Int), rfl, rfl, pc, cs, _, u, rfl, rfl, hc, ?_, q _ _ e1 hu⟩
    exact at_of (by rw [Int.natCast_add, Int.natCast_mul]) g
/-! ### must_be_small -/
def spSmall : Sp := Pr fun vs H T => ∃ a b : Int, vs = [.int a, .int b] ∧ a ≤ 99 ∧ b ≤ 99 ∧ T = fun _ v => v = .non
theorem scSmall : FnScope ["width", "height"] ["width", "height"] (defScope sSmall) := ⟨rfl, rfl, rfl, by decide +kernel, rfl, by decide +kernel, by decide +kernel⟩
theorem cal_small (D : DefAt K mg "must_be_small" sSmall) (mm : ∃ t, mg "MOST" = some (.int 99 t)) : Cal P w K mg base 1 "must_be_small" ["width", "height"] spSmall := by
  obtain ⟨tm, mm⟩ := mm
  refine cal_of D scSmall (fun _ _ _ _ _ _ us hl => match us, hl with | [_, _], _ => rfl) (fun vs H Q E h => ?_) (fun fa cdv A outer s H vs Q E hr h => ?_)
  · obtain ⟨T, ⟨a, b, rfl, _⟩, _⟩ := h
    rfl
  · obtain ⟨T, ⟨a, b, rfl, ha, hb, rfl⟩, q⟩ := h
    refine ⟨_, pss_one (ps_if (PW.pt (pw_or (pt_cmpR op_gt (pv 0) (pe_glob (v := .int 99) (by rfl) mm ⟨_, rfl⟩) (nomark _)) (pw_or1 (pt_cmpR op_gt (pv 1) (pe_glob (v := .int 99) (by rfl) mm ⟨_, rfl⟩) (nomark _))))) pss_never pss_nil), ?_⟩
    refine ⟨_, rfl, a, 99, rfl, rfl, _, rfl, ?_⟩
    rw [decide_eq_false (show ¬ (99 : Int) < a by omega)]
    refine iteF ⟨_, rfl, b, 99, rfl, rfl, _, rfl, ?_⟩
    rw [decide_eq_false (show ¬ (99 : Int) < b by omega)]
    exact iteF (q _ _ (Evl.Ex.refl H) rfl)
end
end K08
namespace K08
open PySem PySem.Spec PyProof.Rows L2
open Evl (Ex)
section
variable {P : Program} {w : World} {K : PySem.W.Frag} {mg : Str → Option Value} {base : Heap}
/-! ### turned -/
def turnF (b : Nat) (f : Pix) : Pix := fun x y => f y (b - 1 - x)
def spTurned (K : PySem.W.Frag) : Sp := Pr fun vs H T => ∃ (v : V) (a b : Nat) (f : Pix), vs = [v] ∧ PicP K a b f H v ∧ 0 < a ∧ 0 < b ∧ a ≤ 99 ∧ b ≤ 99 ∧ T = PicP K b a (turnF b f)
theorem scTurned : FnScope ["picture", "width", "height", "cells", "x", "y"] ["picture"] (defScope sTurned) := ⟨rfl, rfl, rfl, by decide +kernel, rfl, by decide +kernel, by decide +kernel⟩
theorem cal_turned (D : DefAt K mg "turned" sTurned) (B : Blt mg) : Cal P w K mg base 1 "turned" ["picture"] (spTurned K) := by
  refine cal_of D scTurned (fun _ _ _ _ _ _ us hl => match us, hl with | [_], _ => rfl) (fun vs H Q E h => ?_) (fun fa cdv A outer s H vs Q E hr h => ?_)
  · obtain ⟨T, ⟨v, a, b, f, rfl, _⟩, _⟩ := h
    rfl
  · obtain ⟨T, ⟨v, a, b, f, rfl, ⟨p, pc, cs, rfl, hp, hc, its⟩, a0, b0, a9, b9, rfl⟩, q⟩ := h
    refine ⟨_, pss_cons (ps_asg (pv 0) (pg_tup rfl (pgs_cons (pg_name (i := 1) scTurned.nd rfl (Or.inr rfl)) (pgs_cons (pg_name (i := 2) scTurned.nd rfl (Or.inr rfl)) (pgs_cons (pg_name (i := 3) scTurned.nd rfl (Or.inr rfl)) pgs_nil)))))
      (pss_one (ps_ret (pe_tup (pa_cons (pv 2) (pa_cons (pv 1) (pa_cons (pe_callTy call_tuple_of (by rfl) B.tuple PyProof.Rows.boot_tuple (pa_cons
        (pe_lc2 (own := [("x", 4), ("y", 5)]) (vs1 := [5]) (g := gName 4) (g1 := gName 5) (tt := tYes) (tt1 := tYes) rfl scTurned.nd (pi_range1 (by rfl) B.range (pa_cons (pv 1) pa_nil))
          (blkOk_by (own := [("x", 4), ("y", 5)]) (N := ["picture", "width", "height", "cells", "x", "y"]) (sc := defScope sTurned) (by decide +kernel)) (by decide)
          (fun _ _ _ _ _ => pg_name (i := 4) scTurned.nd rfl (Or.inl rfl)) (fun _ _ _ _ _ => pts_nil) (fun _ _ _ _ _ => pi_range3 (by rfl) B.range (pa_cons (pe_op op_sub (pv 2) pe_int) (pa_cons (pe_un un_neg pe_int) (pa_cons (pe_un un_neg pe_int) pa_nil)))) (fun _ _ _ _ _ => pg_name (i := 5) scTurned.nd rfl (Or.inl rfl)) (fun _ _ _ _ _ => pts_nil)
          (fun _ _ _ _ _ => pe_ix (r := rIxT K) ix_tup (pv 3) (pe_op op_add (pe_op op_mul (pv 5) (pv 1)) (pv 4)) (fun _ _ => rfl))) pa_nil)) pa_nil)))))), ?_⟩
    refine ⟨_, rfl, unpack3 rfl hp ?_⟩
    refine ⟨_, rfl, _, rfl, _, rfl, (a : Int), rfl, by omega, by omega, fun Dl hD => ?_⟩
    have small : a * b ≤ 99 * 99 := Nat.mul_le_mul a9 b9
    refine lc2P (T := fun i x => x = V.int ((0 : Int) + (i : Int))) b (fun i => ColP K (turnF b f (i % b) (i / b))) wk_rng hD (by rw [Int.toNat_natCast]; omega) (Mo.kd (fun _ => ColP.mo K _) _) (fun _ => rfl) (fun _ _ => rfl) ?_ ?_
    · rintro i x H' hi rfl e R k
      have hi' : i < a := by omega
      refine ⟨_, rfl, (b : Int), 1, rfl, rfl, 1, rfl, 1, rfl, (b : Int) - 1, -1, -1, _, rfl, RgC.neg (by omega) (by omega) (by omega) (by omega), ?_⟩
      have en : ((b : Int) - 1 - -1).toNat = b := by omega
      refine k _ H' (fun j u => u = V.int ((b : Int) - 1 + (j : Nat) * (-1))) (Evl.Ex.refl _) (by rw [en]; exact wi_rngC) fun j x' H5 hj hx' kd ex Q1 kk => ?_
      subst hx'
      have hy : b - 1 - j < b := by omega
      obtain ⟨u, g, hu⟩ := its.get (ix_lt hi' hy)
      rw [ix_mod hi', ix_div hi'] at hu
      have ey : (b : Int) - 1 + (j : Nat) * (-1) = ((b - 1 - j : Nat) : Int) := by omega
      refine ⟨_, rfl, _, rfl, _, rfl, (b : Int) - 1 + (j : Nat) * (-1), (a : Int), rfl, rfl, .inl ⟨by omega, by omega⟩, _, rfl, ((b : Int) - 1 + (j : Nat) * (-1)) * (a : Int), (0 : Int) + (i : Int), rfl, rfl, pc, cs, _, u, rfl, rfl, Evl.ex_t ex hc, at_of ?_ g, kk _ _ (Evl.Ex.refl _) ?_⟩
      · rw [ey, Int.natCast_add, Int.natCast_mul, Int.zero_add]
      · rw [ix_mod hj, ix_div hj]
        exact ColP.mo K _ _ _ _ (Kp.ex ex) hu
    · intro H' ys e hD' its'
      refine ⟨Dl, ys, rfl, .inl ⟨.inl (.inl hD'), fun l hl' => ?_⟩⟩
      refine ⟨by show 3 ≤ sizeLine; decide, fun t ht => ?_⟩
      have e2 := Evl.Ex.new (o := HO.tup ys) hl'
      have e3 := Evl.Ex.new (o := HO.tup [V.int (b : Nat), V.int (a : Nat), V.ref l]) ht
      refine q _ _ ((e.trans e2).trans e3) ⟨t, l, ys, rfl, SqT.of upd_same, Evl.ex_t e3 (SqT.of upd_same), ?_⟩
      rw [Int.toNat_natCast, Nat.mul_comm] at its'
      exact its'.mono fun i u _ z => ColP.mo K _ _ _ _ (Kp.ex (e2.trans e3)) z
/-! ### mirrored -/
def mirrorF (a : Nat) (f : Pix) : Pix := fun x y => f (a - 1 - x) y
def spMirrored (K : PySem.W.Frag) : Sp := Pr fun vs H T => ∃ (v : V) (a b : Nat) (f : Pix), vs = [v] ∧ PicP K a b f H v ∧ 0 < a ∧ 0 < b ∧ a ≤ 99 ∧ b ≤ 99 ∧ T = PicP K a b (mirrorF a f)
theorem scMirrored : FnScope ["picture", "row"] ["picture"] (defScope sMirrored) := ⟨rfl, rfl, rfl, by decide +kernel, rfl, by decide +kernel, by decide +kernel⟩
theorem cal_mirrored (D : DefAt K mg "mirrored" sMirrored) (C1 : Cal P w K mg base 1 "rows_of" ["picture"] (spRowsOf K)) (C2 : Cal P w K mg base 1 "of_rows" ["rows"] (spOfRows K)) : Cal P w K mg base 2 "mirrored" ["picture"] (spMirrored K) := by
  refine cal_of D scMirrored (fun _ _ _ _ _ _ us hl => match us, hl with | [_], _ => rfl) (fun vs H Q E h => ?_) (fun fa cdv A outer s H vs Q E hr h => ?_)
  · obtain ⟨T, ⟨v, a, b, f, rfl, _⟩, _⟩ := h
    rfl
  · obtain ⟨T, ⟨v, a, b, f, rfl, hpic, a0, b0, a9, b9, rfl⟩, q⟩ := h
    refine ⟨_, pss_one (ps_ret (pe_cal C2 hr (by rfl) (pa_cons (pe_lc (own := [("row", 1)]) (g := gName 1) (tt := tYes) rfl scMirrored.nd (pi_list (pe_cal C1 hr (by rfl) (pa_cons (pv 0) pa_nil))) (blkOk_by (own := [("row", 1)]) (N := ["picture", "row"]) (sc := defScope sMirrored) (by decide +kernel))
            (fun _ _ _ _ _ => pg_name (i := 1) scMirrored.nd rfl (Or.inl rfl)) (fun _ _ _ _ _ => pts_nil) (te := tRevT K (tVar 1)) (fun _ _ _ _ _ => pe_revT (pv 1))) pa_nil))), ?_⟩
    refine ⟨_, rfl, _, ⟨_, a, b, f, rfl, hpic, a0, b0, a9, b9, rfl⟩, fun v1 H1 e1 ⟨p, rs, ev, hl, its⟩ => ?_⟩
    subst ev
    refine ⟨p, rfl, ⟨rs, .inl (.inl hl)⟩, fun Dl hD => ?_⟩
    refine lcP (fun y => RowP K a fun x => mirrorF a f x y) (wk_lst (.inl (.inl hl))) hD (by rw [its.1]; omega) (Mo.kd (fun y => RowP.mo K a _) _) ?_ ?_ gName_mono
    · rintro y x H' H'' hy e ⟨rfl, hx⟩
      obtain ⟨px, cs, rfl, hs, ic⟩ := its.2 y x hx
      refine ⟨Evl.Ex.refl _, fun Q1 k => ⟨rfl, ?_⟩⟩
      refine ⟨_, rfl, px, cs, rfl, Evl.ex_t e hs, fun pn hn => k _ _ (Evl.Ex.new hn) ⟨pn, _, rfl, SqT.of upd_same, ?_⟩⟩
      exact (ic.mono fun i u _ z => ColP.mo K _ _ _ _ ((Kp.ex e).trans (Kp.ex (Evl.Ex.new hn))) z).rev
    · intro H' ys e hl' its'
      rw [its.1] at its'
      exact ⟨_, ⟨_, a, b, mirrorF a f, rfl, ⟨Dl, ys, rfl, hl', its'⟩, a0, b0, a9, b9, rfl⟩, fun v H2 e2 z => q v H2 ((e1.trans e).trans e2) z⟩
end
end K08
namespace K08
open PySem PySem.Spec PyProof.Rows L2
open Evl (Ex)
theorem cut_nat {ys : List V} {n : Nat} {T : Nat → VP} {H : Hp} (its : ItsP ys n T H) {x0 m : Nat} (h : x0 + m ≤ n) : ItsP (cutV ys (some (x0 : Int)) (some ((x0 : Int) + (m : Int)))) m (fun i => T (x0 + i)) H := by
  unfold cutV
  have e1 : (x0 : Int) + (m : Int) = ((x0 + m : Nat) : Int) := (Int.natCast_add _ _).symm
  have m1 : min x0 n = x0 := Nat.min_eq_left (by omega)
  have m2 : min (x0 + m) n = x0 + m := Nat.min_eq_left h
  rw [e1, HT.sIx_nat, HT.sIx_nat, its.1, m1, m2, Nat.add_sub_cancel_left]
  exact (its.drop x0).take (by omega)
section
variable {P : Program} {w : World} {K : PySem.W.Frag} {mg : Str → Option Value} {base : Heap}
/-! ### cut_out -/
def spCutOut (K : PySem.W.Frag) : Sp := Pr fun vs H T => ∃ (v : V) (a b : Nat) (f : Pix) (x0 y0 m n : Nat), vs = [v, .int (x0 : Int), .int (y0 : Int), .int (m : Int), .int (n : Int)] ∧ PicP K a b f H v ∧ 0 < m ∧ 0 < n ∧ x0 + m ≤ a ∧ y0 + n ≤ b ∧ a ≤ 99 ∧ b ≤ 99 ∧ T = PicP K m n (fun x y => f (x0 + x) (y0 + y))
theorem scCutOut : FnScope ["picture", "x", "y", "width", "height", "row"] ["picture", "x", "y", "width", "height"] (defScope sCutOut) := ⟨rfl, rfl, rfl, by decide +kernel, rfl, by decide +kernel, by decide +kernel⟩
theorem cal_cutout (D : DefAt K mg "cut_out" sCutOut) (C0 : Cal P w K mg base 1 "is_in" ["picture", "x", "y"] (spIsIn K)) (C1 : Cal P w K mg base 1 "rows_of" ["picture"] (spRowsOf K)) (C2 : Cal P w K mg base 1 "of_rows" ["rows"] (spOfRows K)) :
    Cal P w K mg base 2 "cut_out" ["picture", "x", "y", "width", "height"] (spCutOut K) := by
  refine cal_of D scCutOut (fun _ _ _ _ _ _ us hl => match us, hl with | [_, _, _, _, _], _ => rfl) (fun vs H Q E h => ?_) (fun fa cdv A outer s H vs Q E hr h => ?_)
  · obtain ⟨T, ⟨v, a, b, f, x0, y0, m, n, rfl, _⟩, _⟩ := h
    rfl
  · obtain ⟨T, ⟨v, a, b, f, x0, y0, m, n, rfl, hpic, m0, n0, hx, hy, a9, b9, rfl⟩, q⟩ := h
    refine ⟨_, pss_cons (ps_if (PW.pt (pw_or (pt_cmpR op_lt (pv 3) pe_int (nomark _)) (pw_or (pt_cmpR op_lt (pv 4) pe_int (nomark _))
        (pw_or (pt_not (pt_val (pe_cal C0 hr (by rfl) (pa_cons (pv 0) (pa_cons (pv 1) (pa_cons (pv 2) pa_nil))))))
        (pw_or1 (pt_not (pt_val (pe_cal C0 hr (by rfl) (pa_cons (pv 0) (pa_cons (pe_op op_sub (pe_op op_add (pv 1) (pv 3)) pe_int) (pa_cons (pe_op op_sub (pe_op op_add (pv 2) (pv 4)) pe_int) pa_nil)))))))))))
        pss_never pss_nil)
      (pss_one (ps_ret (pe_cal C2 hr (by rfl) (pa_cons (pe_lc (own := [("row", 5)]) (g := gName 5) (tt := tYes) rfl scCutOut.nd (pi_list (pe_slice sl_list (pe_cal C1 hr (by rfl) (pa_cons (pv 0) pa_nil)) (po_some (pv 2)) (po_some (pe_op op_add (pv 2) (pv 4)))))
            (blkOk_by (own := [("row", 5)]) (N := ["picture", "x", "y", "width", "height", "row"]) (sc := defScope sCutOut) (by decide +kernel))
            (fun _ _ _ _ _ => pg_name (i := 5) scCutOut.nd rfl (Or.inl rfl)) (fun _ _ _ _ _ => pts_nil) (fun _ _ _ _ _ => pe_slice (r := rSlA K) sl_tupA (pv 5) (po_some (pv 1)) (po_some (pe_op op_add (pv 1) (pv 3))))) pa_nil)))), ?_⟩
    refine ⟨_, rfl, (m : Int), 1, rfl, rfl, _, rfl, ?_⟩
    rw [decide_eq_false (show ¬ (m : Int) < 1 by omega)]
    refine iteF ⟨_, rfl, (n : Int), 1, rfl, rfl, _, rfl, ?_⟩
    rw [decide_eq_false (show ¬ (n : Int) < 1 by omega)]
    refine iteF ⟨_, rfl, _, rfl, _, rfl, _, ⟨_, a, b, f, _, _, rfl, hpic, rfl⟩, fun v1 H1 e1 z1 => ⟨true, by rw [z1, inB_true.mpr ⟨⟨by omega, by omega⟩, by omega, by omega⟩], ?_⟩⟩
    refine iteF ⟨_, rfl, _, rfl, _, rfl, (x0 : Int), (m : Int), rfl, rfl, (x0 : Int) + (m : Int), 1, rfl, rfl, _, rfl, _, rfl, (y0 : Int), (n : Int), rfl, rfl, (y0 : Int) + (n : Int), 1, rfl, rfl, _, ⟨_, a, b, f, _, _, rfl, hpic.ex e1, rfl⟩, fun v2 H2 e2 z2 => ⟨true, by rw [z2, inB_true.mpr ⟨⟨by omega, by omega⟩, by omega, by omega⟩], iteF ?_⟩⟩
    have e12 := e1.trans e2
    refine ⟨_, rfl, _, ⟨_, a, b, f, rfl, hpic.ex e12, by omega, by omega, a9, b9, rfl⟩, fun v3 H3 e3 ⟨p, rs, ev, hl, its⟩ => ?_⟩
    subst ev
    refine ⟨_, rfl, (y0 : Int), rfl, _, rfl, _, rfl, (y0 : Int), (n : Int), rfl, rfl, _, rfl, p, rs, rfl, .inl (.inl hl), fun pn hn => ⟨pn, rfl, ⟨_, .inl (.inl upd_same)⟩, fun Dl hD => ?_⟩⟩
    have en := Evl.Ex.new (o := HO.lst (cutV rs (some (y0 : Int)) (some ((y0 : Int) + (n : Int))))) hn
    have part := cut_nat its hy
    refine lcP (fun y => RowP K m fun x => f (x0 + x) (y0 + y)) (wk_lst (.inl (.inl upd_same))) hD (by rw [part.1]; omega) (Mo.kd (fun y => RowP.mo K m _) _) ?_ ?_ gName_mono
    · rintro y x H' H'' hy' e ⟨rfl, hx'⟩
      obtain ⟨px, cs, rfl, hs, ic⟩ := part.2 y x hx'
      refine ⟨Evl.Ex.refl _, fun Q1 k => ⟨rfl, ?_⟩⟩
      refine ⟨_, rfl, _, rfl, (x0 : Int), rfl, _, rfl, _, rfl, (x0 : Int), (m : Int), rfl, rfl, _, rfl, ?_⟩
      exact sl_go (Evl.ex_t (en.trans e) hs) (cut_nat (ic.mono fun i u _ z => ColP.mo K _ _ _ _ (Kp.ex (en.trans e)) z) hx) (fun _ => ColP.mo K _) k
    · intro H' ys e hl' its'
      rw [part.1] at its'
      exact ⟨_, ⟨_, m, n, fun x y => f (x0 + x) (y0 + y), rfl, ⟨Dl, ys, rfl, hl', its'⟩, m0, n0, by omega, by omega, rfl⟩, fun v H4 e4 z => q v H4 ((((e12.trans e3).trans en).trans e).trans e4) z⟩
/-! ### beside -/
def besideF (a1 : Nat) (f g : Pix) : Pix := fun x y => if x < a1 then f x y else g (x - a1) y
def spBeside (K : PySem.W.Frag) : Sp := Pr fun vs H T => ∃ (v u : V) (a1 a2 b : Nat) (f g : Pix), vs = [v, u] ∧ PicP K a1 b f H v ∧ PicP K a2 b g H u ∧ 0 < a1 ∧ 0 < a2 ∧ 0 < b ∧ a1 + a2 ≤ 99 ∧ b ≤ 99 ∧ T = PicP K (a1 + a2) b (besideF a1 f g)
theorem scBeside : FnScope ["one", "other", "left", "right"] ["one", "other"] (defScope sBeside) := ⟨rfl, rfl, rfl, by decide +kernel, rfl, by decide +kernel, by decide +kernel⟩
def gPair (K : PySem.W.Frag) (i j : Nat) : TG := gTup K 2 (gCons (gName i) (gCons (gName j) gNil))
theorem gPair_mono {K : PySem.W.Frag} {i j : Nat} (x : V) (σ' : L2.St) (H : Hp) (Q Q' : L2.St → Hp → Prop) (h : ∀ σ2 H2, Q σ2 H2 → Q' σ2 H2) (q : gPair K i j x σ' H Q) : gPair K i j x σ' H Q' := by
  obtain ⟨a, xs, e1, e2, e3, v, r, e4, u, r2, e5, e6, q⟩ := q
  exact ⟨a, xs, e1, e2, e3, v, r, e4, u, r2, e5, e6, h _ _ q⟩
theorem cal_beside (D : DefAt K mg "beside" sBeside) (B : Blt mg) (C0 : Cal P w K mg base 1 "must_be_small" ["width", "height"] spSmall) (C1 : Cal P w K mg base 1 "rows_of" ["picture"] (spRowsOf K)) (C2 : Cal P w K mg base 1 "of_rows" ["rows"] (spOfRows K)) :
    Cal P w K mg base 2 "beside" ["one", "other"] (spBeside K) := by
  refine cal_of D scBeside (fun _ _ _ _ _ _ us hl => match us, hl with | [_, _], _ => rfl) (fun vs H Q E h => ?_) (fun fa cdv A outer s H vs Q E hr h => ?_)
  · obtain ⟨T, ⟨v, u, a1, a2, b, f, g, rfl, _⟩, _⟩ := h
    rfl
  · obtain ⟨T, ⟨v, u, a1, a2, b, f, g, rfl, hone, hother, a10, a20, b0, a9, b9, rfl⟩, q⟩ := h
    refine ⟨_, pss_cons (ps_if (pt_cmpR op_ne (pe_ix ix_tup (pv 0) pe_int (fun _ _ => rfl)) (pe_ix ix_tup (pv 1) pe_int (fun _ _ => rfl)) (nomark _)) pss_never pss_nil)
      (pss_cons (ps_expr (pe_cal C0 hr (by rfl) (pa_cons (pe_op op_add (pe_ix ix_tup (pv 0) pe_int (fun _ _ => rfl)) (pe_ix ix_tup (pv 1) pe_int (fun _ _ => rfl))) (pa_cons (pe_ix ix_tup (pv 0) pe_int (fun _ _ => rfl)) pa_nil))))
      (pss_one (ps_ret (pe_cal C2 hr (by rfl) (pa_cons (pe_lc (own := [("left", 2), ("right", 3)]) (g := gPair K 2 3) (tt := tYes) (te := tOp (rCatT K) (tVar 2) (tVar 3)) rfl scBeside.nd (pi_zip (by rfl) B.zip (pa_cons (pe_cal C1 hr (by rfl) (pa_cons (pv 0) pa_nil)) (pa_cons (pe_cal C1 hr (by rfl) (pa_cons (pv 1) pa_nil)) pa_nil)))
            (blkOk_by (own := [("left", 2), ("right", 3)]) (N := ["one", "other", "left", "right"]) (sc := defScope sBeside) (by decide +kernel))
            (fun _ _ _ _ _ => pg_tup rfl (pgs_cons (pg_name (i := 2) scBeside.nd rfl (Or.inl rfl)) (pgs_cons (pg_name (i := 3) scBeside.nd rfl (Or.inl rfl)) pgs_nil))) (fun _ _ _ _ _ => pts_nil) (fun _ _ _ _ _ => pe_op op_catT (pv 2) (pv 3))) pa_nil))))), ?_⟩
    obtain ⟨p, pc, cs, rfl, hp, hc, its⟩ := id hone
    obtain ⟨p2, pc2, cs2, rfl, hp2, hc2, its2⟩ := id hother
    refine ⟨_, rfl, p, _, 1, _, rfl, rfl, hp, atI_nat (j := 1) rfl, _, rfl, p2, _, 1, _, rfl, rfl, hp2, atI_nat (j := 1) rfl, rfl, _, rfl, iteNS rfl ?_⟩
    refine ⟨_, rfl, p, _, 0, _, rfl, rfl, hp, atI_nat (j := 0) rfl, _, rfl, p2, _, 0, _, rfl, rfl, hp2, atI_nat (j := 0) rfl, (a1 : Int), (a2 : Int), rfl, rfl, _, rfl, p, _, 1, _, rfl, rfl, hp, atI_nat (j := 1) rfl, _, ⟨(a1 : Int) + (a2 : Int), (b : Int), rfl, by omega, by omega, rfl⟩, fun _ H1 e1 _ => ?_⟩
    refine ⟨_, rfl, _, ⟨_, a1, b, f, rfl, hone.ex e1, a10, b0, by omega, b9, rfl⟩, fun v2 H2 e2 ⟨q1, rs1, ev1, hl1, it1⟩ => ?_⟩
    subst ev1
    refine ⟨_, rfl, _, ⟨_, a2, b, g, rfl, hother.ex (e1.trans e2), a20, b0, by omega, b9, rfl⟩, fun v3 H3 e3 ⟨q2, rs2, ev2, hl2, it2⟩ => ?_⟩
    subst ev2
    have hl1' := e3 _ _ hl1
    refine ⟨q1, q2, rs1, rs2, rfl, .inl (.inl hl1'), .inl (.inl hl2), fun Dl hD => ?_⟩
    refine lcP (fun y => RowP K (a1 + a2) fun x => besideF a1 f g x y) (n := b) ((walk_zip (n := b) (by rw [it1.1, it2.1]; exact (Nat.min_self b).symm)).mono (fun _ e => ⟨.inl (.inl (e _ _ hl1')), .inl (.inl (e _ _ hl2))⟩) fun _ _ _ _ _ _ z => z) hD (by omega) (Mo.kd (fun y => RowP.mo K _ _) _) ?_ ?_ gPair_mono
    · rintro y x H' H'' hy e ⟨Tp, l, r, rfl, nT, rfl, hxl, hxr⟩
      have eT := Evl.Ex.new (o := HO.tup [l, r]) nT
      obtain ⟨pl, cl, rfl, hsl, il⟩ := it1.2 y l hxl
      obtain ⟨pr, cr, rfl, hsr, ir⟩ := it2.2 y r hxr
      have ea := (e3.trans e).trans eT
      have eb := e.trans eT
      refine ⟨eT, fun Q1 k => ⟨Tp, _, rfl, SqT.of upd_same, rfl, _, _, rfl, _, _, rfl, rfl, rfl, ?_⟩⟩
      have ne1 : cl ≠ [] := fun z => by
        have := il.1
        rw [z] at this
        exact absurd this.symm (Nat.ne_of_gt a10)
      have ne2 : cr ≠ [] := fun z => by
        have := ir.1
        rw [z] at this
        exact absurd this.symm (Nat.ne_of_gt a20)
      refine ⟨_, rfl, _, rfl, pl, pr, cl, cr, rfl, rfl, Evl.ex_t ea hsl, Evl.ex_t eb hsr, ne1, by rw [il.1, ir.1, sizeLine_eq]; omega, fun z => absurd z ne2, fun _ pn hn => ?_⟩
      have en := Evl.Ex.new (o := HO.tup (cl ++ cr)) hn
      refine k _ _ (eT.trans en) ⟨pn, _, rfl, SqT.of upd_same, ?_⟩
      refine ((il.mono fun i u _ z => ColP.mo K _ _ _ _ (Kp.ex (ea.trans en)) z).append (ir.mono fun i u _ z => ColP.mo K _ _ _ _ (Kp.ex (eb.trans en)) z)).mono fun x u hx z => ?_
      show ColP K (if x < a1 then f x y else g (x - a1) y) _ u
      by_cases hxa : x < a1
      · rw [if_pos hxa]
        rw [if_pos hxa] at z
        exact z
      · rw [if_neg hxa]
        rw [if_neg hxa] at z
        exact z
    · intro H' ys e hl' its'
      exact ⟨_, ⟨_, a1 + a2, b, besideF a1 f g, rfl, ⟨Dl, ys, rfl, hl', its'⟩, by omega, b0, by omega, b9, rfl⟩, fun v H4 e4 z => q v H4 ((((e1.trans e2).trans e3).trans e).trans e4) z⟩
/-! ### stacked -/
def stackF (b1 : Nat) (f g : Pix) : Pix := fun x y => if y < b1 then f x y else g x (y - b1)
def spStacked (K : PySem.W.Frag) : Sp := Pr fun vs H T => ∃ (v u : V) (a b1 b2 : Nat) (f g : Pix), vs = [v, u] ∧ PicP K a b1 f H v ∧ PicP K a b2 g H u ∧ 0 < a ∧ 0 < b1 ∧ 0 < b2 ∧ b1 + b2 ≤ 99 ∧ a ≤ 99 ∧ T = PicP K a (b1 + b2) (stackF b1 f g)
theorem scStacked : FnScope ["one", "other"] ["one", "other"] (defScope sStacked) := ⟨rfl, rfl, rfl, by decide +kernel, rfl, by decide +kernel, by decide +kernel⟩
theorem cal_stacked (D : DefAt K mg "stacked" sStacked) (C0 : Cal P w K mg base 1 "must_be_small" ["width", "height"] spSmall) (C1 : Cal P w K mg base 1 "rows_of" ["picture"] (spRowsOf K)) (C2 : Cal P w K mg base 1 "of_rows" ["rows"] (spOfRows K)) :
    Cal P w K mg base 2 "stacked" ["one", "other"] (spStacked K) := by
  refine cal_of D scStacked (fun _ _ _ _ _ _ us hl => match us, hl with | [_, _], _ => rfl) (fun vs H Q E h => ?_) (fun fa cdv A outer s H vs Q E hr h => ?_)
  · obtain ⟨T, ⟨v, u, a, b1, b2, f, g, rfl, _⟩, _⟩ := h
    rfl
  · obtain ⟨T, ⟨v, u, a, b1, b2, f, g, rfl, hone, hother, a0, b10, b20, b9, a9, rfl⟩, q⟩ := h
    refine ⟨_, pss_cons (ps_if (pt_cmpR op_ne (pe_ix ix_tup (pv 0) pe_int (fun _ _ => rfl)) (pe_ix ix_tup (pv 1) pe_int (fun _ _ => rfl)) (nomark _)) pss_never pss_nil)
      (pss_cons (ps_expr (pe_cal C0 hr (by rfl) (pa_cons (pe_ix ix_tup (pv 0) pe_int (fun _ _ => rfl)) (pa_cons (pe_op op_add (pe_ix ix_tup (pv 0) pe_int (fun _ _ => rfl)) (pe_ix ix_tup (pv 1) pe_int (fun _ _ => rfl))) pa_nil))))
      (pss_one (ps_ret (pe_cal C2 hr (by rfl) (pa_cons (pe_op op_cat (pe_cal C1 hr (by rfl) (pa_cons (pv 0) pa_nil)) (pe_cal C1 hr (by rfl) (pa_cons (pv 1) pa_nil))) pa_nil))))), ?_⟩
    obtain ⟨p, pc, cs, rfl, hp, hc, its⟩ := id hone
    obtain ⟨p2, pc2, cs2, rfl, hp2, hc2, its2⟩ := id hother
    refine ⟨_, rfl, p, _, 0, _, rfl, rfl, hp, atI_nat (j := 0) rfl, _, rfl, p2, _, 0, _, rfl, rfl, hp2, atI_nat (j := 0) rfl, rfl, _, rfl, iteNS rfl ?_⟩
    refine ⟨_, rfl, p, _, 0, _, rfl, rfl, hp, atI_nat (j := 0) rfl, _, rfl, p, _, 1, _, rfl, rfl, hp, atI_nat (j := 1) rfl, _, rfl, p2, _, 1, _, rfl, rfl, hp2, atI_nat (j := 1) rfl, (b1 : Int), (b2 : Int), rfl, rfl, _, ⟨(a : Int), (b1 : Int) + (b2 : Int), rfl, by omega, by omega, rfl⟩, fun _ H1 e1 _ => ?_⟩
    refine ⟨_, rfl, _, ⟨_, a, b1, f, rfl, hone.ex e1, a0, b10, a9, by omega, rfl⟩, fun v2 H2 e2 ⟨q1, rs1, ev1, hl1, it1⟩ => ?_⟩
    subst ev1
    refine ⟨_, rfl, _, ⟨_, a, b2, g, rfl, hother.ex (e1.trans e2), a0, b20, a9, by omega, rfl⟩, fun v3 H3 e3 ⟨q2, rs2, ev2, hl2, it2⟩ => ?_⟩
    subst ev2
    refine ⟨q1, q2, rs1, rs2, rfl, rfl, e3 _ _ hl1, hl2, by rw [it1.1, it2.1, sizeLine_eq]; omega, fun pn hn => ?_⟩
    have en := Evl.Ex.new (o := HO.lst (rs1 ++ rs2)) hn
    refine ⟨_, ⟨_, a, b1 + b2, stackF b1 f g, rfl, ⟨pn, _, rfl, upd_same, ?_⟩, a0, by omega, a9, by omega, rfl⟩, fun v H4 e4 z => q v H4 ((((e1.trans e2).trans e3).trans en).trans e4) z⟩
    refine ((it1.mono fun i u _ z => RowP.mo K _ _ _ _ _ (Kp.ex (e3.trans en)) z).append (it2.mono fun i u _ z => RowP.mo K _ _ _ _ _ (Kp.ex en) z)).mono fun y u hy z => ?_
    by_cases hyb : y < b1
    · rw [if_pos hyb] at z
      exact z.imp fun x c _ q => by
        show ColP K (if y < b1 then f x y else g x (y - b1)) _ c
        rw [if_pos hyb]
        exact q
    · rw [if_neg hyb] at z
      exact z.imp fun x c _ q => by
        show ColP K (if y < b1 then f x y else g x (y - b1)) _ c
        rw [if_neg hyb]
        exact q
end
end K08
namespace K08
open PySem PySem.Spec PyProof.Rows L2
open Evl (Ex)
/-! ### the blocks of comprehensions within comprehensions -/
def lcScope : Expr → Scope
  | .ListComp _ _ sc _ => sc
  | _ => { kind := .function, names := [], isGenerator := false, isCoroutine := false }
def asgVal : Stmt → Expr
  | .Assign _ e _ => e
  | _ => .Constant .none 0 ⟨0, 0, 0, 0⟩
def retVal : Stmt → Expr
  | .Return (some e) _ => e
  | _ => .Constant .none 0 ⟨0, 0, 0, 0⟩
def nthStmt (st : Stmt) (i : Nat) : Stmt := (defBody st).getD i (.Pass ⟨0, 0, 0, 0⟩)
def rTupOf (K : PySem.W.Frag) : List V → Hp → VK → Prop := fun xs H Q => ∃ p ys, xs = [.ref p] ∧ ((SqL K H p ys ∧ ∀ l, H l = none → Q (.ref l) (upd H l (.tup ys))) ∨ (SqT K H p ys ∧ Q (.ref p) H))
theorem cr_tupOf {X : Cx} : CallR X (.type "tuple") (rTupOf X.K) := call_tuple_of
section
variable {P : Program} {w : World} {K : PySem.W.Frag} {mg : Str → Option Value} {base : Heap}
/-! ### grown -/
def growF (k : Nat) (f : Pix) : Pix := fun x y => f (x / k) (y / k)
def spGrown (K : PySem.W.Frag) : Sp := Pr fun vs H T => ∃ (v : V) (a b k : Nat) (f : Pix), vs = [v, .int (k : Int)] ∧ PicP K a b f H v ∧ 0 < a ∧ 0 < b ∧ 0 < k ∧ a ≤ 99 ∧ b ≤ 99 ∧ k ≤ 99 ∧ a * k ≤ 99 ∧ b * k ≤ 99 ∧ T = PicP K (a * k) (b * k) (growF k f)
theorem scGrown : FnScope ["picture", "by", "width", "height", "cells", "wide", "row", "cell", "k"] ["picture", "by"] (defScope sGrown) := ⟨rfl, rfl, rfl, by decide +kernel, rfl, by decide +kernel, by decide +kernel⟩
def tWide (K : PySem.W.Frag) : TE := tCB (rTupOf K) (tCons (tLc2 (iTup K (tVar 6)) (gName 7) tYes (iRng1 (tCons (tVar 1) tNil)) (gName 8) tYes (tVar 7) [7, 8] [8]) tNil)
theorem cal_grown (D : DefAt K mg "grown" sGrown) (B : Blt mg) (C0 : Cal P w K mg base 1 "must_be_small" ["width", "height"] spSmall) (C1 : Cal P w K mg base 1 "rows_of" ["picture"] (spRowsOf K)) (C2 : Cal P w K mg base 1 "of_rows" ["rows"] (spOfRows K)) :
    Cal P w K mg base 2 "grown" ["picture", "by"] (spGrown K) := by
  refine cal_of D scGrown (fun _ _ _ _ _ _ us hl => match us, hl with | [_, _], _ => rfl) (fun vs H Q E h => ?_) (fun fa cdv A outer s H vs Q E hr h => ?_)
  · obtain ⟨T, ⟨v, a, b, k, f, rfl, _⟩, _⟩ := h
    rfl
  · obtain ⟨T, ⟨v, a, b, k, f, rfl, hpic, a0, b0, k0, a9, b9, k9, ak, bk, rfl⟩, q⟩ := h
    refine ⟨_, pss_cons (ps_asg (pv 0) (pg_tup rfl (pgs_cons (pg_name (i := 2) scGrown.nd rfl (Or.inl rfl)) (pgs_cons (pg_name (i := 3) scGrown.nd rfl (Or.inl rfl)) (pgs_cons (pg_name (i := 4) scGrown.nd rfl (Or.inl rfl)) pgs_nil)))))
      (pss_cons (ps_expr (pe_cal C0 hr (by rfl) (pa_cons (pe_op op_mul (pv 2) (pv 1)) (pa_cons (pe_op op_mul (pv 3) (pv 1)) pa_nil))))
      (pss_cons (ps_setLc (i := 5) (own := [("row", 6)]) (g := gName 6) (tt := tYes) (te := tWide K) rfl scGrown.nd rfl rfl (sw_true rfl rfl rfl (by decide +kernel)) (pi_list (pe_cal C1 hr (by rfl) (pa_cons (pv 0) pa_nil)))
          (blkOk_by (own := [("row", 6)]) (N := ["picture", "by", "width", "height", "cells", "wide", "row", "cell", "k"]) (sc := defScope sGrown) (by decide +kernel))
          (fun _ _ _ _ _ => pg_name (i := 6) scGrown.nd rfl (Or.inl rfl)) (fun _ _ _ _ _ => pts_nil)
          (fun _ _ _ _ _ => pe_callTy cr_tupOf (by rfl) B.tuple PyProof.Rows.boot_tuple (pa_cons
            (pe_lc2 (own := [("cell", 7), ("k", 8)]) (vs1 := [8]) (g := gName 7) (g1 := gName 8) (tt := tYes) (tt1 := tYes) (wi := iTup K (tVar 6)) (wi1 := iRng1 (tCons (tVar 1) tNil)) (te := tVar 7) rfl scGrown.nd (pi_tup (pv 6))
              (blkOk_by (own := [("cell", 7), ("k", 8)]) (N := ["picture", "by", "width", "height", "cells", "wide", "row", "cell", "k"]) (sc := relS (lcScope (asgVal (nthStmt sGrown 2))) (defScope sGrown)) (by decide +kernel)) (by decide)
              (fun _ _ _ _ _ => pg_name (i := 7) scGrown.nd rfl (Or.inl rfl)) (fun _ _ _ _ _ => pts_nil) (fun _ _ _ _ _ => pi_range1 (by rfl) B.range (pa_cons (pv 1) pa_nil)) (fun _ _ _ _ _ => pg_name (i := 8) scGrown.nd rfl (Or.inl rfl)) (fun _ _ _ _ _ => pts_nil)
              (fun _ _ _ _ _ => pv 7)) pa_nil)))
      (pss_one (ps_ret (pe_cal C2 hr (by rfl) (pa_cons (pe_lc2 (own := [("row", 6), ("k", 8)]) (vs1 := [8]) (g := gName 6) (g1 := gName 8) (tt := tYes) (tt1 := tYes) (wi1 := iRng1 (tCons (tVar 1) tNil)) (te := tVar 6) rfl scGrown.nd (pi_list (pv 5))
          (blkOk_by (own := [("row", 6), ("k", 8)]) (N := ["picture", "by", "width", "height", "cells", "wide", "row", "cell", "k"]) (sc := defScope sGrown) (by decide +kernel)) (by decide)
          (fun _ _ _ _ _ => pg_name (i := 6) scGrown.nd rfl (Or.inl rfl)) (fun _ _ _ _ _ => pts_nil) (fun _ _ _ _ _ => pi_range1 (by rfl) B.range (pa_cons (pv 1) pa_nil)) (fun _ _ _ _ _ => pg_name (i := 8) scGrown.nd rfl (Or.inl rfl)) (fun _ _ _ _ _ => pts_nil)
          (fun _ _ _ _ _ => pv 6)) pa_nil)))))), ?_⟩
    obtain ⟨p, pc, cs, rfl, hp, hc, its⟩ := id hpic
    refine ⟨_, rfl, unpack3 rfl hp ?_⟩
    have ka : (a : Int) * (k : Int) ≤ 99 := by
      have : ((a * k : Nat) : Int) ≤ 99 := by omega
      rw [Int.natCast_mul] at this
      exact this
    have kb : (b : Int) * (k : Int) ≤ 99 := by
      have : ((b * k : Nat) : Int) ≤ 99 := by omega
      rw [Int.natCast_mul] at this
      exact this
    refine ⟨_, rfl, _, rfl, (a : Int), (k : Int), rfl, rfl, .inl ⟨by omega, by omega⟩, _, rfl, _, rfl, (b : Int), (k : Int), rfl, rfl, .inl ⟨by omega, by omega⟩, _, ⟨_, _, rfl, ka, kb, rfl⟩, fun _ H1 e1 _ => ?_⟩
    refine ⟨_, rfl, _, ⟨_, a, b, f, rfl, hpic.ex e1, a0, b0, a9, b9, rfl⟩, fun v2 H2 e2 ⟨r1, rs, ev, hl, it⟩ => ?_⟩
    subst ev
    refine ⟨r1, rfl, ⟨_, .inl (.inl hl)⟩, fun Dl hD => ?_⟩
    refine lcP (fun y => RowP K (a * k) fun x => f (x / k) y) (wk_lst (.inl (.inl hl))) hD (by rw [it.1]; omega) (Mo.kd (fun y => RowP.mo K _ _) _) ?_ ?_ gName_mono
    · rintro y x H' H'' hy e ⟨rfl, hx⟩
      obtain ⟨px, cl, rfl, hs, ic⟩ := it.2 y x hx
      refine ⟨Evl.Ex.refl _, fun Q1 kk => ⟨rfl, ?_⟩⟩
      refine ⟨_, rfl, px, rfl, ⟨cl, Evl.ex_t e hs⟩, fun D2 hD2 => ?_⟩
      refine lc2P (T := fun i x => cl[i]? = some x) k (fun i => ColP K (f (i / k) y)) (wk_tup (Evl.ex_t e hs)) hD2 (by rw [ic.1]; omega) (Mo.kd (fun _ => ColP.mo K _) _) (fun _ => rfl) (fun _ _ => rfl) ?_ ?_
      · intro i c H3 hi hc' e3 R kr
        refine ⟨_, rfl, (k : Int), rfl, by omega, by omega, ?_⟩
        refine kr _ H3 (fun j u => u = V.int ((0 : Int) + (j : Int))) (Evl.Ex.refl _) (by rw [Int.toNat_natCast]; exact wi_rng) fun j x' H5 hj _ kd ex Q1 kq => ?_
        refine ⟨_, rfl, kq _ _ (Evl.Ex.refl _) ?_⟩
        rw [ix_div hj]
        exact ColP.mo K _ _ _ _ ((Kp.ex (e.trans ex))) (ic.2 i c hc')
      · intro H3 ys e3 hD3 its3
        rw [ic.1] at its3
        refine ⟨D2, ys, rfl, .inl ⟨.inl (.inl hD3), fun l hl' => ?_⟩⟩
        have en := Evl.Ex.new (o := HO.tup ys) hl'
        exact kk _ _ (e3.trans en) ⟨l, ys, rfl, SqT.of upd_same, its3.mono fun i u _ z => ColP.mo K _ _ _ _ (Kp.ex en) z⟩
    · intro H3 ws e3 hl3 it3
      rw [it.1] at it3
      refine ⟨_, rfl, Dl, rfl, ⟨_, .inl (.inl hl3)⟩, fun D2 hD2 => ?_⟩
      refine lc2P (T := fun i x => ws[i]? = some x) k (fun i => RowP K (a * k) fun x => f (x / k) (i / k)) (wk_lst (K := K) (.inl (.inl hl3))) hD2 (by rw [it3.1]; omega) (Mo.kd (fun y => RowP.mo K _ _) _) (fun _ => rfl) (fun _ _ => rfl) ?_ ?_
      · intro i c H4 hi hc' e4 R kr
        refine ⟨_, rfl, (k : Int), rfl, by omega, by omega, ?_⟩
        refine kr _ H4 (fun j u => u = V.int ((0 : Int) + (j : Int))) (Evl.Ex.refl _) (by rw [Int.toNat_natCast]; exact wi_rng) fun j x' H5 hj _ kd ex Q1 kq => ?_
        refine ⟨_, rfl, kq _ _ (Evl.Ex.refl _) ?_⟩
        show RowP K (a * k) (fun x => f (x / k) ((i * k + j) / k)) H5 c
        rw [ix_div hj]
        exact RowP.mo K _ _ _ _ _ (Kp.ex ex) (it3.2 i c hc')
      · intro H4 ys e4 hl4 it4
        rw [it3.1] at it4
        exact ⟨_, ⟨_, a * k, b * k, growF k f, rfl, ⟨D2, ys, rfl, hl4, it4⟩, Nat.mul_pos a0 k0, Nat.mul_pos b0 k0, ak, bk, rfl⟩, fun v H5 e5 z => q v H5 ((((e1.trans e2).trans e3).trans e4).trans e5) z⟩
end
end K08
namespace K08
open PySem PySem.Spec PyProof.Rows L2
open Evl (Ex)
section
variable {P : Program} {w : World} {K : PySem.W.Frag} {mg : Str → Option Value} {base : Heap}
/-! ### sized -/
def sizeF (a b m n : Nat) (f : Pix) : Pix := fun x y => f (x * a / m) (y * b / n)
def spSized (K : PySem.W.Frag) : Sp := Pr fun vs H T => ∃ (v : V) (a b m n : Nat) (f : Pix), vs = [v, .int (m : Int), .int (n : Int)] ∧ PicP K a b f H v ∧ 0 < a ∧ 0 < b ∧ 0 < m ∧ 0 < n ∧ a ≤ 99 ∧ b ≤ 99 ∧ m ≤ 99 ∧ n ≤ 99 ∧ T = PicP K m n (sizeF a b m n f)
theorem scSized : FnScope ["picture", "width", "height", "rows", "found", "y", "row", "x"] ["picture", "width", "height"] (defScope sSized) := ⟨rfl, rfl, rfl, by decide +kernel, rfl, by decide +kernel, by decide +kernel⟩
theorem cal_sized (D : DefAt K mg "sized" sSized) (B : Blt mg) (C1 : Cal P w K mg base 1 "rows_of" ["picture"] (spRowsOf K)) (C2 : Cal P w K mg base 1 "of_rows" ["rows"] (spOfRows K)) :
    Cal P w K mg base 2 "sized" ["picture", "width", "height"] (spSized K) := by
  refine cal_of D scSized (fun _ _ _ _ _ _ us hl => match us, hl with | [_, _, _], _ => rfl) (fun vs H Q E h => ?_) (fun fa cdv A outer s H vs Q E hr h => ?_)
  · obtain ⟨T, ⟨v, a, b, m, n, f, rfl, _⟩, _⟩ := h
    rfl
  · obtain ⟨T, ⟨v, a, b, m, n, f, rfl, hpic, a0, b0, m0, n0, a9, b9, m9, n9, rfl⟩, q⟩ := h
    refine ⟨_, pss_cons (ps_set (i := 3) scSized.nd rfl (.inl rfl) (pe_cal C1 hr (by rfl) (pa_cons (pv 0) pa_nil)))
      (pss_cons (ps_set (i := 4) scSized.nd rfl (.inl rfl) (pe_lst pa_nil))
      (pss_cons (ps_for PassesOwn.never rfl (pi_range1 (by rfl) B.range (pa_cons (pv 2) pa_nil)) (pg_name (i := 5) scSized.nd rfl (Or.inl rfl))
        (pss_cons (ps_set (i := 6) scSized.nd rfl (.inr rfl) (pe_ix ix_list (pv 3) (pe_op op_fdiv (pe_op op_mul (pv 5) (pe_ix ix_tup (pv 0) pe_int (fun _ _ => rfl))) (pv 2)) (fun _ _ => rfl)))
        (pss_one (ps_expr (pe_bm PySem.F.plainAttrs_list PySem.F.slot_list_append PySem.F.type_list_append mt_append (pv 4) (pa_cons
          (pe_callTy cr_tupOf (by rfl) B.tuple PyProof.Rows.boot_tuple (pa_cons
            (pe_lc (own := [("x", 7)]) (g := gName 7) (tt := tYes) rfl scSized.nd (pi_range1 (by rfl) B.range (pa_cons (pv 1) pa_nil)) (blkOk_by (own := [("x", 7)]) (N := ["picture", "width", "height", "rows", "found", "y", "row", "x"]) (sc := defScope sSized) (by decide +kernel))
              (fun _ _ _ _ _ => pg_name (i := 7) scSized.nd rfl (Or.inl rfl)) (fun _ _ _ _ _ => pts_nil)
              (fun _ _ _ _ _ => pe_ix (r := rIxT K) ix_tup (pv 6) (pe_op op_fdiv (pe_op op_mul (pv 7) (pe_ix (r := rIxT K) ix_tup (pv 0) pe_int (fun _ _ => rfl))) (pv 1)) (fun _ _ => rfl))) pa_nil)) pa_nil))))))
      (pss_one (ps_ret (pe_cal C2 hr (by rfl) (pa_cons (pv 4) pa_nil)))))), ?_⟩
    refine ⟨_, rfl, _, ⟨_, a, b, f, rfl, hpic, a0, b0, a9, b9, rfl⟩, fun v1 H1 e1 ⟨r1, rs, ev, hl, it⟩ => ?_⟩
    subst ev
    obtain ⟨p, pc, cs, rfl, hp, hc, its⟩ := hpic.ex e1
    refine ⟨Nat.zero_le _, fun fo nf => ?_⟩
    have ef := Evl.Ex.new (o := HO.lst []) nf
    refine ⟨_, rfl, (n : Int), rfl, by omega, by omega, ?_⟩
    refine for_range (lo := 0) (n := (n : Int).toNat) (fun i σ' H' => ∃ y5 y6 y7, σ' = [some (V.ref p), some (.int (m : Int)), some (.int (n : Int)), some (.ref r1), some (.ref fo), y5, y6, y7] ∧ Ex H1 H' ∧ ∃ ys, H' fo = some (.lst ys) ∧ ItsP ys i (fun y => RowP K m fun x => sizeF a b m n f x y) H')
      ⟨none, none, none, rfl, ef, [], upd_same, .nil⟩ ?_ ?_
    · rintro y σ' H' hy ⟨y5, y6, y7, rfl, e, ys, hfo, iy⟩
      have hy' : y < n := by omega
      have hlt : y * b / n < b := Nat.div_lt_of_lt_mul (Nat.mul_lt_mul_of_pos_right hy' b0)
      obtain ⟨u, g, px, cl, rfl, hs, ic⟩ := it.get hlt
      -- row = rows[..]
      have ei : ((0 : Int) + (y : Int)) * (b : Int) / (n : Int) = ((y * b / n : Nat) : Int) := by
        rw [Int.zero_add, Int.natCast_ediv, Int.natCast_mul]
      refine ⟨_, rfl, _, rfl, _, rfl, p, _, 1, _, rfl, rfl, Evl.ex_t e hp, atI_nat (j := 1) rfl, (0 : Int) + (y : Int), (b : Int), rfl, rfl, .inl ⟨by omega, by omega⟩, _, rfl, _, (n : Int), rfl, rfl, ⟨by omega, by omega⟩, r1, rs, _, _, rfl, rfl, Evl.ex_l e (.inl (.inl hl)), at_of ei g, ?_⟩
      -- found.append(tuple([..]))
      refine ⟨_, rfl, .inl ⟨rfl, _, .inl (.inl hfo)⟩, _, rfl, (m : Int), rfl, by omega, by omega, fun Dl hD => ?_⟩
      refine lcP (fun x => ColP K (sizeF a b m n f x y)) wk_rng hD (by omega) (Mo.kd (fun _ => ColP.mo K _) _) ?_ ?_ gName_mono
      · rintro x xv H2 H3 hx e2 ⟨rfl, rfl⟩
        have hx' : x < m := by omega
        have hlx : x * a / m < a := Nat.div_lt_of_lt_mul (Nat.mul_lt_mul_of_pos_right hx' a0)
        obtain ⟨c, gc, hcol⟩ := ic.get hlx
        have ex : ((0 : Int) + (x : Int)) * (a : Int) / (m : Int) = ((x * a / m : Nat) : Int) := by
          rw [Int.zero_add, Int.natCast_ediv, Int.natCast_mul]
        refine ⟨Evl.Ex.refl _, fun Q1 k => ⟨rfl, ?_⟩⟩
        refine ⟨_, rfl, _, rfl, _, rfl, p, _, 0, _, rfl, rfl, Evl.ex_t (e.trans e2) hp, atI_nat (j := 0) rfl, (0 : Int) + (x : Int), (a : Int), rfl, rfl, .inl ⟨by omega, by omega⟩, _, rfl, _, (m : Int), rfl, rfl, ⟨by omega, by omega⟩, px, cl, _, c, rfl, rfl, Evl.ex_t (e.trans e2) hs, at_of ex gc, k _ _ (Evl.Ex.refl _) ?_⟩
        exact ColP.mo K _ _ _ _ (Kp.ex (e.trans e2)) hcol
      · intro H2 zs e2 hD2 iz
        refine ⟨Dl, zs, rfl, .inl ⟨.inl (.inl hD2), fun t nt => ?_⟩⟩
        have et := Evl.Ex.new (o := HO.tup zs) nt
        have hfo2 := (e2.trans et) _ _ hfo
        refine ⟨fo, ys, .ref t, rfl, rfl, hfo2, by rw [iy.1, sizeLine_eq]; omega, ?_⟩
        refine ⟨_, _, _, rfl, Evl.Ex.mut ((e.trans e2).trans et) nf, _, upd_same, ?_⟩
        rw [Int.toNat_natCast] at iz
        refine (iy.mono fun i u _ z => RowP.mo K _ _ _ _ _ ((Kp.ex (e2.trans et)).trans (Kp.lst hfo2)) z).snoc ⟨t, zs, rfl, (Kp.lst hfo2).sq (SqT.of upd_same), ?_⟩
        exact iz.mono fun i u _ z => ColP.mo K _ _ _ _ ((Kp.ex et).trans (Kp.lst hfo2)) z
    · rintro σ' H' ⟨y5, y6, y7, rfl, e, ys, hfo, iy⟩
      rw [Int.toNat_natCast] at iy
      exact ⟨_, rfl, _, ⟨_, m, n, sizeF a b m n f, rfl, ⟨fo, ys, rfl, hfo, iy⟩, m0, n0, m9, n9, rfl⟩, fun v H2 e2 z => q v H2 ((e1.trans e).trans e2) z⟩
end
end K08
namespace K08
open PySem PySem.Spec PyProof.Rows L2
open Evl (Ex)
theorem sum_rep (x : Int) : ∀ n : Nat, (List.replicate n x).sum = (n : Int) * x
  | 0 => by simp
  | n + 1 => by
    rw [List.replicate_succ, List.sum_cons, sum_rep x n, Int.natCast_add, Int.add_mul]
    omega
theorem round_eq {N x : Int} (h : 0 < N) : (2 * (N * x) + N) / (2 * N) = x := by
  have e : 2 * (N * x) + N = N + (2 * N) * x := by
    rw [Int.mul_assoc]
    omega
  rw [e, Int.add_mul_ediv_left _ _ (by omega), Int.ediv_eq_zero_of_lt (by omega) (by omega)]
  omega
/-- the four parts by their places -/
def cp (c : Col) : Nat → Int
  | 0 => c.1
  | 1 => c.2.1
  | 2 => c.2.2.1
  | _ => c.2.2.2
theorem cp_at (c : Col) {i : Nat} (hi : i < 4) : [V.int c.1, V.int c.2.1, V.int c.2.2.1, V.int c.2.2.2][i]? = some (V.int (cp c i)) := by
  match i, hi with
  | 0, _ => rfl
  | 1, _ => rfl
  | 2, _ => rfl
  | 3, _ => rfl
/-- parts in bounds; a clear one is all 0 -/
def NormC (c : Col) : Prop := OkC c ∧ (c.2.2.2 = 0 → c = (0, 0, 0, 0))
section
variable {P : Program} {w : World} {K : PySem.W.Frag} {mg : Str → Option Value} {base : Heap}
/-! ### rounded -/
def spRounded : Sp := Pr fun vs H T => ∃ x n : Int, vs = [.int x, .int n] ∧ 0 < n ∧ n < 100000 ∧ T = fun _ v => v = .int ((2 * x + n) / (2 * n))
theorem scRounded : FnScope ["one", "by"] ["one", "by"] (defScope sRounded) := ⟨rfl, rfl, rfl, by decide +kernel, rfl, by decide +kernel, by decide +kernel⟩
theorem cal_rounded (D : DefAt K mg "rounded" sRounded) : Cal P w K mg base 1 "rounded" ["one", "by"] spRounded := by
  refine cal_of D scRounded (fun _ _ _ _ _ _ us hl => match us, hl with | [_, _], _ => rfl) (fun vs H Q E h => ?_) (fun fa cdv A outer s H vs Q E hr h => ?_)
  · obtain ⟨T, ⟨x, n, rfl, _⟩, _⟩ := h
    rfl
  · obtain ⟨T, ⟨x, n, rfl, n0, n1, rfl⟩, q⟩ := h
    refine ⟨_, pss_one (ps_ret (pe_op op_fdiv (pe_op op_add (pe_op op_mul pe_int (pv 0)) (pv 1)) (pe_op op_mul pe_int (pv 1)))), ?_⟩
    exact ⟨_, rfl, 2, x, rfl, rfl, .inl ⟨by decide, by decide⟩, _, rfl, 2 * x, n, rfl, rfl, _, rfl, 2, n, rfl, rfl, .inl ⟨by decide, by decide⟩, 2 * x + n, 2 * n, rfl, rfl, ⟨by omega, by omega⟩, q _ _ (Evl.Ex.refl H) rfl⟩
/-! ### mean_colour -/
def spMean (K : PySem.W.Frag) : Sp := Pr fun vs H T => ∃ (v : V) (n : Nat) (c : Col), vs = [v] ∧ LsP n (fun _ => ColP K c) H v ∧ 0 < n ∧ n ≤ 100 ∧ NormC c ∧ T = ColP K c
theorem scMean : FnScope ["colours", "whole", "parts", "one", "at"] ["colours"] (defScope sMean) := ⟨rfl, rfl, rfl, by decide +kernel, rfl, by decide +kernel, by decide +kernel⟩
def tMeanElt (K : PySem.W.Frag) : TE := tCall spRounded [] E0 (tCons (tCB (rSum K) (tCons (tLc (iList K (tVar 0)) (gName 3) tYes (tOp (rI CMul fun i j => .int (i * j)) (tOp (rIxT K) (tVar 3) (tC (.int 3))) (tOp (rIxT K) (tVar 3) (tVar 4))) [3]) tNil)) (tCons (tVar 1) tNil))
theorem cal_mean (D : DefAt K mg "mean_colour" sMean) (B : Blt mg) (hclear : ∃ cA, mg "CLEAR" = some (.ref cA) ∧ ∀ H, SqT K H cA [.int 0, .int 0, .int 0, .int 0]) (C1 : Cal P w K mg base 1 "rounded" ["one", "by"] spRounded) :
    Cal P w K mg base 2 "mean_colour" ["colours"] (spMean K) := by
  obtain ⟨cA, mcl, hcl⟩ := hclear
  refine cal_of D scMean (fun _ _ _ _ _ _ us hl => match us, hl with | [_], _ => rfl) (fun vs H Q E h => ?_) (fun fa cdv A outer s H vs Q E hr h => ?_)
  · obtain ⟨T, ⟨v, n, c, rfl, _⟩, _⟩ := h
    rfl
  · obtain ⟨T, ⟨v, n, c, rfl, ⟨p, ls, rfl, hl, its⟩, n0, n9, ⟨ok, hz⟩, rfl⟩, q⟩ := h
    refine ⟨_, pss_cons (ps_set (i := 1) scMean.nd rfl (.inr rfl) (pe_callB (cr_sum rfl) (by rfl) B.sum boot_sum (pa_cons
        (pe_lc (own := [("one", 3)]) (g := gName 3) (tt := tYes) rfl scMean.nd (pi_list (pv 0)) (blkOk_by (own := [("one", 3)]) (N := ["colours", "whole", "parts", "one", "at"]) (sc := defScope sMean) (by decide +kernel))
          (fun _ _ _ _ _ => pg_name (i := 3) scMean.nd rfl (Or.inl rfl)) (fun _ _ _ _ _ => pts_nil) (fun _ _ _ _ _ => pe_ix (r := rIxT K) ix_tup (pv 3) pe_int (fun _ _ => rfl))) pa_nil)))
      (pss_cons (ps_if (pt_cmpR op_eq (pv 1) pe_int (nomark _)) (pss_one (ps_ret (pe_glob (v := .ref cA) (by rfl) mcl rfl))) pss_nil)
      (pss_cons (ps_setLc (i := 2) (own := [("at", 4)]) (g := gName 4) (tt := tYes) (te := tMeanElt K) rfl scMean.nd rfl rfl (sw_true rfl rfl rfl (by decide +kernel)) (pi_range1 (by rfl) B.range (pa_cons pe_int pa_nil))
          (blkOk_by (own := [("at", 4)]) (N := ["colours", "whole", "parts", "one", "at"]) (sc := defScope sMean) (by decide +kernel))
          (fun _ _ _ _ _ => pg_name (i := 4) scMean.nd rfl (Or.inr rfl)) (fun _ _ _ _ _ => pts_nil)
          (fun _ _ _ _ _ => pe_cal C1 hr (by rfl) (pa_cons (pe_callB (r := rSum K) (cr_sum rfl) (by rfl) B.sum boot_sum (pa_cons
            (pe_lc (own := [("one", 3)]) (g := gName 3) (tt := tYes) (wi := iList K (tVar 0)) rfl scMean.nd (pi_list (pv 0)) (blkOk_by (own := [("one", 3)]) (N := ["colours", "whole", "parts", "one", "at"]) (sc := relS (lcScope (asgVal (nthStmt sMean 2))) (defScope sMean)) (by decide +kernel))
              (fun _ _ _ _ _ => pg_name (i := 3) scMean.nd rfl (Or.inl rfl)) (fun _ _ _ _ _ => pts_nil) (fun _ _ _ _ _ => pe_op op_mul (pe_ix (r := rIxT K) ix_tup (pv 3) pe_int (fun _ _ => rfl)) (pe_ix (r := rIxT K) ix_tup (pv 3) (pv 4) (fun _ _ => rfl)))) pa_nil)) (pa_cons (pv 1) pa_nil))))
      (pss_one (ps_ret (pe_tup (pa_cons (pe_ix ix_list (pv 2) pe_int (fun _ _ => rfl)) (pa_cons (pe_ix ix_list (pv 2) pe_int (fun _ _ => rfl)) (pa_cons (pe_ix ix_list (pv 2) pe_int (fun _ _ => rfl))
        (pa_cons (pe_cal C1 hr (by rfl) (pa_cons (pv 1) (pa_cons (pe_callB call_len_seq (by rfl) B.len PySem.boot_len (pa_cons (pv 0) pa_nil)) pa_nil))) pa_nil))))))))), ?_⟩
    obtain ⟨⟨r0, r1⟩, ⟨g0, g1⟩, ⟨b0, b1⟩, d0, d1⟩ := ok
    have hls : SqL K H p ls := .inl (.inl hl)
    -- whole
    refine ⟨_, rfl, p, rfl, ⟨_, hls⟩, fun Dl hD => ?_⟩
    refine lcP (fun _ _ u => u = .int c.2.2.2) (wk_lst hls) hD (by rw [its.1]; omega) (fun _ _ _ _ _ z => z) ?_ ?_ gName_mono
    · rintro i x H' H'' hi e ⟨rfl, hx⟩
      obtain ⟨px, rfl, hs⟩ := its.2 i x hx
      exact ⟨Evl.Ex.refl _, fun Q1 k => ⟨rfl, _, rfl, px, _, 3, _, rfl, rfl, Evl.ex_t e hs, atI_nat (j := 3) rfl, k _ _ (Evl.Ex.refl _) rfl⟩⟩
    intro H1 ys e1 hD1 it1
    have ey : ys = (List.replicate n c.2.2.2).map V.int := by
      rw [it1.rep, its.1, List.map_replicate]
    refine ⟨Dl, List.replicate n c.2.2.2, rfl, .inl (.inl (by rw [hD1, ey])), ?_⟩
    rw [sum_rep]
    -- if whole == 0
    refine ⟨_, rfl, rfl, _, rfl, ite2 (fun h0 => ?_) (fun h0 => ?_)⟩
    · have h1 : (n : Int) * c.2.2.2 = 0 := V.int.inj (of_decide_eq_true h0)
      have h2 : c.2.2.2 = 0 := by
        rcases Int.mul_eq_zero.mp h1 with z | z
        · omega
        · exact z
      have h3 := hz h2
      refine q _ _ e1 ⟨cA, rfl, ?_⟩
      rw [h3]
      exact hcl H1
    · have pos : 0 < (n : Int) * c.2.2.2 := by
        have h1 : (n : Int) * c.2.2.2 ≠ 0 := fun z => h0 (decide_eq_true (by rw [z]))
        have h2 : 0 ≤ (n : Int) * c.2.2.2 := Int.mul_nonneg (by omega) d0
        omega
      have top : (n : Int) * c.2.2.2 < 100000 := by
        have : (n : Int) * c.2.2.2 ≤ 100 * 255 := Int.mul_le_mul (by omega) d1 d0 (by decide)
        omega
      -- parts
      refine ⟨3, rfl, by decide, by decide, fun D2 hD2 => ?_⟩
      refine lcP (fun i _ u => u = .int (cp c i)) wk_rng hD2 (by decide) (fun _ _ _ _ _ z => z) ?_ ?_ gName_mono
      · rintro i x H' H'' hi e ⟨rfl, rfl⟩
        have hi3 : i < 3 := hi
        refine ⟨Evl.Ex.refl _, fun Q1 k => ⟨rfl, ?_⟩⟩
        have e' := e1.trans e
        refine ⟨_, rfl, p, rfl, ⟨_, Evl.ex_l e' hls⟩, fun D3 hD3 => ?_⟩
        refine lcP (fun _ _ u => u = .int (c.2.2.2 * cp c i)) (wk_lst (Evl.ex_l e' hls)) hD3 (by rw [its.1]; omega) (fun _ _ _ _ _ z => z) ?_ ?_ gName_mono
        · rintro j x H3 H4 hj e3 ⟨rfl, hx⟩
          obtain ⟨px, rfl, hs⟩ := its.2 j x hx
          have hs' := Evl.ex_t (e'.trans e3) hs
          refine ⟨Evl.Ex.refl _, fun Q2 k2 => ⟨rfl, _, rfl, px, _, 3, _, rfl, rfl, hs', atI_nat (j := 3) rfl, _, rfl, _, rfl, px, _, (0 : Int) + (i : Int), _, rfl, rfl, hs', at_of (by rw [Int.zero_add]) (cp_at c (Nat.lt_succ_of_lt hi3)), c.2.2.2, cp c i, rfl, rfl, .inl ⟨by omega, by omega⟩, k2 _ _ (Evl.Ex.refl _) rfl⟩⟩
        · intro H3 zs e3 hD3' it3
          have ez : zs = (List.replicate n (c.2.2.2 * cp c i)).map V.int := by
            rw [it3.rep, its.1, List.map_replicate]
          refine ⟨D3, List.replicate n (c.2.2.2 * cp c i), rfl, .inl (.inl (by rw [hD3', ez])), _, rfl, _, ⟨_, _, rfl, pos, top, rfl⟩, fun v H4 e4 z => k _ _ (e3.trans e4) ?_⟩
          have ea : (n : Int) * (c.2.2.2 * cp c i) = ((n : Int) * c.2.2.2) * cp c i := (Int.mul_assoc _ _ _).symm
          rw [z, sum_rep, ea, round_eq pos]
      · intro H2 zs e2 hD2' it2
        have at2 : ∀ i, i < 3 → zs[i]? = some (.int (cp c i)) := fun i hi => by
          obtain ⟨u, e, z⟩ := it2.get (i := i) (show i < (3 : Int).toNat from hi)
          rw [e, z]
        have hL2 : SqL K H2 D2 zs := .inl (.inl hD2')
        refine ⟨_, rfl, D2, zs, 0, _, rfl, rfl, hL2, atI_nat (at2 0 (by decide)), _, rfl, D2, zs, 1, _, rfl, rfl, hL2, atI_nat (at2 1 (by decide)), _, rfl, D2, zs, 2, _, rfl, rfl, hL2, atI_nat (at2 2 (by decide)), ?_⟩
        refine ⟨_, rfl, _, rfl, p, ls, rfl, .inl (Evl.ex_l (e1.trans e2) hls), _, ⟨_, _, rfl, by rw [its.1]; omega, by rw [its.1]; omega, rfl⟩, fun v H3 e3 z => ?_⟩
        refine ⟨by show 4 ≤ sizeLine; decide, fun t nt => ?_⟩
        refine q _ _ (((e1.trans e2).trans e3).trans (Evl.Ex.new nt)) ⟨t, rfl, SqT.of ?_⟩
        rw [upd_same, z, its.1, round_eq (show (0 : Int) < (n : Int) by omega)]
        rfl
end
/-! ### range from 0 by k -/
theorem rg_by {b k : Nat} (hk : 0 < k) (h9 : b * k ≤ 9801) (k9 : k ≤ 99) : RgC 0 ((b : Int) * (k : Int)) (k : Int) b := by
  have e : (b : Int) * (k : Int) = ((b * k : Nat) : Int) := (Int.natCast_mul b k).symm
  have sz : Builtin.Range.rangeSize 0 ((b : Int) * (k : Int)) (k : Int) = b := by
    rw [PyProof.Rows.rangeSize_pos (by omega) (by rw [e]; omega)]
    have e2 : (b : Int) * (k : Int) + (k : Int) - 1 = ((k : Int) - 1) + (k : Int) * (b : Int) := by
      rw [Int.mul_comm]
      omega
    rw [e2, Int.add_mul_ediv_left _ _ (by omega), Int.ediv_eq_zero_of_lt (by omega) (by omega), Int.zero_add]
  refine ⟨by omega, by omega, ?_, sz⟩
  unfold Builtin.Range.small
  rw [sz, e, if_pos (show (k : Int) > 0 by omega)]
  simp only [Builtin.Range.rangeFitsLong, Bool.and_eq_true, Bool.or_eq_true, decide_eq_true_eq, beq_iff_eq]
  have hb : b ≤ b * k := Nat.le_mul_of_pos_right b hk
  omega
end K08
namespace K08
open PySem PySem.Spec PyProof.Rows L2
open Evl (Ex)
def forBody : Stmt → List Stmt
  | .For _ _ b _ _ => b
  | _ => []
/-- as lcP, the list that is made being told to each turn -/
theorem lcPD {J : It} {n : Nat} {Y : Nat → Hp → V → Hp → Prop} {j0 : Nat} {te : TE} {vs : List Nat} {σ : L2.St} {H1 : Hp} {D : Addr} {Qd : Hp → Prop} (T : Nat → VP) (w : Walk J n (Ex H1) Y) (hD : H1 D = none) (hn : n ≤ 100000)
    (hP : ∀ i H H' v, Kd D H H' → T i H v → T i H' v) (hw : ∀ x, wipe ((wipe σ vs).set j0 (some x)) vs = wipe σ vs)
    (hs : ∀ i x H' H'' acc, i < n → Ex H1 H' → H' D = some (.lst acc) → Y i H' x H'' → Ex H' H'' ∧ ∀ Q1 : VK, (∀ y H4, Ex H' H4 → T i H4 y → Q1 y H4) → te ((wipe σ vs).set j0 (some x)) H'' Q1)
    (hd : ∀ H' ys, Ex H1 H' → H' D = some (.lst ys) → ItsP ys n T H' → Qd H') :
    ∃ W : Nat → Nat → Hp → Prop, (∃ m, W 0 m (upd H1 D (.lst []))) ∧ ∀ i m H, W i m H →
      (J.stop i H ∧ Qd H) ∨ (J.go i H ∧ ∃ Nx : Hp → Prop, (∀ H', Nx H' → ∃ m', m' < m ∧ W (i + 1) m' H') ∧ ∀ x H', J.yld i H x H' → gName j0 x (wipe σ vs) H' fun σ2 H2 => wipe σ2 vs = wipe σ vs ∧ tYes σ2 H2 fun b H3 =>
        if b = true then te σ2 H3 fun y H4 => ∃ acc, H4 D = some (.lst acc) ∧ acc.length < sizeLine ∧ Nx (upd H4 D (.lst (acc ++ [y]))) else Nx H3) := by
  refine lc_it w (fun i H => Ex H1 H ∧ ∃ ys, H D = some (.lst ys) ∧ ItsP ys i T H) ⟨Evl.Ex.new hD, [], upd_same, .nil⟩ (fun i H _ p => p.1) ?_ fun H ⟨e, ys, h1, h2⟩ => hd H ys e h1 h2
  rintro i x H H' hi ⟨e, ys, h1, h2⟩ y
  obtain ⟨e1, turn⟩ := hs i x H H' ys hi e h1 y
  refine ⟨hw x, ?_⟩
  simp only [tYes, if_true]
  refine turn _ fun y H4 e4 py => ?_
  have hD4 : H4 D = some (.lst ys) := e4 D _ h1
  refine ⟨ys, hD4, by rw [h2.1, sizeLine_eq]; omega, Evl.Ex.mut (e.trans e4) hD, ys ++ [y], upd_same, ?_⟩
  exact (h2.mono (fun j u _ q => hP j _ _ u ((Kd.ex e4).trans (Kd.app hD4)) q)).snoc (hP i _ _ y (Kd.app hD4) py)
section
variable {P : Program} {w : World} {K : PySem.W.Frag} {mg : Str → Option Value} {base : Heap}
/-! ### shrunk -/
def spShrunk (K : PySem.W.Frag) : Sp := Pr fun vs H T => ∃ (v : V) (a b k : Nat) (g : Pix), vs = [v, .int (k : Int)] ∧ PicP K (a * k) (b * k) (growF k g) H v ∧ 0 < a ∧ 0 < b ∧ 0 < k ∧ k ≤ 9 ∧ a ≤ 99 ∧ b ≤ 99 ∧ a * k ≤ 99 ∧ b * k ≤ 99 ∧ (∀ x y, x < a → y < b → NormC (g x y)) ∧ T = PicP K a b g
abbrev nShrunk : List Str := ["picture", "by", "width", "height", "cells", "rows", "found", "y", "lots", "row", "cell", "x", "lot"]
theorem scShrunk : FnScope nShrunk ["picture", "by"] (defScope sShrunk) := ⟨rfl, rfl, rfl, by decide +kernel, rfl, by decide +kernel, by decide +kernel⟩
abbrev stLots : Stmt := (forBody (nthStmt sShrunk 3)).getD 0 (.Pass ⟨0, 0, 0, 0⟩)
def wLotRows (K : PySem.W.Frag) : TI := iList K (tSl (rSlL K) (tVar 5) (tPart (tVar 7)) (tPart (tOp (rI0 fun i j => .int (i + j)) (tVar 7) (tVar 1))))
def wLotCells (K : PySem.W.Frag) : TI := iTup K (tSl (rSlA K) (tVar 9) (tPart (tVar 11)) (tPart (tOp (rI0 fun i j => .int (i + j)) (tVar 11) (tVar 1))))
theorem cal_shrunk (D : DefAt K mg "shrunk" sShrunk) (B : Blt mg) (C0 : Cal P w K mg base 2 "mean_colour" ["colours"] (spMean K)) (C1 : Cal P w K mg base 1 "rows_of" ["picture"] (spRowsOf K)) (C2 : Cal P w K mg base 1 "of_rows" ["rows"] (spOfRows K)) :
    Cal P w K mg base 3 "shrunk" ["picture", "by"] (spShrunk K) := by
  refine cal_of D scShrunk (fun _ _ _ _ _ _ us hl => match us, hl with | [_, _], _ => rfl) (fun vs H Q E h => ?_) (fun fa cdv A outer s H vs Q E hr h => ?_)
  · obtain ⟨T, ⟨v, a, b, k, g, rfl, _⟩, _⟩ := h
    rfl
  · obtain ⟨T, ⟨v, a, b, k, g, rfl, hpic, a0, b0, k0, k9, a9, b9, ak, bk, norm, rfl⟩, q⟩ := h
    have hr1 := hr.mono (show 1 ≤ 2 by decide)
    refine ⟨_, pss_cons (ps_asg (pv 0) (pg_tup rfl (pgs_cons (pg_name (i := 2) scShrunk.nd rfl (Or.inl rfl)) (pgs_cons (pg_name (i := 3) scShrunk.nd rfl (Or.inl rfl)) (pgs_cons (pg_name (i := 4) scShrunk.nd rfl (Or.inl rfl)) pgs_nil)))))
      (pss_cons (ps_if (PW.pt (pw_or (pt_cmpR op_ne (pe_op op_mod (pv 2) (pv 1)) pe_int (nomark _)) (pw_or1 (pt_cmpR op_ne (pe_op op_mod (pv 3) (pv 1)) pe_int (nomark _))))) pss_never pss_nil)
      (pss_cons (ps_asg (pe_tup (pa_cons (pe_cal C1 hr1 (by rfl) (pa_cons (pv 0) pa_nil)) (pa_cons (pe_lst pa_nil) pa_nil))) (pg_tup rfl (pgs_cons (pg_name (i := 5) scShrunk.nd rfl (Or.inr rfl)) (pgs_cons (pg_name (i := 6) scShrunk.nd rfl (Or.inl rfl)) pgs_nil))))
      (pss_cons (ps_for PassesOwn.never rfl (pi_range3 (by rfl) B.range (pa_cons pe_int (pa_cons (pv 3) (pa_cons (pv 1) pa_nil)))) (pg_name (i := 7) scShrunk.nd rfl (Or.inr rfl))
        (pss_cons (ps_setLc (i := 8) (own := [("x", 11)]) (g := gName 11) (tt := tYes) (te := tLc2 (wLotRows K) (gName 9) tYes (wLotCells K) (gName 10) tYes (tVar 10) [9, 10] [10]) rfl scShrunk.nd rfl rfl (sw_true rfl rfl rfl (by decide +kernel)) (pi_range3 (by rfl) B.range (pa_cons pe_int (pa_cons (pv 2) (pa_cons (pv 1) pa_nil))))
          (blkOk_by (own := [("x", 11)]) (N := nShrunk) (sc := defScope sShrunk) (by decide +kernel))
          (fun _ _ _ _ _ => pg_name (i := 11) scShrunk.nd rfl (Or.inr rfl)) (fun _ _ _ _ _ => pts_nil)
          (fun _ _ _ _ _ => pe_lc2 (own := [("row", 9), ("cell", 10)]) (vs1 := [10]) (g := gName 9) (g1 := gName 10) (tt := tYes) (tt1 := tYes) (wi := wLotRows K) (wi1 := wLotCells K) (te := tVar 10) rfl scShrunk.nd (pi_list (pe_slice (r := rSlL K) sl_list (pv 5) (po_some (pv 7)) (po_some (pe_op op_add (pv 7) (pv 1)))))
              (blkOk_by (own := [("row", 9), ("cell", 10)]) (N := nShrunk) (sc := relS (lcScope (asgVal stLots)) (defScope sShrunk)) (by decide +kernel)) (by decide)
              (fun _ _ _ _ _ => pg_name (i := 9) scShrunk.nd rfl (Or.inl rfl)) (fun _ _ _ _ _ => pts_nil) (fun _ _ _ _ _ => pi_tup (pe_slice (r := rSlA K) sl_tupA (pv 9) (po_some (pv 11)) (po_some (pe_op op_add (pv 11) (pv 1))))) (fun _ _ _ _ _ => pg_name (i := 10) scShrunk.nd rfl (Or.inl rfl)) (fun _ _ _ _ _ => pts_nil)
              (fun _ _ _ _ _ => pv 10)))
        (pss_one (ps_expr (pe_bm PySem.F.plainAttrs_list PySem.F.slot_list_append PySem.F.type_list_append mt_append (pv 6) (pa_cons
          (pe_callTy cr_tupOf (by rfl) B.tuple PyProof.Rows.boot_tuple (pa_cons
            (pe_lc (own := [("lot", 12)]) (g := gName 12) (tt := tYes) rfl scShrunk.nd (pi_list (pv 8)) (blkOk_by (own := [("lot", 12)]) (N := nShrunk) (sc := defScope sShrunk) (by decide +kernel))
              (fun _ _ _ _ _ => pg_name (i := 12) scShrunk.nd rfl (Or.inl rfl)) (fun _ _ _ _ _ => pts_nil) (fun _ _ _ _ _ => pe_cal C0 hr (by rfl) (pa_cons (pv 12) pa_nil))) pa_nil)) pa_nil))))))
      (pss_one (ps_ret (pe_cal C2 hr1 (by rfl) (pa_cons (pv 6) pa_nil))))))), ?_⟩
    obtain ⟨p, pc, cs, rfl, hp, hc, its⟩ := id hpic
    refine ⟨_, rfl, unpack3 rfl hp ?_⟩
    have ma : ((a * k : Nat) : Int) % (k : Int) = 0 := by
      rw [Int.natCast_mul]
      exact Int.mul_emod_left _ _
    have mb : ((b * k : Nat) : Int) % (k : Int) = 0 := by
      rw [Int.natCast_mul]
      exact Int.mul_emod_left _ _
    refine ⟨_, rfl, _, rfl, ((a * k : Nat) : Int), (k : Int), rfl, rfl, by omega, rfl, _, rfl, iteNS (congrArg V.int ma) ?_⟩
    refine ⟨_, rfl, _, rfl, ((b * k : Nat) : Int), (k : Int), rfl, rfl, by omega, rfl, _, rfl, iteNS (congrArg V.int mb) ?_⟩
    refine ⟨_, rfl, _, ⟨_, a * k, b * k, growF k g, rfl, hpic, Nat.mul_pos a0 k0, Nat.mul_pos b0 k0, ak, bk, rfl⟩, fun v2 H2 e2 ⟨r1, rs, ev, hl, it⟩ => ?_⟩
    subst ev
    refine ⟨Nat.zero_le _, fun fo nf => ⟨by show 2 ≤ sizeLine; decide, fun t nt => ⟨t, _, rfl, SqT.of upd_same, rfl, _, _, rfl, _, _, rfl, rfl, ?_⟩⟩⟩
    have hab : b * k ≤ 9801 := by omega
    have haa : a * k ≤ 9801 := by omega
    refine ⟨_, rfl, _, rfl, 0, ((b * k : Nat) : Int), (k : Int), b, rfl, by rw [Int.natCast_mul]; exact rg_by k0 hab (by omega), ?_⟩
    have efo := Evl.Ex.new (o := HO.lst []) nf
    have et := Evl.Ex.new (o := HO.tup [V.ref r1, V.ref fo]) nt
    have hL : SqL K H2 r1 rs := .inl (.inl hl)
    refine for_rangeC (lo := 0) (c := (k : Int)) (n := b) (fun yb σ' H' => ∃ y7 y8 y9 y10 y11 y12, σ' = [some (V.ref p), some (.int (k : Int)), some (.int ((a * k : Nat) : Int)), some (.int ((b * k : Nat) : Int)), some (.ref pc), some (.ref r1), some (.ref fo), y7, y8, y9, y10, y11, y12] ∧
        Ex H2 H' ∧ ∃ ys, H' fo = some (.lst ys) ∧ ItsP ys yb (fun y => RowP K a fun x => g x y) H')
      ⟨none, none, none, none, none, none, rfl, efo.trans et, [], et _ _ upd_same, .nil⟩ ?_ ?_
    · rintro yb σ' H3 hyb ⟨y7, y8, y9, y10, y11, y12, rfl, e, fs, hfo, ifs⟩
      have ey : (0 : Int) + ((yb : Nat) : Int) * (k : Int) = ((yb * k : Nat) : Int) := by rw [Int.zero_add, Int.natCast_mul]
      have rowle : yb * k + k ≤ b * k := by
        have := Nat.mul_le_mul_right k hyb
        rw [Nat.succ_mul] at this
        exact this
      have part : ItsP (cutV rs (some ((0 : Int) + ((yb : Nat) : Int) * (k : Int))) (some ((0 : Int) + ((yb : Nat) : Int) * (k : Int) + (k : Int)))) k (fun i => RowP K (a * k) fun x => growF k g x (yb * k + i)) H2 := by
        rw [ey]
        exact cut_nat it rowle
      -- lots
      refine ⟨_, rfl, _, rfl, 0, ((a * k : Nat) : Int), (k : Int), a, rfl, by rw [Int.natCast_mul]; exact rg_by k0 haa (by omega), fun DL hDL => ?_⟩
      refine lcPD (fun xb H v => ∃ pl ys, v = .ref pl ∧ pl ≠ DL ∧ H pl = some (.lst ys) ∧ ItsP ys (k * k) (fun _ => ColP K (g xb yb)) H) wk_rngC hDL (by omega) ?_ (fun _ => rfl) ?_ ?_
      · rintro i Ha Hb v ⟨eb, kp⟩ ⟨pl, ys, rfl, ne, h1, i1⟩
        exact ⟨pl, ys, rfl, ne, eb _ _ ne h1, i1.mono fun _ _ _ z => ColP.mo K _ _ _ _ kp z⟩
      · rintro xb x H4 H4' acc hxb e4 hacc ⟨rfl, rfl⟩
        refine ⟨Evl.Ex.refl _, fun Q1 kk => ?_⟩
        have e24 := e.trans e4
        refine ⟨_, rfl, _, rfl, _, rfl, _, rfl, _, rfl, _, _, rfl, rfl, _, rfl, r1, rs, rfl, Evl.ex_l e24 hL, fun pn hn => ⟨pn, rfl, ⟨_, .inl (.inl upd_same)⟩, fun D2 hD2 => ?_⟩⟩
        have en := Evl.Ex.new (o := HO.lst (cutV rs (some ((0 : Int) + ((yb : Nat) : Int) * (k : Int))) (some ((0 : Int) + ((yb : Nat) : Int) * (k : Int) + (k : Int))))) hn
        have ne : D2 ≠ DL := (ne_of_none (en _ _ hacc) hD2).symm
        have ex : (0 : Int) + ((xb : Nat) : Int) * (k : Int) = ((xb * k : Nat) : Int) := by rw [Int.zero_add, Int.natCast_mul]
        have colle : xb * k + k ≤ a * k := by
          have := Nat.mul_le_mul_right k hxb
          rw [Nat.succ_mul] at this
          exact this
        refine lc2P (T := fun i x => (cutV rs (some ((0 : Int) + ((yb : Nat) : Int) * (k : Int))) (some ((0 : Int) + ((yb : Nat) : Int) * (k : Int) + (k : Int))))[i]? = some x) k (fun _ => ColP K (g xb yb)) (wk_lst (K := K) (.inl (.inl upd_same))) hD2 (by rw [part.1]; have := Nat.mul_le_mul k9 k9; omega) (Mo.kd (fun _ => ColP.mo K _) _) (fun _ => rfl) (fun _ _ => rfl) ?_ ?_
        · intro i x H5 hi hx e5 R kr
          rw [part.1] at hi
          obtain ⟨px, cl, rfl, hs, ic⟩ := part.2 i x hx
          have e25 := (e24.trans en).trans e5
          have cells : ItsP (cutV cl (some ((0 : Int) + ((xb : Nat) : Int) * (k : Int))) (some ((0 : Int) + ((xb : Nat) : Int) * (k : Int) + (k : Int)))) k (fun j => ColP K (g xb yb)) H5 := by
            rw [ex]
            refine (cut_nat (ic.mono fun j u _ z => ColP.mo K _ _ _ _ (Kp.ex e25) z) colle).mono fun j u hj z => ?_
            have g1 : growF k g (xb * k + j) (yb * k + i) = g xb yb := by
              show g ((xb * k + j) / k) ((yb * k + i) / k) = g xb yb
              rw [ix_div hj, ix_div hi]
            rw [← g1]
            exact z
          refine ⟨_, rfl, _, rfl, _, rfl, _, rfl, _, rfl, _, _, rfl, rfl, _, rfl, sl_go (Evl.ex_t e25 hs) cells (fun _ => ColP.mo K _) ?_⟩
          rintro y H6 e6 ⟨pt, ys, rfl, hst, ity⟩
          refine ⟨pt, rfl, ⟨ys, hst⟩, kr _ H6 (fun j u => ys[j]? = some u) e6 (by rw [← ity.1]; exact wi_tup hst) fun j x' H7 hj hx' kd ex7 Q2 kq => ?_⟩
          exact ⟨_, rfl, kq _ _ (Evl.Ex.refl _) (ColP.mo K _ _ _ _ kd.2 (ity.2 j x' hx'))⟩
        · intro H6 ys e6 hD6 it6
          rw [part.1] at it6
          exact kk _ _ (en.trans e6) ⟨D2, ys, rfl, ne, hD6, it6⟩
      · intro H7 ls e7 hDL7 itL
        have hfo7 := e7 _ _ hfo
        refine ⟨_, rfl, .inl ⟨rfl, _, .inl (.inl hfo7)⟩, _, rfl, DL, rfl, ⟨_, .inl (.inl hDL7)⟩, fun D3 hD3 => ?_⟩
        refine lcP (fun xb => ColP K (g xb yb)) (wk_lst (.inl (.inl hDL7))) hD3 (by rw [itL.1]; omega) (Mo.kd (fun _ => ColP.mo K _) _) ?_ ?_ gName_mono
        · rintro xb x H8 H8' hxb e8 ⟨rfl, hx⟩
          rw [itL.1] at hxb
          obtain ⟨pl, ys, rfl, ne, hpl, ip⟩ := itL.2 xb x hx
          refine ⟨Evl.Ex.refl _, fun Q1 kk => ⟨rfl, ?_⟩⟩
          exact ⟨_, rfl, _, ⟨_, k * k, g xb yb, rfl, ⟨pl, ys, rfl, e8 _ _ hpl, ip.mono fun _ _ _ z => ColP.mo K _ _ _ _ (Kp.ex e8) z⟩, Nat.mul_pos k0 k0, by have := Nat.mul_le_mul k9 k9; omega, norm xb yb hxb hyb, rfl⟩, fun v H9 e9 z => kk v H9 e9 z⟩
        · intro H8 zs e8 hD8 iz
          rw [itL.1] at iz
          refine ⟨D3, zs, rfl, .inl ⟨.inl (.inl hD8), fun tt ntt => ?_⟩⟩
          have ett := Evl.Ex.new (o := HO.tup zs) ntt
          have hfo8 := (e8.trans ett) _ _ hfo7
          refine ⟨fo, fs, .ref tt, rfl, rfl, hfo8, by rw [ifs.1, sizeLine_eq]; omega, ?_⟩
          refine ⟨_, _, _, _, _, _, rfl, Evl.Ex.mut (((e.trans e7).trans e8).trans ett) nf, _, upd_same, ?_⟩
          refine (ifs.mono fun i u _ z => RowP.mo K _ _ _ _ _ ((Kp.ex ((e7.trans e8).trans ett)).trans (Kp.lst hfo8)) z).snoc ⟨tt, zs, rfl, (Kp.lst hfo8).sq (SqT.of upd_same), ?_⟩
          exact iz.mono fun i u _ z => ColP.mo K _ _ _ _ ((Kp.ex ett).trans (Kp.lst hfo8)) z
    · rintro σ' H3 ⟨y7, y8, y9, y10, y11, y12, rfl, e, fs, hfo, ifs⟩
      exact ⟨_, rfl, _, ⟨_, a, b, g, rfl, ⟨fo, fs, rfl, hfo, ifs⟩, a0, b0, a9, b9, rfl⟩, fun v H4 e4 z => q v H4 ((e2.trans e).trans e4) z⟩
end
end K08
namespace K08
/-! Plain: areas of a picture told by a function of places, their labels, their number. -/
abbrev Plc := Nat × Nat
abbrev ColM := Int × Int × Int × Int
def Nb (p q : Plc) : Prop := q = (p.1 + 1, p.2) ∨ p = (q.1 + 1, q.2) ∨ q = (p.1, p.2 + 1) ∨ p = (q.1, q.2 + 1)
theorem Nb.symm {p q : Plc} (h : Nb p q) : Nb q p := by
  rcases h with h | h | h | h
  · exact .inr (.inl h)
  · exact .inl h
  · exact .inr (.inr (.inr h))
  · exact .inr (.inr (.inl h))
def Rg (a b : Nat) (p : Plc) : Prop := p.1 < a ∧ p.2 < b
section
variable {a b : Nat} {f : Nat → Nat → ColM}
def Adj (a b : Nat) (f : Nat → Nat → ColM) (p q : Plc) : Prop := Rg a b p ∧ Rg a b q ∧ f p.1 p.2 = f q.1 q.2 ∧ Nb p q
theorem Adj.symm {p q : Plc} (h : Adj a b f p q) : Adj a b f q p := ⟨h.2.1, h.1, h.2.2.1.symm, h.2.2.2.symm⟩
inductive Conn (a b : Nat) (f : Nat → Nat → ColM) (p : Plc) : Plc → Prop where
  | refl : Conn a b f p p
  | step {q r : Plc} : Conn a b f p q → Adj a b f q r → Conn a b f p r
theorem Conn.one {p q : Plc} (h : Adj a b f p q) : Conn a b f p q := .step .refl h
theorem Conn.trans {p q r : Plc} (h1 : Conn a b f p q) (h2 : Conn a b f q r) : Conn a b f p r := by
  induction h2 with
  | refl => exact h1
  | step _ s ih => exact .step ih s
theorem Conn.symm {p q : Plc} (h : Conn a b f p q) : Conn a b f q p := by
  induction h with
  | refl => exact .refl
  | step _ s ih => exact (Conn.one s.symm).trans ih
theorem Conn.rg {p q : Plc} (h : Conn a b f p q) (hp : Rg a b p) : Rg a b q := by
  cases h with
  | refl => exact hp
  | step _ s => exact s.2.1
/-- labels of the areas: 0 to m less one -/
structure Lab (a b : Nat) (f : Nat → Nat → ColM) (lab : Nat → Nat → Nat) (m : Nat) : Prop where
  lt : ∀ x y, x < a → y < b → lab x y < m
  onto : ∀ k, k < m → ∃ x y, x < a ∧ y < b ∧ lab x y = k
  same : ∀ x y x' y', x < a → y < b → x' < a → y' < b → (lab x y = lab x' y' ↔ Conn a b f (x, y) (x', y'))
end
/-! ### pigeons -/
theorem nodup_le : ∀ (m : Nat) (l : List Nat), l.Nodup → (∀ x, x ∈ l → x < m) → l.length ≤ m
  | 0, l, _, h => by
    cases l with
    | nil => exact Nat.le_refl _
    | cons x r => exact absurd (h x List.mem_cons_self) (Nat.not_lt_zero _)
  | m + 1, l, hn, h => by
    by_cases hm : m ∈ l
    · have h1 := nodup_le m (l.erase m) (hn.erase m) (fun x hx => by
        have h2 := (hn.mem_erase_iff).mp hx
        have := h x h2.2
        omega)
      rw [List.length_erase_of_mem hm] at h1
      omega
    · have h1 := nodup_le m l hn (fun x hx => by
        have h2 := h x hx
        have : x ≠ m := fun e => hm (e ▸ hx)
        omega)
      omega
theorem nodup_map_on {α β : Type} (g : α → β) {l : List α} (hn : l.Nodup) (h : ∀ x, x ∈ l → ∀ y, y ∈ l → g x = g y → x = y) : (l.map g).Nodup := by
  unfold List.Nodup
  rw [List.pairwise_map]
  exact List.Pairwise.imp_of_mem (fun hx hy ne e => ne (h _ hx _ hy e)) hn
theorem pigeon {m n : Nat} (F : Nat → Nat) (h1 : ∀ k, k < m → F k < n) (h2 : ∀ k l, k < m → l < m → F k = F l → k = l) : m ≤ n := by
  have h := nodup_le n ((List.range m).map F) (nodup_map_on F List.nodup_range fun x hx y hy e => h2 x y (List.mem_range.mp hx) (List.mem_range.mp hy) e) (by
    intro x hx
    obtain ⟨k, hk, e⟩ := List.mem_map.mp hx
    rw [← e]
    exact h1 k (List.mem_range.mp hk))
  simpa using h
/-- as many labels, if one picture's places are laid onto the other's so that connected ones are connected -/
theorem lab_count {a b a' b' : Nat} {f f' : Nat → Nat → ColM} {lab lab' : Nat → Nat → Nat} {m m' : Nat} (L : Lab a b f lab m) (L' : Lab a' b' f' lab' m') (g : Plc → Plc)
    (hr : ∀ p, Rg a' b' p → Rg a b (g p)) (hs : ∀ p, Rg a b p → ∃ q, Rg a' b' q ∧ g q = p) (hc : ∀ p q, Rg a' b' p → Rg a' b' q → (Conn a' b' f' p q ↔ Conn a b f (g p) (g q))) : m' = m := by
  classical
  -- a place of the second picture with a label of the first
  have h1 : ∀ k, ∃ q : Plc, k < m → (Rg a' b' q ∧ lab (g q).1 (g q).2 = k) := fun k => by
    by_cases hk : k < m
    · obtain ⟨x, y, hx, hy, e⟩ := L.onto k hk
      obtain ⟨q, hq, eq⟩ := hs (x, y) ⟨hx, hy⟩
      exact ⟨q, fun _ => ⟨hq, by rw [eq]; exact e⟩⟩
    · exact ⟨(0, 0), fun z => absurd z hk⟩
  have h2 : ∀ k, ∃ q : Plc, k < m' → (Rg a' b' q ∧ lab' q.1 q.2 = k) := fun k => by
    by_cases hk : k < m'
    · obtain ⟨x, y, hx, hy, e⟩ := L'.onto k hk
      exact ⟨(x, y), fun _ => ⟨⟨hx, hy⟩, e⟩⟩
    · exact ⟨(0, 0), fun z => absurd z hk⟩
  refine Nat.le_antisymm ?_ ?_
  · refine pigeon (fun k => lab (g (Classical.choose (h2 k))).1 (g (Classical.choose (h2 k))).2) (fun k hk => ?_) fun k l hk hl e => ?_
    · obtain ⟨r, _⟩ := Classical.choose_spec (h2 k) hk
      obtain ⟨r1, r2⟩ := hr _ r
      exact L.lt _ _ r1 r2
    · obtain ⟨r, e1⟩ := Classical.choose_spec (h2 k) hk
      obtain ⟨r', e2⟩ := Classical.choose_spec (h2 l) hl
      obtain ⟨g1, g2⟩ := hr _ r
      obtain ⟨g3, g4⟩ := hr _ r'
      have c := (hc _ _ r r').mpr ((L.same _ _ _ _ g1 g2 g3 g4).mp e)
      have := (L'.same _ _ _ _ r.1 r.2 r'.1 r'.2).mpr c
      rw [e1, e2] at this
      exact this
  · refine pigeon (fun k => lab' (Classical.choose (h1 k)).1 (Classical.choose (h1 k)).2) (fun k hk => ?_) fun k l hk hl e => ?_
    · obtain ⟨r, _⟩ := Classical.choose_spec (h1 k) hk
      exact L'.lt _ _ r.1 r.2
    · obtain ⟨r, e1⟩ := Classical.choose_spec (h1 k) hk
      obtain ⟨r', e2⟩ := Classical.choose_spec (h1 l) hl
      obtain ⟨g1, g2⟩ := hr _ r
      obtain ⟨g3, g4⟩ := hr _ r'
      have c := (hc _ _ r r').mp ((L'.same _ _ _ _ r.1 r.2 r'.1 r'.2).mp e)
      have := (L.same _ _ _ _ g1 g2 g3 g4).mpr c
      rw [e1, e2] at this
      exact this
/-- a map that carries steps carries ways -/
theorem conn_map {a b a' b' : Nat} {f f' : Nat → Nat → ColM} (g : Plc → Plc) (h : ∀ p q, Adj a b f p q → Conn a' b' f' (g p) (g q)) {p q : Plc} (c : Conn a b f p q) : Conn a' b' f' (g p) (g q) := by
  induction c with
  | refl => exact .refl
  | step _ s ih => exact ih.trans (h _ _ s)
/-! ### turned, mirrored -/
theorem count_turn {a b : Nat} {f : Nat → Nat → ColM} {lab lab' : Nat → Nat → Nat} {m m' : Nat} (L : Lab a b f lab m) (L' : Lab b a (fun x y => f y (b - 1 - x)) lab' m') : m' = m := by
  refine lab_count L L' (fun p => (p.2, b - 1 - p.1)) (fun p h => ⟨h.2, by have := h.1; show b - 1 - p.1 < b; omega⟩) (fun p h => ⟨(b - 1 - p.2, p.1), ⟨by have := h.2; show b - 1 - p.2 < b; omega, h.1⟩, ?_⟩) fun p q hp hq => ⟨fun c => ?_, fun c => ?_⟩
  · obtain ⟨x, y⟩ := p
    obtain ⟨h1, h2⟩ := h
    show ((x, b - 1 - (b - 1 - y)) : Plc) = (x, y)
    have : b - 1 - (b - 1 - y) = y := by
      have : y < b := h2
      omega
    rw [this]
  · refine conn_map (a := b) (b := a) (f := fun x y => f y (b - 1 - x)) (fun p => (p.2, b - 1 - p.1)) (fun p q s => Conn.one ?_) c
    obtain ⟨⟨p1, p2⟩, ⟨q1, q2⟩, e, n⟩ := s
    refine ⟨⟨p2, by show b - 1 - p.1 < b; omega⟩, ⟨q2, by show b - 1 - q.1 < b; omega⟩, e, ?_⟩
    obtain ⟨px, py⟩ := p
    obtain ⟨qx, qy⟩ := q
    simp only [Nb, Prod.mk.injEq] at n p1 q1 ⊢
    omega
  · have back := conn_map (a' := b) (b' := a) (f' := fun x y => f y (b - 1 - x)) (fun p => (b - 1 - p.2, p.1)) (fun p q s => Conn.one ?_) c
    · obtain ⟨px, py⟩ := p
      obtain ⟨qx, qy⟩ := q
      have e1 : b - 1 - (b - 1 - px) = px := by have : px < b := hp.1; omega
      have e2 : b - 1 - (b - 1 - qx) = qx := by have : qx < b := hq.1; omega
      have back' : Conn b a (fun x y => f y (b - 1 - x)) (b - 1 - (b - 1 - px), py) (b - 1 - (b - 1 - qx), qy) := back
      rw [e1, e2] at back'
      exact back'
    · obtain ⟨⟨p1, p2⟩, ⟨q1, q2⟩, e, n⟩ := s
      obtain ⟨px, py⟩ := p
      obtain ⟨qx, qy⟩ := q
      simp only at p1 p2 q1 q2 e
      refine ⟨⟨by show b - 1 - py < b; omega, p1⟩, ⟨by show b - 1 - qy < b; omega, q1⟩, ?_, ?_⟩
      · show f px (b - 1 - (b - 1 - py)) = f qx (b - 1 - (b - 1 - qy))
        have e1 : b - 1 - (b - 1 - py) = py := by omega
        have e2 : b - 1 - (b - 1 - qy) = qy := by omega
        rw [e1, e2]
        exact e
      · simp only [Nb, Prod.mk.injEq] at n ⊢
        omega
theorem count_mirror {a b : Nat} {f : Nat → Nat → ColM} {lab lab' : Nat → Nat → Nat} {m m' : Nat} (L : Lab a b f lab m) (L' : Lab a b (fun x y => f (a - 1 - x) y) lab' m') : m' = m := by
  have inv : ∀ x, x < a → a - 1 - (a - 1 - x) = x := fun x h => by omega
  refine lab_count L L' (fun p => (a - 1 - p.1, p.2)) (fun p h => ⟨by have := h.1; show a - 1 - p.1 < a; omega, h.2⟩) (fun p h => ⟨(a - 1 - p.1, p.2), ⟨by have := h.1; show a - 1 - p.1 < a; omega, h.2⟩, ?_⟩) fun p q hp hq => ⟨fun c => ?_, fun c => ?_⟩
  · show ((a - 1 - (a - 1 - p.1), p.2) : Plc) = p
    rw [inv p.1 h.1]
  · refine conn_map (a := a) (b := b) (f := fun x y => f (a - 1 - x) y) (fun p => (a - 1 - p.1, p.2)) (fun p q s => Conn.one ?_) c
    obtain ⟨⟨p1, p2⟩, ⟨q1, q2⟩, e, n⟩ := s
    refine ⟨⟨by show a - 1 - p.1 < a; omega, p2⟩, ⟨by show a - 1 - q.1 < a; omega, q2⟩, e, ?_⟩
    obtain ⟨px, py⟩ := p
    obtain ⟨qx, qy⟩ := q
    simp only [Nb, Prod.mk.injEq] at n p1 q1 ⊢
    omega
  · have back := conn_map (a' := a) (b' := b) (f' := fun x y => f (a - 1 - x) y) (fun p => (a - 1 - p.1, p.2)) (fun p q s => Conn.one ?_) c
    · obtain ⟨px, py⟩ := p
      obtain ⟨qx, qy⟩ := q
      have back' : Conn a b (fun x y => f (a - 1 - x) y) (a - 1 - (a - 1 - px), py) (a - 1 - (a - 1 - qx), qy) := back
      rw [inv px hp.1, inv qx hq.1] at back'
      exact back'
    · obtain ⟨⟨p1, p2⟩, ⟨q1, q2⟩, e, n⟩ := s
      obtain ⟨px, py⟩ := p
      obtain ⟨qx, qy⟩ := q
      simp only at p1 p2 q1 q2 e
      refine ⟨⟨by show a - 1 - px < a; omega, p2⟩, ⟨by show a - 1 - qx < a; omega, q2⟩, ?_, ?_⟩
      · show f (a - 1 - (a - 1 - px)) py = f (a - 1 - (a - 1 - qx)) qy
        rw [inv px p1, inv qx q1]
        exact e
      · simp only [Nb, Prod.mk.injEq] at n ⊢
        omega
end K08
namespace K08
/-! ### grown -/
theorem succ_div {k n : Nat} (hk : 0 < k) : (n + 1) / k = n / k ∨ (n + 1) / k = n / k + 1 := by
  have h1 := Nat.div_add_mod n k
  have h2 := Nat.mod_lt n hk
  have e : n + 1 = k * (n / k) + (n % k + 1) := by omega
  have h3 : (n + 1) / k = n / k + (n % k + 1) / k := by
    rw [e, Nat.mul_add_div hk]
  by_cases h4 : n % k + 1 < k
  · left
    rw [h3, Nat.div_eq_of_lt h4, Nat.add_zero]
  · right
    have h5 : n % k + 1 = k := by omega
    rw [h3, h5, Nat.div_self hk]
section
variable {a b k : Nat} {f : Nat → Nat → ColM}
theorem div_at {x i : Nat} (hi : i < k) : (x * k + i) / k = x := by
  rw [Nat.mul_comm, Nat.mul_add_div (by omega), Nat.div_eq_of_lt hi, Nat.add_zero]
theorem lt_at {x i : Nat} (hx : x < a) (hi : i < k) : x * k + i < a * k := by
  have := Nat.mul_le_mul_right k hx
  rw [Nat.succ_mul] at this
  omega
/-- within a block all places hang together with its corner -/
theorem to_corner {X Y : Nat} (hX : X < a) (hY : Y < b) : ∀ i j, i < k → j < k → Conn (a * k) (b * k) (fun x y => f (x / k) (y / k)) (X * k + i, Y * k + j) (X * k, Y * k)
  | 0, 0, _, _ => .refl
  | 0, j + 1, hi, hj => by
    have ih := to_corner hX hY 0 j hi (by omega)
    refine Conn.trans (Conn.one ⟨⟨lt_at hX hi, lt_at hY hj⟩, ⟨lt_at hX hi, lt_at hY (by omega)⟩, ?_, ?_⟩) ih
    · show f ((X * k + 0) / k) ((Y * k + (j + 1)) / k) = f ((X * k + 0) / k) ((Y * k + j) / k)
      rw [div_at hj, div_at (show j < k by omega)]
    · exact .inr (.inr (.inr rfl))
  | i + 1, j, hi, hj => by
    have ih := to_corner hX hY i j (by omega) hj
    refine Conn.trans (Conn.one ⟨⟨lt_at hX hi, lt_at hY hj⟩, ⟨lt_at hX (by omega), lt_at hY hj⟩, ?_, ?_⟩) ih
    · show f ((X * k + (i + 1)) / k) ((Y * k + j) / k) = f ((X * k + i) / k) ((Y * k + j) / k)
      rw [div_at hi, div_at (show i < k by omega)]
    · exact .inr (.inl rfl)
theorem corner_right {X Y : Nat} (hk : 0 < k) (hX : X + 1 < a) (hY : Y < b) (e : f X Y = f (X + 1) Y) : Conn (a * k) (b * k) (fun x y => f (x / k) (y / k)) (X * k, Y * k) ((X + 1) * k, Y * k) := by
  have c := (to_corner (f := f) (show X < a by omega) hY (k - 1) 0 (by omega) hk).symm
  refine c.trans (Conn.one ⟨⟨lt_at (by omega) (by omega), lt_at hY hk⟩, ⟨?_, ?_⟩, ?_, ?_⟩)
  · have := lt_at (k := k) (i := 0) hX hk
    exact this
  · have := lt_at (k := k) (i := 0) hY hk
    exact this
  · show f ((X * k + (k - 1)) / k) ((Y * k + 0) / k) = f ((X + 1) * k / k) (Y * k / k)
    rw [div_at (show k - 1 < k by omega), div_at hk, Nat.mul_div_cancel _ hk, Nat.mul_div_cancel _ hk]
    exact e
  · left
    show (((X + 1) * k, Y * k) : Plc) = (X * k + (k - 1) + 1, Y * k + 0)
    have : (X + 1) * k = X * k + (k - 1) + 1 := by
      rw [Nat.succ_mul]
      omega
    rw [this]
    rfl
theorem corner_down {X Y : Nat} (hk : 0 < k) (hX : X < a) (hY : Y + 1 < b) (e : f X Y = f X (Y + 1)) : Conn (a * k) (b * k) (fun x y => f (x / k) (y / k)) (X * k, Y * k) (X * k, (Y + 1) * k) := by
  have c := (to_corner (f := f) hX (show Y < b by omega) 0 (k - 1) hk (by omega)).symm
  refine c.trans (Conn.one ⟨⟨lt_at hX hk, lt_at (by omega) (by omega)⟩, ⟨?_, ?_⟩, ?_, ?_⟩)
  · have := lt_at (k := k) (i := 0) hX hk
    exact this
  · have := lt_at (k := k) (i := 0) hY hk
    exact this
  · show f ((X * k + 0) / k) ((Y * k + (k - 1)) / k) = f (X * k / k) ((Y + 1) * k / k)
    rw [div_at (show k - 1 < k by omega), div_at hk, Nat.mul_div_cancel _ hk, Nat.mul_div_cancel _ hk]
    exact e
  · right; right; left
    show ((X * k, (Y + 1) * k) : Plc) = (X * k + 0, Y * k + (k - 1) + 1)
    have : (Y + 1) * k = Y * k + (k - 1) + 1 := by
      rw [Nat.succ_mul]
      omega
    rw [this]
    rfl
theorem count_grow {lab lab' : Nat → Nat → Nat} {m m' : Nat} (hk : 0 < k) (L : Lab a b f lab m) (L' : Lab (a * k) (b * k) (fun x y => f (x / k) (y / k)) lab' m') : m' = m := by
  have rgd : ∀ {n c : Nat}, n < c * k → n / k < c := fun {n c} h => Nat.div_lt_of_lt_mul (by rw [Nat.mul_comm]; exact h)
  refine lab_count L L' (fun p => (p.1 / k, p.2 / k)) (fun p h => ⟨rgd h.1, rgd h.2⟩) (fun p h => ⟨(p.1 * k, p.2 * k), ⟨?_, ?_⟩, ?_⟩) fun p q hp hq => ⟨fun c => ?_, fun c => ?_⟩
  · have := lt_at (k := k) (i := 0) h.1 hk
    exact this
  · have := lt_at (k := k) (i := 0) h.2 hk
    exact this
  · show ((p.1 * k / k, p.2 * k / k) : Plc) = p
    rw [Nat.mul_div_cancel _ hk, Nat.mul_div_cancel _ hk]
  · refine conn_map (a := a * k) (b := b * k) (f := fun x y => f (x / k) (y / k)) (fun p => (p.1 / k, p.2 / k)) (fun p q s => ?_) c
    obtain ⟨⟨p1, p2⟩, ⟨q1, q2⟩, e, n⟩ := s
    have r1 := rgd p1
    have r2 := rgd p2
    have r3 := rgd q1
    have r4 := rgd q2
    obtain ⟨px, py⟩ := p
    obtain ⟨qx, qy⟩ := q
    simp only at r1 r2 r3 r4 e
    simp only [Nb, Prod.mk.injEq] at n
    rcases n with ⟨n1, n2⟩ | ⟨n1, n2⟩ | ⟨n1, n2⟩ | ⟨n1, n2⟩
    · subst n1 n2
      rcases succ_div (n := px) hk with z | z
      · show Conn a b f (px / k, qy / k) ((px + 1) / k, qy / k)
        rw [z]
        exact .refl
      · refine Conn.one ⟨⟨r1, r2⟩, ⟨r3, r4⟩, e, .inl ?_⟩
        show (((px + 1) / k, qy / k) : Plc) = (px / k + 1, qy / k)
        rw [z]
    · subst n1 n2
      rcases succ_div (n := qx) hk with z | z
      · show Conn a b f ((qx + 1) / k, py / k) (qx / k, py / k)
        rw [z]
        exact .refl
      · refine Conn.one ⟨⟨r1, r2⟩, ⟨r3, r4⟩, e, .inr (.inl ?_)⟩
        show (((qx + 1) / k, py / k) : Plc) = (qx / k + 1, py / k)
        rw [z]
    · subst n1 n2
      rcases succ_div (n := py) hk with z | z
      · show Conn a b f (qx / k, py / k) (qx / k, (py + 1) / k)
        rw [z]
        exact .refl
      · refine Conn.one ⟨⟨r1, r2⟩, ⟨r3, r4⟩, e, .inr (.inr (.inl ?_))⟩
        show ((qx / k, (py + 1) / k) : Plc) = (qx / k, py / k + 1)
        rw [z]
    · subst n1 n2
      rcases succ_div (n := qy) hk with z | z
      · show Conn a b f (px / k, (qy + 1) / k) (px / k, qy / k)
        rw [z]
        exact .refl
      · refine Conn.one ⟨⟨r1, r2⟩, ⟨r3, r4⟩, e, .inr (.inr (.inr ?_))⟩
        show ((px / k, (qy + 1) / k) : Plc) = (px / k, qy / k + 1)
        rw [z]
  · have own : ∀ p, Rg (a * k) (b * k) p → Conn (a * k) (b * k) (fun x y => f (x / k) (y / k)) p (p.1 / k * k, p.2 / k * k) := fun p h => by
      have e1 := Nat.div_add_mod p.1 k
      have e2 := Nat.div_add_mod p.2 k
      have c := to_corner (f := f) (rgd h.1) (rgd h.2) (p.1 % k) (p.2 % k) (Nat.mod_lt _ hk) (Nat.mod_lt _ hk)
      have e3 : p.1 / k * k + p.1 % k = p.1 := by rw [Nat.mul_comm]; exact e1
      have e4 : p.2 / k * k + p.2 % k = p.2 := by rw [Nat.mul_comm]; exact e2
      rw [e3, e4] at c
      exact c
    have mid := conn_map (a' := a * k) (b' := b * k) (f' := fun x y => f (x / k) (y / k)) (fun p => (p.1 * k, p.2 * k)) (fun p q s => ?_) c
    · exact ((own p hp).trans mid).trans (own q hq).symm
    · obtain ⟨⟨p1, p2⟩, ⟨q1, q2⟩, e, n⟩ := s
      obtain ⟨px, py⟩ := p
      obtain ⟨qx, qy⟩ := q
      simp only at p1 p2 q1 q2 e
      simp only [Nb, Prod.mk.injEq] at n
      rcases n with ⟨n1, n2⟩ | ⟨n1, n2⟩ | ⟨n1, n2⟩ | ⟨n1, n2⟩
      · subst n1 n2
        exact corner_right hk q1 p2 e
      · subst n1 n2
        exact (corner_right hk p1 q2 e.symm).symm
      · subst n1 n2
        exact corner_down hk p1 q2 e
      · subst n1 n2
        exact (corner_down hk q1 p2 e.symm).symm
end
/-! ### the search -/
def nbI (p : Plc) : Nat → Int × Int
  | 0 => ((p.1 : Int) + 1, (p.2 : Int))
  | 1 => ((p.1 : Int) - 1, (p.2 : Int))
  | 2 => ((p.1 : Int), (p.2 : Int) + 1)
  | _ => ((p.1 : Int), (p.2 : Int) - 1)
def IsNth (p : Plc) (j : Nat) (q : Plc) : Prop := (q.1 : Int) = (nbI p j).1 ∧ (q.2 : Int) = (nbI p j).2
section
variable {a b : Nat} {f : Nat → Nat → ColM} {s p0 : Plc} {ps rs : List Plc}
structure Good (a b : Nat) (f : Nat → Nat → ColM) (s : Plc) (ps rs : List Plc) : Prop where
  nd : ps.Nodup
  ins : ∀ p, p ∈ ps → Rg a b p ∧ Conn a b f s p
  st : s ∈ ps
  sub : ∀ p, p ∈ rs → p ∈ ps
  cl : ∀ p, p ∈ ps → p ∉ rs → ∀ q, Adj a b f p q → q ∈ ps
theorem places_le (nd : ps.Nodup) (ins : ∀ p, p ∈ ps → Rg a b p) : ps.length ≤ a * b := by
  have h := nodup_le (a * b) (ps.map fun p => p.2 * a + p.1) (nodup_map_on _ nd fun p hp q hq e => ?_) (fun x hx => ?_)
  · simpa using h
  · obtain ⟨p1, p2⟩ := ins p hp
    obtain ⟨q1, q2⟩ := ins q hq
    obtain ⟨px, py⟩ := p
    obtain ⟨qx, qy⟩ := q
    simp only at p1 p2 q1 q2 e
    have e1 : (py * a + px) / a = py := by rw [Nat.mul_comm, Nat.mul_add_div (by omega), Nat.div_eq_of_lt p1, Nat.add_zero]
    have e2 : (qy * a + qx) / a = qy := by rw [Nat.mul_comm, Nat.mul_add_div (by omega), Nat.div_eq_of_lt q1, Nat.add_zero]
    rw [e] at e1
    have ey : py = qy := e1.symm.trans e2
    subst ey
    have ex : px = qx := by omega
    rw [ex]
  · obtain ⟨p, hp, rfl⟩ := List.mem_map.mp hx
    obtain ⟨p1, p2⟩ := ins p hp
    have := Nat.mul_le_mul_right a p2
    rw [Nat.succ_mul, Nat.mul_comm b a] at this
    omega
theorem Good.init (hs : Rg a b s) : Good a b f s [s] [s] :=
  ⟨List.nodup_cons.mpr ⟨List.not_mem_nil, List.nodup_nil⟩, fun p hp => by
    have e : p = s := by simpa using hp
    subst e
    exact ⟨hs, .refl⟩, List.mem_singleton_self _, fun p hp => hp, fun p hp hn => absurd hp hn⟩
theorem Good.done (g : Good a b f s ps []) (q : Plc) : q ∈ ps ↔ Conn a b f s q :=
  ⟨fun h => (g.ins q h).2, fun c => by
    induction c with
    | refl => exact g.st
    | step _ t ih => exact g.cl _ ih List.not_mem_nil _ t⟩
structure Mid (a b : Nat) (f : Nat → Nat → ColM) (s p0 : Plc) (i : Nat) (ps rs : List Plc) : Prop where
  nd : ps.Nodup
  ins : ∀ p, p ∈ ps → Rg a b p ∧ Conn a b f s p
  st : s ∈ ps
  sub : ∀ p, p ∈ rs → p ∈ ps
  cl : ∀ p, p ∈ ps → p ∉ rs → p ≠ p0 → ∀ q, Adj a b f p q → q ∈ ps
  me : p0 ∈ ps
  nb : ∀ j, j < i → ∀ q, Adj a b f p0 q → IsNth p0 j q → q ∈ ps
theorem Mid.start (g : Good a b f s ps (p0 :: rs)) : Mid a b f s p0 0 ps rs :=
  ⟨g.nd, g.ins, g.st, fun p hp => g.sub p (List.mem_cons_of_mem _ hp), fun p hp hn ne => g.cl p hp fun h => (List.mem_cons.mp h).elim ne hn, g.sub p0 List.mem_cons_self, fun j hj => absurd hj (Nat.not_lt_zero _)⟩
theorem Mid.skip {i : Nat} (g : Mid a b f s p0 i ps rs) (h : ∀ q, Adj a b f p0 q → IsNth p0 i q → q ∈ ps) : Mid a b f s p0 (i + 1) ps rs :=
  ⟨g.nd, g.ins, g.st, g.sub, g.cl, g.me, fun j hj q h1 h2 => by
    rcases Nat.lt_or_ge j i with z | z
    · exact g.nb j z q h1 h2
    · have e : j = i := by omega
      subst e
      exact h q h1 h2⟩
theorem Mid.add {i : Nat} {q : Plc} (g : Mid a b f s p0 i ps rs) (hq : q ∉ ps) (ad : Adj a b f p0 q) (ith : IsNth p0 i q) : Mid a b f s p0 (i + 1) (ps ++ [q]) (rs ++ [q]) := by
  have mem : ∀ {p}, p ∈ ps ++ [q] ↔ p ∈ ps ∨ p = q := by
    intro p
    simp
  refine ⟨?_, fun p hp => ?_, mem.mpr (.inl g.st), fun p hp => ?_, fun p hp hn ne r h1 => ?_, mem.mpr (.inl g.me), fun j hj r h1 h2 => ?_⟩
  · rw [List.nodup_append]
    refine ⟨g.nd, List.nodup_cons.mpr ⟨List.not_mem_nil, List.nodup_nil⟩, fun x hx y hy e => ?_⟩
    have : y = q := by simpa using hy
    exact hq (this ▸ e ▸ hx)
  · rcases mem.mp hp with h | h
    · exact g.ins p h
    · subst h
      exact ⟨ad.2.1, .step (g.ins p0 g.me).2 ad⟩
  · rcases List.mem_append.mp hp with h | h
    · exact mem.mpr (.inl (g.sub p h))
    · exact mem.mpr (.inr (by simpa using h))
  · rcases mem.mp hp with h | h
    · exact mem.mpr (.inl (g.cl p h (fun z => hn (List.mem_append_left _ z)) ne r h1))
    · exact absurd (List.mem_append_right _ (by simp [h])) hn
  · rcases Nat.lt_or_ge j i with z | z
    · exact mem.mpr (.inl (g.nb j z r h1 h2))
    · have e : j = i := by omega
      subst e
      have : r = q := by
        obtain ⟨a1, a2⟩ := h2
        obtain ⟨b1, b2⟩ := ith
        obtain ⟨rx, ry⟩ := r
        obtain ⟨qx, qy⟩ := q
        simp only at a1 a2 b1 b2
        have e1 : rx = qx := by omega
        have e2 : ry = qy := by omega
        rw [e1, e2]
      exact mem.mpr (.inr this)
theorem Mid.fin (g : Mid a b f s p0 4 ps rs) : Good a b f s ps rs :=
  ⟨g.nd, g.ins, g.st, g.sub, fun p hp hn q ad => by
    by_cases e : p = p0
    · subst e
      obtain ⟨px, py⟩ := p
      obtain ⟨qx, qy⟩ := q
      have n := ad.2.2.2
      simp only [Nb, Prod.mk.injEq] at n
      rcases n with ⟨n1, n2⟩ | ⟨n1, n2⟩ | ⟨n1, n2⟩ | ⟨n1, n2⟩
      · exact g.nb 0 (by decide) _ ad ⟨by show (qx : Int) = (px : Int) + 1; omega, by show (qy : Int) = (py : Int); omega⟩
      · exact g.nb 1 (by decide) _ ad ⟨by show (qx : Int) = (px : Int) - 1; omega, by show (qy : Int) = (py : Int); omega⟩
      · exact g.nb 2 (by decide) _ ad ⟨by show (qx : Int) = (px : Int); omega, by show (qy : Int) = (py : Int) + 1; omega⟩
      · exact g.nb 3 (by decide) _ ad ⟨by show (qx : Int) = (px : Int); omega, by show (qy : Int) = (py : Int) - 1; omega⟩
    · exact g.cl p hp hn e q ad⟩
end
/-! ### the numbers -/
section
variable {a b : Nat} {f : Nat → Nat → ColM}
structure Num (a b : Nat) (f : Nat → Nat → ColM) (t : Nat) (L : Plc → Option Nat) (m : Nat) : Prop where
  v : ∀ p n, L p = some n → Rg a b p ∧ n < m
  cl : ∀ p q n, L p = some n → Conn a b f p q → L q = some n
  one : ∀ p q n, L p = some n → L q = some n → Conn a b f p q
  use : ∀ k, k < m → ∃ p, L p = some k
  seen : ∀ p, Rg a b p → p.2 * a + p.1 < t → L p ≠ none
theorem Num.zero : Num a b f 0 (fun _ => none) 0 :=
  ⟨fun _ _ h => (nomatch h), fun _ _ _ h => (nomatch h), fun _ _ _ h => (nomatch h), fun k h => absurd h (Nat.not_lt_zero _), fun _ _ h => absurd h (Nat.not_lt_zero _)⟩
theorem plc_inj {a : Nat} {p q : Plc} (hp : p.1 < a) (hq : q.1 < a) (e : p.2 * a + p.1 = q.2 * a + q.1) : p = q := by
  obtain ⟨px, py⟩ := p
  obtain ⟨qx, qy⟩ := q
  simp only at hp hq e
  have e1 : (py * a + px) / a = py := by rw [Nat.mul_comm, Nat.mul_add_div (by omega), Nat.div_eq_of_lt hp, Nat.add_zero]
  have e2 : (qy * a + qx) / a = qy := by rw [Nat.mul_comm, Nat.mul_add_div (by omega), Nat.div_eq_of_lt hq, Nat.add_zero]
  rw [e] at e1
  have ey : py = qy := e1.symm.trans e2
  subst ey
  have ex : px = qx := by omega
  rw [ex]
theorem Num.skip {t m : Nat} {L : Plc → Option Nat} {p : Plc} (N : Num a b f t L m) (hp : p.1 < a) (ht : p.2 * a + p.1 = t) (h : L p ≠ none) : Num a b f (t + 1) L m :=
  ⟨N.v, N.cl, N.one, N.use, fun q hq hlt => by
    rcases Nat.lt_or_ge (q.2 * a + q.1) t with z | z
    · exact N.seen q hq z
    · have e : q = p := plc_inj hq.1 hp (by omega)
      rw [e]
      exact h⟩
theorem Num.add {t m : Nat} {L : Plc → Option Nat} {p : Plc} {ps : List Plc} (N : Num a b f t L m) (hr : Rg a b p) (ht : p.2 * a + p.1 = t) (h : L p = none) (hps : ∀ q, q ∈ ps ↔ Conn a b f p q) :
    Num a b f (t + 1) (fun q => if q ∈ ps then some m else L q) (m + 1) := by
  have fresh : ∀ q, q ∈ ps → L q = none := fun q hq => by
    cases e : L q with
    | none => rfl
    | some n =>
      have := N.cl q p n e ((hps q).mp hq).symm
      rw [h] at this
      cases this
  refine ⟨fun q n e => ?_, fun q r n e c => ?_, fun q r n e1 e2 => ?_, fun k hk => ?_, fun q hq hlt => ?_⟩
  · by_cases z : q ∈ ps
    · rw [if_pos z] at e
      cases e
      exact ⟨((hps q).mp z).rg hr, Nat.lt_succ_self _⟩
    · rw [if_neg z] at e
      obtain ⟨r1, r2⟩ := N.v q n e
      exact ⟨r1, by omega⟩
  · by_cases z : q ∈ ps
    · rw [if_pos z] at e
      have : r ∈ ps := (hps r).mpr (((hps q).mp z).trans c)
      rw [if_pos this]
      exact e
    · rw [if_neg z] at e
      have : r ∉ ps := fun y => z ((hps q).mpr (((hps r).mp y).trans c.symm))
      rw [if_neg this]
      exact N.cl q r n e c
  · by_cases z : q ∈ ps
    · rw [if_pos z] at e1
      cases e1
      by_cases y : r ∈ ps
      · exact ((hps q).mp z).symm.trans ((hps r).mp y)
      · rw [if_neg y] at e2
        have := (N.v r m e2).2
        omega
    · rw [if_neg z] at e1
      by_cases y : r ∈ ps
      · rw [if_pos y] at e2
        cases e2
        have := (N.v q m e1).2
        omega
      · rw [if_neg y] at e2
        exact N.one q r n e1 e2
  · by_cases z : k < m
    · obtain ⟨q, e⟩ := N.use k z
      refine ⟨q, ?_⟩
      have : q ∉ ps := fun y => by
        rw [fresh q y] at e
        cases e
      rw [if_neg this]
      exact e
    · have ek : k = m := by omega
      exact ⟨p, by rw [if_pos ((hps p).mpr .refl), ek]⟩
  · by_cases z : q ∈ ps
    · rw [if_pos z]
      exact fun y => nomatch y
    · rw [if_neg z]
      rcases Nat.lt_or_ge (q.2 * a + q.1) t with y | y
      · exact N.seen q hq y
      · have e : q = p := plc_inj hq.1 hr.1 (by omega)
        exact absurd ((hps q).mpr (e ▸ .refl)) z
theorem Num.lab {m : Nat} {L : Plc → Option Nat} (N : Num a b f (a * b) L m) : Lab a b f (fun x y => (L (x, y)).getD 0) m := by
  have all : ∀ x y, x < a → y < b → ∃ n, L (x, y) = some n := fun x y hx hy => by
    have h1 : y * a + x < a * b := by
      have := Nat.mul_le_mul_right a hy
      rw [Nat.succ_mul, Nat.mul_comm b a] at this
      omega
    have := N.seen (x, y) ⟨hx, hy⟩ h1
    cases e : L (x, y) with
    | none => exact absurd e this
    | some n => exact ⟨n, rfl⟩
  refine ⟨fun x y hx hy => ?_, fun k hk => ?_, fun x y x' y' hx hy hx' hy' => ?_⟩
  · obtain ⟨n, e⟩ := all x y hx hy
    show (L (x, y)).getD 0 < m
    rw [e]
    exact (N.v _ n e).2
  · obtain ⟨p, e⟩ := N.use k hk
    obtain ⟨r1, r2⟩ := (N.v p k e).1
    refine ⟨p.1, p.2, r1, r2, ?_⟩
    show (L (p.1, p.2)).getD 0 = k
    rw [show ((p.1, p.2) : Plc) = p from rfl, e]
    rfl
  · obtain ⟨n, e⟩ := all x y hx hy
    obtain ⟨n', e'⟩ := all x' y' hx' hy'
    show (L (x, y)).getD 0 = (L (x', y')).getD 0 ↔ _
    rw [e, e']
    constructor
    · intro z
      have z' : n = n' := z
      subst z'
      exact N.one _ _ _ e e'
    · intro c
      have := N.cl _ _ _ e c
      rw [e'] at this
      exact (Option.some.inj this).symm
end
end K08
namespace K08
open PySem PySem.Spec PyProof.Rows L2
/-! ### the hashes of places differ -/
def hashP (x y : Nat) : Int := reduceHash (Builtin.Tuple.tupleHashOf [hashInt (x : Int), hashInt (y : Int)])
theorem hashP_eq (P : Program) (w : World) (x y : Nat) : (tupleKind (mixKind P w)).hash [Sum.inl (x : Int), Sum.inl (y : Int)] = hashP x y := rfl
def allHash : List Int := (List.range 144).map fun i => hashP (i % 12) (i / 12)
def apart : List Int → Bool
  | [] => true
  | x :: r => r.all (fun y => !decide (x = y)) && apart r
theorem hash_apart : apart allHash = true := by decide +kernel
end K08
namespace K08
open PySem PySem.Spec PyProof.Rows L2
open Evl (Ex)
/-! ### pictures as data -/
def colD (c : Col) : PyData := .tuple [.int c.1, .int c.2.1, .int c.2.2.1, .int c.2.2.2]
def picD (a b : Nat) (f : Pix) : PyData := .tuple [.int a, .int b, .tuple ((List.range (a * b)).map fun i => colD (f (i % a) (i / a)))]
theorem eqv_col (c d : Col) : PyData.eqv (colD c) (colD d) = decide (c = d) := by
  obtain ⟨c1, c2, c3, c4⟩ := c
  obtain ⟨d1, d2, d3, d4⟩ := d
  simp only [colD, PyData.eqv, PyData.eqvAll, Bool.and_true, Prod.mk.injEq]
  rw [Bool.eq_iff_iff]
  simp
theorem shaped_col (c : Col) : SeqAt.shaped (colD c) = true := by
  obtain ⟨c1, c2, c3, c4⟩ := c
  simp [SeqAt.shaped, colD, PyData.canLay0, PyData.canLayAll0, PyData.depth, PyData.depthAll]
theorem colD_lay (c : Col) : (colD c).canLay0 = true := by
  obtain ⟨c1, c2, c3, c4⟩ := c
  simp [colD, PyData.canLay0, PyData.canLayAll0]
theorem colD_depth (c : Col) : (colD c).depth ≤ 2 := by
  obtain ⟨c1, c2, c3, c4⟩ := c
  simp [colD, PyData.depth, PyData.depthAll]
theorem lay_cols (g : Nat → Col) : ∀ l : List Nat, PyData.canLayAll0 (l.map fun i => colD (g i)) = true
  | [] => by simp [PyData.canLayAll0]
  | i :: r => by
    rw [List.map_cons]
    simp only [PyData.canLayAll0, colD_lay, lay_cols g r, Bool.and_self]
theorem depth_cols (g : Nat → Col) : ∀ l : List Nat, PyData.depthAll (l.map fun i => colD (g i)) ≤ 2
  | [] => by simp [PyData.depthAll]
  | i :: r => by
    rw [List.map_cons]
    have h1 := colD_depth (g i)
    have h2 := depth_cols g r
    simp only [PyData.depthAll]
    omega
theorem lay_pic (a b : Nat) (f : Pix) : (picD a b f).canLay0 = true := by
  have h := lay_cols (fun i => f (i % a) (i / a)) (List.range (a * b))
  simp only [picD, PyData.canLay0, PyData.canLayAll0, h, Bool.and_self]
theorem shaped_pic (a b : Nat) (f : Pix) : SeqAt.shaped (picD a b f) = true := by
  have h := depth_cols (fun i => f (i % a) (i / a)) (List.range (a * b))
  unfold SeqAt.shaped
  rw [lay_pic, Bool.true_and]
  refine decide_eq_true ?_
  simp only [picD, PyData.depth, PyData.depthAll]
  omega
theorem picD_congr {a b : Nat} {f g : Pix} (h : ∀ x y, x < a → y < b → f x y = g x y) : picD a b f = picD a b g := by
  unfold picD
  have e : ((List.range (a * b)).map fun i => colD (f (i % a) (i / a))) = (List.range (a * b)).map fun i => colD (g (i % a) (i / a)) := by
    refine List.map_congr_left fun i hi => ?_
    have hi' := List.mem_range.mp hi
    have ha : 0 < a := by
      rcases Nat.eq_zero_or_pos a with z | z
      · rw [z, Nat.zero_mul] at hi'
        exact absurd hi' (Nat.not_lt_zero _)
      · exact z
    rw [h _ _ (Nat.mod_lt _ ha) (Nat.div_lt_of_lt_mul hi')]
  rw [e]
section
variable {K : PySem.W.Frag} {H : Hp}
theorem dp_col {c : Col} {v : V} (h : ColP K c H v) : Dp K H v (colD c) := by
  obtain ⟨p, rfl, s⟩ := h
  exact .tup s (.cons (.int _) (.cons (.int _) (.cons (.int _) (.cons (.int _) .nil))))
theorem dpAll_of : ∀ {cs : List V} {ds : List PyData}, cs.length = ds.length → (∀ (i : Nat) (u : V) (d : PyData), cs[i]? = some u → ds[i]? = some d → Dp K H u d) → DpAll K H cs ds
  | [], [], _, _ => .nil
  | [], _ :: _, h, _ => nomatch h
  | _ :: _, [], h, _ => nomatch h
  | u :: cs, d :: ds, h, k => .cons (k 0 u d rfl rfl) (dpAll_of (Nat.succ.inj h) fun i u d e1 e2 => k (i + 1) u d e1 e2)
theorem dp_pic {a b : Nat} {f : Pix} {v : V} (h : PicP K a b f H v) : Dp K H v (picD a b f) := by
  obtain ⟨p, q, cs, rfl, hp, hc, its⟩ := h
  refine .tup hp (.cons (.int _) (.cons (.int _) (.cons (.tup hc (dpAll_of (by rw [its.1]; simp) fun i u d e1 e2 => ?_)) .nil)))
  have hi : i < a * b := by
    rw [← its.1]
    exact (List.getElem?_eq_some_iff.mp e1).1
  rw [List.getElem?_map, List.getElem?_range hi] at e2
  have e3 : colD (f (i % a) (i / a)) = d := Option.some.inj e2
  rw [← e3]
  exact dp_col (its.2 i u e1)
end
/-! ### places as keys -/
abbrev KeyL := List L2.Key
def kI (r l : Int) : KeyL := [Sum.inl r, Sum.inl l]
def kOf (p : Plc) : KeyL := kI (p.1 : Int) (p.2 : Int)
theorem kI_inj {r l r' l' : Int} (h : kI r l = kI r' l') : r = r' ∧ l = l' := by
  unfold kI at h
  simp only [List.cons.injEq, Sum.inl.injEq, and_true] at h
  exact h
theorem kOf_inj {p q : Plc} (h : kOf p = kOf q) : p = q := by
  obtain ⟨h1, h2⟩ := kI_inj h
  obtain ⟨px, py⟩ := p
  obtain ⟨qx, qy⟩ := q
  simp only at h1 h2
  have e1 : px = qx := by omega
  have e2 : py = qy := by omega
  rw [e1, e2]
def dOf (v : V) (ps : List Plc) : List (KeyL × V) := ps.map fun p => (kOf p, v)
theorem dOf_some {v : V} {p : Plc} : ∀ {ps : List Plc}, p ∈ ps → valV (dOf v ps) (kOf p) = some v
  | [], h => by cases h
  | q :: r, h => by
    by_cases e : q = p
    · subst e
      exact valV_pos rfl
    · have h' : p ∈ r := by
        rcases List.mem_cons.mp h with z | z
        · exact absurd z.symm e
        · exact z
      exact (valV_neg (fun z => e (kOf_inj z))).trans (dOf_some h')
theorem dOf_none {v : V} {k : KeyL} : ∀ {ps : List Plc}, (∀ p, p ∈ ps → kOf p ≠ k) → valV (dOf v ps) k = none
  | [], _ => rfl
  | q :: r, h => (valV_neg (h q List.mem_cons_self)).trans (dOf_none fun p hp => h p (List.mem_cons_of_mem _ hp))
theorem merge_old {v : V} {k : KeyL} : ∀ {ps : List Plc} {kvs : List (KeyL × V)}, (∀ p, p ∈ ps → kOf p ≠ k) → valV (mergeT kvs (dOf v ps)) k = valV kvs k
  | [], kvs, _ => rfl
  | q :: r, kvs, h => by
    have e : mergeT kvs (dOf v (q :: r)) = mergeT (putK kvs (kOf q) v) (dOf v r) := rfl
    rw [e, merge_old fun p hp => h p (List.mem_cons_of_mem _ hp), valV_put, if_neg fun z => h q List.mem_cons_self z.symm]
theorem merge_new {v : V} {k : KeyL} : ∀ {ps : List Plc} {kvs : List (KeyL × V)}, (valV kvs k = some v ∨ ∃ p, p ∈ ps ∧ kOf p = k) → valV (mergeT kvs (dOf v ps)) k = some v
  | [], kvs, h => by
    rcases h with h | ⟨p, hp, _⟩
    · exact h
    · cases hp
  | q :: r, kvs, h => by
    have e : mergeT kvs (dOf v (q :: r)) = mergeT (putK kvs (kOf q) v) (dOf v r) := rfl
    rw [e]
    refine merge_new ?_
    by_cases hq : k = kOf q
    · left
      rw [valV_put, if_pos hq]
    · rcases h with h | ⟨p, hp, ep⟩
      · left
        rw [valV_put, if_neg hq]
        exact h
      · rcases List.mem_cons.mp hp with z | z
        · exact absurd (z ▸ ep.symm) hq
        · exact .inr ⟨p, z, ep⟩
/-! ### the hashes of places in a picture of at most 12 by 12 -/
theorem apart_inj : ∀ {l : List Int}, apart l = true → ∀ {i j : Nat} {x : Int}, l[i]? = some x → l[j]? = some x → i = j
  | [], _, _, _, _, h, _ => by simp at h
  | y :: r, h, i, j, x, h1, h2 => by
    unfold apart at h
    rw [Bool.and_eq_true, List.all_eq_true] at h
    obtain ⟨ha, hr⟩ := h
    have no : ∀ (m : Nat), r[m]? = some y → False := fun m e => by
      have := ha y (List.mem_of_getElem? e)
      simp at this
    cases i with
    | zero =>
      cases j with
      | zero => rfl
      | succ j =>
        have e1 : y = x := Option.some.inj h1
        subst e1
        exact (no j h2).elim
    | succ i =>
      cases j with
      | zero =>
        have e1 : y = x := Option.some.inj h2
        subst e1
        exact (no i h1).elim
      | succ j => rw [apart_inj hr h1 h2]
theorem grid_inj (g : Nat → Nat → Int) {l : List Int} (hl : l = (List.range 144).map fun i => g (i % 12) (i / 12)) (hp : apart l = true) {x y x' y' : Nat} (hx : x < 12) (hy : y < 12) (hx' : x' < 12) (hy' : y' < 12) (h : g x y = g x' y') : x = x' ∧ y = y' := by
  have at_ : ∀ x y, x < 12 → y < 12 → l[y * 12 + x]? = some (g x y) := fun x y hx hy => by
    rw [hl, List.getElem?_map, List.getElem?_range (by omega)]
    have e1 : (y * 12 + x) % 12 = x := by omega
    have e2 : (y * 12 + x) / 12 = y := by omega
    show some (g ((y * 12 + x) % 12) ((y * 12 + x) / 12)) = _
    rw [e1, e2]
  have := apart_inj hp (at_ x y hx hy) (by rw [h]; exact at_ x' y' hx' hy')
  omega
theorem hash_inj {x y x' y' : Nat} (hx : x < 12) (hy : y < 12) (hx' : x' < 12) (hy' : y' < 12) (h : hashP x y = hashP x' y') : x = x' ∧ y = y' := grid_inj hashP (l := allHash) rfl hash_apart hx hy hx' hy' h
theorem keyed_nodup (hk : KeyL → Int) (inj : ∀ p q : Plc, p.1 < 12 → p.2 < 12 → q.1 < 12 → q.2 < 12 → hk (kOf p) = hk (kOf q) → p.1 = q.1 ∧ p.2 = q.2) {v : V} {a b : Nat} (ha : a ≤ 12) (hb : b ≤ 12) {ps : List Plc} (nd : ps.Nodup) (ins : ∀ p, p ∈ ps → Rg a b p) :
    ((dOf v ps).map fun p => hk p.1).Nodup := by
  unfold dOf
  rw [List.map_map]
  refine nodup_map_on _ nd fun p hp q hq e => ?_
  obtain ⟨p1, p2⟩ := ins p hp
  obtain ⟨q1, q2⟩ := ins q hq
  obtain ⟨h1, h2⟩ := inj p q (by omega) (by omega) (by omega) (by omega) e
  obtain ⟨px, py⟩ := p
  obtain ⟨qx, qy⟩ := q
  simp only at h1 h2
  rw [h1, h2]
theorem hash_kOf (P : Program) (w : World) (p : Plc) : (tupleKind (mixKind P w)).hash (kOf p) = hashP p.1 p.2 := hashP_eq P w p.1 p.2
theorem hash_nodup (P : Program) (w : World) {v : V} {a b : Nat} (ha : a ≤ 12) (hb : b ≤ 12) {ps : List Plc} (nd : ps.Nodup) (ins : ∀ p, p ∈ ps → Rg a b p) : ((dOf v ps).map fun p => (tupleKind (mixKind P w)).hash p.1).Nodup :=
  keyed_nodup (tupleKind (mixKind P w)).hash (fun p q h1 h2 h3 h4 e => hash_inj h1 h2 h3 h4 (by rw [hash_kOf, hash_kOf] at e; exact e)) ha hb nd ins
end K08
namespace K08
open PySem PySem.Spec PyProof.Rows L2
open Evl (Ex)
theorem Paired.snoc {α β : Type} {F : α → β → Prop} {x : α} {y : β} : ∀ {l : List α} {m : List β}, Paired F l m → F x y → Paired F (l ++ [x]) (m ++ [y])
  | _, _, .nil, h => .cons h .nil
  | _, _, .cons a t, h => .cons a (Paired.snoc t h)
def PlP (K : PySem.W.Frag) (p : Plc) : VP := fun H u => ∃ t, u = .ref t ∧ SqT K H t [.int (p.1 : Int), .int (p.2 : Int)]
theorem PlP.mo (K : PySem.W.Frag) (p : Plc) : Mo (PlP K p) := fun _ _ _ k ⟨t, e, s⟩ => ⟨t, e, k.sq s⟩
abbrev RV (K : PySem.W.Frag) (H : Hp) : List V → List Plc → Prop := Paired fun u p => PlP K p H u
theorem RV.mo {K : PySem.W.Frag} {H H' : Hp} {rv : List V} {rs : List Plc} (h : RV K H rv rs) (k : Kp H H') : RV K H' rv rs := Paired.mapP h fun _ _ z => PlP.mo K _ _ _ _ k z
theorem conn_col {a b : Nat} {f : Pix} {s p : Plc} (h : Conn a b f s p) : f p.1 p.2 = f s.1 s.2 := by
  induction h with
  | refl => rfl
  | step _ t ih => exact t.2.2.1.symm.trans ih
theorem nth_nb {p q : Plc} {i : Nat} (hi : i < 4) (h : IsNth p i q) : Nb p q := by
  obtain ⟨px, py⟩ := p
  obtain ⟨qx, qy⟩ := q
  obtain ⟨h1, h2⟩ := h
  simp only [Nb, Prod.mk.injEq]
  match i, hi with
  | 0, _ =>
    have e1 : (qx : Int) = (px : Int) + 1 := h1
    have e2 : (qy : Int) = (py : Int) := h2
    omega
  | 1, _ =>
    have e1 : (qx : Int) = (px : Int) - 1 := h1
    have e2 : (qy : Int) = (py : Int) := h2
    omega
  | 2, _ =>
    have e1 : (qx : Int) = (px : Int) := h1
    have e2 : (qy : Int) = (py : Int) + 1 := h2
    omega
  | 3, _ =>
    have e1 : (qx : Int) = (px : Int) := h1
    have e2 : (qy : Int) = (py : Int) - 1 := h2
    omega
theorem dOf_snoc (v : V) (ps : List Plc) (q : Plc) : dOf v (ps ++ [q]) = dOf v ps ++ [(kOf q, v)] := by
  unfold dOf
  rw [List.map_append]
  rfl
section
variable {P : Program} {w : World} {K : PySem.W.Frag} {mg : Str → Option Value} {base : Heap}
/-! ### area_from -/
def AreaP (a b : Nat) (f : Pix) (s : Plc) : VP := fun H v => ∃ (d : Addr) (ps : List Plc), v = .ref d ∧ H d = some (.dT (dOf (.bl true) ps)) ∧ ps.Nodup ∧ (∀ q, q ∈ ps ↔ Conn a b f s q)
def spAreaFrom (K : PySem.W.Frag) : Sp := Pr fun vs H T => ∃ (v : V) (a b : Nat) (f : Pix) (x y : Nat), vs = [v, .int (x : Int), .int (y : Int)] ∧ PicP K a b f H v ∧ x < a ∧ y < b ∧ a ≤ 12 ∧ b ≤ 12 ∧ T = AreaP a b f (x, y)
abbrev nArea : List Str := ["picture", "x", "y", "colour", "found", "row", "across", "down", "right", "low"]
theorem scAreaFrom : FnScope nArea ["picture", "x", "y"] (defScope sAreaFrom) := ⟨rfl, rfl, rfl, by decide +kernel, rfl, by decide +kernel, by decide +kernel⟩
/-- the search's state between two turns -/
def AW (K : PySem.W.Frag) (a b : Nat) (f : Pix) (s : Plc) (pic col : V) (d : Addr) (H1 : Hp) (m : Nat) (σ : L2.St) (H : Hp) : Prop :=
  ∃ (rl : Addr) (ps rs : List Plc) (rv : List V) (y6 y7 y8 y9 : Option V), σ = [some pic, some (.int (s.1 : Int)), some (.int (s.2 : Int)), some col, some (.ref d), some (.ref rl), y6, y7, y8, y9] ∧ Ex H1 H ∧ H1 rl = none ∧
    H d = some (.dT (dOf (.bl true) ps)) ∧ H rl = some (.lst rv) ∧ RV K H rv rs ∧ Good a b f s ps rs ∧ m = 2 * (a * b) - 2 * ps.length + rs.length ∧ m ≤ 1000
/-- .. within a turn, i of the four neighbours seen -/
def AF (K : PySem.W.Frag) (a b : Nat) (f : Pix) (s p0 : Plc) (pic col : V) (d rl : Addr) (H1 Hf : Hp) (m i : Nat) (σ : L2.St) (H : Hp) : Prop :=
  ∃ (ps rs : List Plc) (rv : List V) (y8 y9 : Option V), σ = [some pic, some (.int (s.1 : Int)), some (.int (s.2 : Int)), some col, some (.ref d), some (.ref rl), some (.int (p0.1 : Int)), some (.int (p0.2 : Int)), y8, y9] ∧ Ex H1 H ∧ Kp Hf H ∧
    H d = some (.dT (dOf (.bl true) ps)) ∧ H rl = some (.lst rv) ∧ RV K H rv rs ∧ Mid a b f s p0 i ps rs ∧ 2 * (a * b) - 2 * ps.length + rs.length < m
def tPl : TE := tTup (tCons (tVar 8) (tCons (tVar 9) tNil))
def tNbr (K : PySem.W.Frag) : TS := tIfS (tAnd (tB (tDNotIn tPl (tVar 4))) (tAnd (tB (tCall (spIsIn K) [] E0 (tCons (tVar 0) (tCons (tVar 8) (tCons (tVar 9) tNil))))) (tTest (tOp (rEqD K) (tCall (spCellAt K) [] E0 (tCons (tVar 0) (tCons (tVar 8) (tCons (tVar 9) tNil)))) (tVar 3)))))
  (tSeq (sDPut (tVar 4) tPl (tC (.bl true))) (tDrop (tBM K "list" rAppend (tVar 5) (tCons tPl tNil)))) tNext
/-- one neighbour -/
theorem nbr_go {a b : Nat} {f : Pix} {s p0 : Plc} {pic col : V} {d rl : Addr} {H1 Hf H : Hp} {m i : Nat} {ps rs : List Plc} {rv : List V} {D : Ends} (a9 : a ≤ 12) (b9 : b ≤ 12) (hpic : PicP K a b f H1 pic) (hcol : ColP K (f s.1 s.2) H1 col) (hd1 : H1 d = none) (hrl1 : H1 rl = none) (hi : i < 4)
    (e : Ex H1 H) (kp : Kp Hf H) (hd : H d = some (.dT (dOf (.bl true) ps))) (hrl : H rl = some (.lst rv)) (hrv : RV K H rv rs) (md : Mid a b f s p0 i ps rs) (hm : 2 * (a * b) - 2 * ps.length + rs.length < m) (hm9 : m ≤ 1000)
    (nx : ∀ σ' H', AF K a b f s p0 pic col d rl H1 Hf m (i + 1) σ' H' → D.nx σ' H') :
    tNbr K D [some pic, some (.int (s.1 : Int)), some (.int (s.2 : Int)), some col, some (.ref d), some (.ref rl), some (.int (p0.1 : Int)), some (.int (p0.2 : Int)), some (.int (nbI p0 i).1), some (.int (nbI p0 i).2)] H := by
  generalize hnb : nbI p0 i = rl0
  obtain ⟨r, l⟩ := rl0
  have small : a * b ≤ 12 * 12 := Nat.mul_le_mul a9 b9
  have hlen : ps.length ≤ a * b := places_le md.nd fun p hp => (md.ins p hp).1
  have two : 2 ≤ sizeLine := by decide
  have skip : ∀ H', Ex H H' → (∀ q, Adj a b f p0 q → IsNth p0 i q → q ∈ ps) → D.nx [some pic, some (.int (s.1 : Int)), some (.int (s.2 : Int)), some col, some (.ref d), some (.ref rl), some (.int (p0.1 : Int)), some (.int (p0.2 : Int)), some (.int r), some (.int l)] H' :=
    fun H' e' hs => nx _ _ ⟨ps, rs, rv, _, _, rfl, e.trans e', kp.trans (Kp.ex e'), e' _ _ hd, e' _ _ hrl, RV.mo hrv (Kp.ex e'), md.skip hs, hm⟩
  have nth : ∀ q : Plc, IsNth p0 i q → (q.1 : Int) = r ∧ (q.2 : Int) = l := fun q h => by
    obtain ⟨h1, h2⟩ := h
    rw [hnb] at h1 h2
    exact ⟨h1, h2⟩
  refine ⟨_, rfl, _, rfl, two, fun tk ntk => ⟨_, rfl, d, _, rfl, DGet.t (k := kI r l) (Evl.Ex.new ntk _ _ hd) upd_same, _, rfl, ?_⟩⟩
  have et := Evl.Ex.new (o := HO.tup [V.int r, V.int l]) ntk
  by_cases hin : ∃ q, q ∈ ps ∧ kOf q = kI r l
  · obtain ⟨q, hq, ek⟩ := hin
    rw [← ek, dOf_some hq]
    refine iteF (iteF (skip _ et fun q' _ ith => ?_))
    obtain ⟨n1, n2⟩ := nth q' ith
    have : q' = q := kOf_inj (by
      rw [ek]
      unfold kOf
      rw [n1, n2])
    rw [this]
    exact hq
  · have none' : valV (dOf (.bl true) ps) (kI r l) = none := dOf_none fun p hp ek => hin ⟨p, hp, ek⟩
    rw [none']
    refine iteT ⟨_, rfl, _, rfl, _, rfl, _, ⟨_, a, b, f, r, l, rfl, hpic.ex (e.trans et), rfl⟩, fun v H2 e2 z => ⟨_, z, ?_⟩⟩
    cases hb : inB a b r l with
    | false =>
      refine iteF (iteF (skip _ (et.trans e2) fun q' ad ith => ?_))
      obtain ⟨n1, n2⟩ := nth q' ith
      obtain ⟨g1, g2⟩ := ad.2.1
      have := inB_true (a := a) (b := b) (x := r) (y := l) |>.mpr ⟨⟨by omega, by omega⟩, by omega, by omega⟩
      rw [hb] at this
      cases this
    | true =>
      obtain ⟨⟨r0, ra⟩, l0, lb⟩ := inB_true.mp hb
      obtain ⟨qx, rfl⟩ := Int.eq_ofNat_of_zero_le r0
      obtain ⟨qy, rfl⟩ := Int.eq_ofNat_of_zero_le l0
      have e02 := e.trans (et.trans e2)
      refine iteT ⟨_, rfl, _, rfl, _, rfl, _, ⟨_, a, b, f, qx, qy, rfl, hpic.ex e02, by omega, by omega, by omega, by omega, rfl⟩, fun v3 H3 e3 hc3 => ⟨_, rfl, colD (f qx qy), colD (f s.1 s.2), dp_col hc3, dp_col (ColP.mo K _ _ _ _ (Kp.ex (e02.trans e3)) hcol), shaped_col _, shaped_col _, _, rfl, ?_⟩⟩
      rw [eqv_col]
      have nq : ((qx, qy) : Plc) ∉ ps := fun h => hin ⟨_, h, rfl⟩
      have pcol := conn_col (md.ins p0 md.me).2
      by_cases hcq : f qx qy = f s.1 s.2
      · rw [decide_eq_true hcq]
        have ith : IsNth p0 i (qx, qy) := ⟨by rw [hnb], by rw [hnb]⟩
        have ad : Adj a b f p0 (qx, qy) := ⟨(md.ins p0 md.me).1, ⟨by show qx < a; omega, by show qy < b; omega⟩, pcol.trans hcq.symm, nth_nb hi ith⟩
        have md' := md.add nq ad ith
        have hlen' : (ps ++ [(qx, qy)]).length ≤ a * b := places_le md'.nd fun p hp => (md'.ins p hp).1
        rw [List.length_append, List.length_singleton] at hlen'
        have e13 := et.trans (e2.trans e3)
        have hd3 := e13 _ _ hd
        have hrl3 := e13 _ _ hrl
        have nrd : rl ≠ d := ne_of hrl hd (fun z => nomatch z)
        refine iteT ⟨_, rfl, _, rfl, _, rfl, two, fun tk2 n2 => ?_⟩
        have e4 := Evl.Ex.new (o := HO.tup [V.int (qx : Int), V.int (qy : Int)]) n2
        have hd4 := e4 _ _ hd3
        refine ⟨d, _, rfl, DPut.t (k := kI (qx : Int) (qy : Int)) hd4 upd_same (by unfold dOf; rw [List.length_map, sizeLine_eq]; omega), ?_⟩
        have pk : putK (dOf (.bl true) ps) (kI (qx : Int) (qy : Int)) (V.bl true) = dOf (.bl true) (ps ++ [(qx, qy)]) := by
          rw [putK_new _ none', dOf_snoc]
          rfl
        rw [pk]
        have hrl5 := upd_ne (H := upd H3 tk2 (.tup [V.int (qx : Int), V.int (qy : Int)])) (o := HO.dT (dOf (.bl true) (ps ++ [(qx, qy)]))) nrd
        rw [e4 _ _ hrl3] at hrl5
        refine ⟨_, rfl, .inl ⟨rfl, _, .inl (.inl hrl5)⟩, _, rfl, _, rfl, two, fun tk3 n3 => ?_⟩
        have e6 := Evl.Ex.new (o := HO.tup [V.int (qx : Int), V.int (qy : Int)]) n3
        have hrl6 := e6 _ _ hrl5
        have hd6 := e6 _ _ (upd_same (H := upd H3 tk2 (.tup [V.int (qx : Int), V.int (qy : Int)])) (a := d) (o := HO.dT (dOf (.bl true) (ps ++ [(qx, qy)]))))
        have rlen : rv.length = rs.length := Paired.length hrv
        have kpa : Kp H _ := (Kp.ex (e13.trans e4)).trans ((Kp.wr hd4 (fun _ z => nomatch z) (fun _ _ z => nomatch z)).trans ((Kp.ex e6).trans (Kp.lst (u := .lst (rv ++ [.ref tk3])) hrl6)))
        refine ⟨rl, rv, .ref tk3, rfl, rfl, hrl6, ?_, nx _ _ ⟨ps ++ [(qx, qy)], rs ++ [(qx, qy)], rv ++ [.ref tk3], _, _, rfl, ?_, kp.trans kpa, ?_, upd_same, ?_, md', ?_⟩⟩
        · rw [rlen, sizeLine_eq]
          omega
        · exact Evl.Ex.mut ((Evl.Ex.mut (e.trans (e13.trans e4)) hd1).trans e6) hrl1
        · rw [upd_ne nrd.symm]
          exact hd6
        · exact Paired.snoc (RV.mo hrv kpa) ⟨tk3, rfl, (Kp.lst hrl6).sq (SqT.of upd_same)⟩
        · simp only [List.length_append, List.length_singleton]
          omega
      · rw [decide_eq_false hcq]
        refine iteF (skip _ (et.trans (e2.trans e3)) fun q' ad ith' => ?_)
        obtain ⟨n1, n2⟩ := nth q' ith'
        obtain ⟨px, py⟩ := q'
        have e1 : px = qx := by
          have : (px : Int) = (qx : Int) := n1
          omega
        have e2' : py = qy := by
          have : (py : Int) = (qy : Int) := n2
          omega
        subst e1 e2'
        exact absurd (ad.2.2.1.symm.trans pcol) hcq
theorem cal_areafrom (D : DefAt K mg "area_from" sAreaFrom) (B : Blt mg) (CI : Cal P w K mg base 1 "is_in" ["picture", "x", "y"] (spIsIn K)) (CC : Cal P w K mg base 2 "cell_at" ["picture", "x", "y"] (spCellAt K)) :
    Cal P w K mg base 3 "area_from" ["picture", "x", "y"] (spAreaFrom K) := by
  refine cal_of D scAreaFrom (fun _ _ _ _ _ _ us hl => match us, hl with | [_, _, _], _ => rfl) (fun vs H Q E h => ?_) (fun fa cdv A outer s H vs Q E hr h => ?_)
  · obtain ⟨T, ⟨v, a, b, f, x, y, rfl, _⟩, _⟩ := h
    rfl
  · obtain ⟨T, ⟨pic, a, b, f, x, y, rfl, hpic, hx, hy, a9, b9, rfl⟩, q⟩ := h
    have hr1 := hr.mono (show 1 ≤ 2 by decide)
    refine ⟨_, pss_cons (ps_par3 (i := 3) (j := 4) (l := 5) rfl scAreaFrom.nd rfl rfl rfl (by decide) (by decide) (by decide) rfl rfl rfl
        (pa_cons (pe_cal CC hr (by rfl) (pa_cons (pv 0) (pa_cons (pv 1) (pa_cons (pv 2) pa_nil)))) (pa_cons (pe_disp1T hr.units0 (pe_tup (pa_cons (pv 1) (pa_cons (pv 2) pa_nil))) pe_bl) (pa_cons (pe_lst (pa_cons (pe_tup (pa_cons (pv 1) (pa_cons (pv 2) pa_nil))) pa_nil)) pa_nil))) rfl)
      (pss_cons (ps_while PassesOwn.never (pt_truth (pv 5) (by intro _; rfl))
        (pss_cons (ps_asg (pv 5) (pg_star rfl (pg_tup rfl (pgs_cons (pg_name (i := 6) scAreaFrom.nd rfl (Or.inl rfl)) (pgs_cons (pg_name (i := 7) scAreaFrom.nd rfl (Or.inl rfl)) pgs_nil))) (pg_name (i := 5) scAreaFrom.nd rfl (Or.inl rfl))))
        (pss_one (ps_for PassesOwn.never rfl (pi_tup (pe_tup (pa_cons (pe_tup (pa_cons (pe_op op_add (pv 6) pe_int) (pa_cons (pv 7) pa_nil))) (pa_cons (pe_tup (pa_cons (pe_op op_sub (pv 6) pe_int) (pa_cons (pv 7) pa_nil)))
            (pa_cons (pe_tup (pa_cons (pv 6) (pa_cons (pe_op op_add (pv 7) pe_int) pa_nil))) (pa_cons (pe_tup (pa_cons (pv 6) (pa_cons (pe_op op_sub (pv 7) pe_int) pa_nil))) pa_nil))))))
          (pg_tup rfl (pgs_cons (pg_name (i := 8) scAreaFrom.nd rfl (Or.inl rfl)) (pgs_cons (pg_name (i := 9) scAreaFrom.nd rfl (Or.inl rfl)) pgs_nil)))
          (pss_one (ps_if (PW.pt (pw_and (pt_cmp (pc_dnotin (hu_of hr) (pe_tup (pa_cons (pv 8) (pa_cons (pv 9) pa_nil))) (pv 4)))
              (pw_and (pt_val (pe_cal CI hr1 (by rfl) (pa_cons (pv 0) (pa_cons (pv 8) (pa_cons (pv 9) pa_nil)))))
              (pw_and1 (pt_cmpR (op_eqD hr.units) (pe_cal CC hr (by rfl) (pa_cons (pv 0) (pa_cons (pv 8) (pa_cons (pv 9) pa_nil)))) (pv 3) (nomark _))))))
            (pss_cons (ps_dput (hu_of hr) (pv 4) (pe_tup (pa_cons (pv 8) (pa_cons (pv 9) pa_nil))) pe_bl rfl)
              (pss_one (ps_expr (pe_bm PySem.F.plainAttrs_list PySem.F.slot_list_append PySem.F.type_list_append mt_append (pv 5) (pa_cons (pe_tup (pa_cons (pv 8) (pa_cons (pv 9) pa_nil))) pa_nil)))))
            pss_nil))))))
      (pss_one (ps_ret (pv 4)))), ?_⟩
    have two : 2 ≤ sizeLine := by decide
    have one : 1 ≤ sizeLine := by decide
    have small : a * b ≤ 12 * 12 := Nat.mul_le_mul a9 b9
    -- colour, found, row
    refine ⟨_, rfl, _, rfl, _, rfl, _, ⟨_, a, b, f, x, y, rfl, hpic, hx, hy, by omega, by omega, rfl⟩, fun vc H1 e1 hcol => fun d nd => ?_⟩
    refine ⟨_, rfl, _, rfl, two, fun tk ntk => ?_⟩
    have ed := Evl.Ex.new (o := HO.dT []) nd
    have et := Evl.Ex.new (o := HO.tup [V.int (x : Int), V.int (y : Int)]) ntk
    have hd2 := et _ _ (upd_same (H := H1) (a := d) (o := HO.dT []))
    refine ⟨tk, kI (x : Int) (y : Int), rfl, upd_same, hd2, ?_⟩
    refine ⟨_, rfl, _, rfl, two, fun t2 nt2 => ⟨one, fun l nl => ⟨_, _, _, rfl, ?_⟩⟩⟩
    have e2 := Evl.Ex.new (o := HO.tup [V.int (x : Int), V.int (y : Int)]) nt2
    have el := Evl.Ex.new (o := HO.lst [V.ref t2]) nl
    have ex3 : Ex H1 (upd (upd (upd H1 d (.dT [])) tk (.tup [V.int (x : Int), V.int (y : Int)])) d (.dT [(kI (x : Int) (y : Int), V.bl true)])) := Evl.Ex.mut (ed.trans et) nd
    have ex5 := (ex3.trans e2).trans el
    have pic1 := hpic.ex e1
    have nl1 : H1 l = none := Evl.fresh_back (ex3.trans e2) nl
    -- while row
    refine ⟨AW K a b f (x, y) pic vc d H1, ⟨_, l, [(x, y)], [(x, y)], [V.ref t2], _, _, _, _, rfl, ex5, nl1, (e2.trans el) _ _ upd_same, upd_same, .cons ⟨t2, rfl, SqT.of (el _ _ upd_same)⟩ .nil, Good.init ⟨hx, hy⟩, rfl, ?_⟩, ?_⟩
    · show 2 * (a * b) - 2 * 1 + 1 ≤ 1000
      omega
    rintro m σ' H2 ⟨rl, ps, rs, rv, y6, y7, y8, y9, rfl, e, nrl, hd, hrl, hrv, gd, hm, hm9⟩
    refine ⟨_, rfl, _, .inl ⟨rv, .inl (.inl hrl), rfl⟩, ?_⟩
    cases hrv with
    | nil =>
      refine iteF ?_
      exact ⟨_, rfl, q _ _ (e1.trans e) ⟨d, ps, rfl, hd, gd.nd, gd.done⟩⟩
    | @cons u0 p0 rv' rs' hu0 hrv' =>
      obtain ⟨t0, rfl, hs0⟩ := hu0
      have hlen : ps.length ≤ a * b := places_le gd.nd fun p hp => (gd.ins p hp).1
      have rlen : rv'.length = rs'.length := Paired.length hrv'
      have hms : 2 * (a * b) - 2 * ps.length + rs'.length < m := by
        rw [hm, List.length_cons]
        omega
      refine iteT ⟨fun σ' H' => ∃ m', m' < m ∧ AW K a b f (x, y) pic vc d H1 m' σ' H', fun σ' H' z => z, ?_⟩
      -- (across, down), *row = row
      refine ⟨_, rfl, rl, _, rv', rfl, hrl, by omega, fun l2 nl2 => ⟨t0, _, rfl, Evl.ex_t (Evl.Ex.new nl2) hs0, rfl, _, _, rfl, _, _, rfl, rfl, ?_⟩⟩
      have e3 := Evl.Ex.new (o := HO.lst rv') nl2
      -- the four neighbours
      refine ⟨_, rfl, (p0.1 : Int), 1, rfl, rfl, _, rfl, two, fun t1 n1 => ?_⟩
      refine ⟨_, rfl, (p0.1 : Int), 1, rfl, rfl, _, rfl, two, fun t2' n2 => ?_⟩
      refine ⟨_, rfl, _, rfl, (p0.2 : Int), 1, rfl, rfl, two, fun t3 n3 => ?_⟩
      refine ⟨_, rfl, _, rfl, (p0.2 : Int), 1, rfl, rfl, two, fun t4 n4 => ?_⟩
      refine ⟨by show 4 ≤ sizeLine; decide, fun t5 n5 => ⟨t5, rfl, ⟨_, SqT.of upd_same⟩, ?_⟩⟩
      have f1 := Evl.Ex.new (o := HO.tup [V.int ((p0.1 : Int) + 1), V.int (p0.2 : Int)]) n1
      have f2 := Evl.Ex.new (o := HO.tup [V.int ((p0.1 : Int) - 1), V.int (p0.2 : Int)]) n2
      have f3 := Evl.Ex.new (o := HO.tup [V.int (p0.1 : Int), V.int ((p0.2 : Int) + 1)]) n3
      have f4 := Evl.Ex.new (o := HO.tup [V.int (p0.1 : Int), V.int ((p0.2 : Int) - 1)]) n4
      have f5 := Evl.Ex.new (o := HO.tup [V.ref t1, V.ref t2', V.ref t3, V.ref t4]) n5
      have f15 := (((f1.trans f2).trans f3).trans f4).trans f5
      have nl21 : H1 l2 = none := Evl.fresh_back e nl2
      generalize hHf : upd (upd (upd (upd (upd (upd H2 l2 (.lst rv')) t1 (.tup [V.int ((p0.1 : Int) + 1), V.int (p0.2 : Int)])) t2' (.tup [V.int ((p0.1 : Int) - 1), V.int (p0.2 : Int)])) t3 (.tup [V.int (p0.1 : Int), V.int ((p0.2 : Int) + 1)])) t4 (.tup [V.int (p0.1 : Int), V.int ((p0.2 : Int) - 1)])) t5 (.tup [V.ref t1, V.ref t2', V.ref t3, V.ref t4]) = Hf at *
      have itms : ∀ (i : Nat) (u : V), [V.ref t1, V.ref t2', V.ref t3, V.ref t4][i]? = some u → ∃ t, u = .ref t ∧ SqT K Hf t [.int (nbI p0 i).1, .int (nbI p0 i).2] := by
        intro i u hu
        match i, hu with
        | 0, hu => exact ⟨t1, (Option.some.inj hu).symm, SqT.of ((((f2.trans f3).trans f4).trans f5) _ _ upd_same)⟩
        | 1, hu => exact ⟨t2', (Option.some.inj hu).symm, SqT.of (((f3.trans f4).trans f5) _ _ upd_same)⟩
        | 2, hu => exact ⟨t3, (Option.some.inj hu).symm, SqT.of ((f4.trans f5) _ _ upd_same)⟩
        | 3, hu => exact ⟨t4, (Option.some.inj hu).symm, SqT.of (f5 _ _ upd_same)⟩
        | i + 4, hu => cases hu
      have hst5 : SqT K Hf t5 [V.ref t1, V.ref t2', V.ref t3, V.ref t4] := SqT.of (by rw [← hHf]; exact upd_same)
      refine for_tup (xs := [V.ref t1, V.ref t2', V.ref t3, V.ref t4]) (fun i σ' H' => AF K a b f (x, y) p0 pic vc d l2 H1 Hf m i σ' H') ⟨ps, rs', rv', _, _, rfl, (e.trans e3).trans f15, Kp.refl _, (e3.trans f15) _ _ hd, f15 _ _ upd_same, RV.mo hrv' (Kp.ex (e3.trans f15)), Mid.start gd, hms⟩ (fun i σ' H' _ z => ?_) ?_ ?_
      · obtain ⟨_, _, _, _, _, _, _, kp, _⟩ := z
        exact kp.sq hst5
      · rintro i u σ' H' hu ⟨ps1, rs1, rv1, z8, z9, rfl, ea, kp, hda, hrla, hrva, md, hma⟩
        obtain ⟨t, rfl, hst⟩ := itms i u hu
        have hi : i < 4 := (List.getElem?_eq_some_iff.mp hu).1
        refine ⟨t, _, rfl, kp.sq hst, rfl, _, _, rfl, _, _, rfl, rfl, ?_⟩
        exact nbr_go a9 b9 pic1 hcol nd nl21 hi ea kp hda hrla hrva md hma hm9 fun σ'' H'' z => z
      · rintro σ' H' ⟨ps1, rs1, rv1, z8, z9, rfl, ea, kp, hda, hrla, hrva, md, hma⟩
        exact ⟨_, hma, l2, ps1, rs1, rv1, _, _, _, _, rfl, ea, nl21, hda, hrla, hrva, md.fin, rfl, by omega⟩
end
end K08
namespace K08
open PySem PySem.Spec PyProof.Rows L2
open Evl (Ex)
section
variable {P : Program} {w : World} {K : PySem.W.Frag} {mg : Str → Option Value} {base : Heap}
/-! ### areas -/
def spAreas (K : PySem.W.Frag) : Sp := Pr fun vs H T => ∃ (v : V) (a b : Nat) (f : Pix), vs = [v] ∧ PicP K a b f H v ∧ 0 < a ∧ 0 < b ∧ a ≤ 12 ∧ b ≤ 12 ∧
  T = fun H v => ∃ lab m, Lab a b f lab m ∧ TpP K (a * b) (fun i _ u => u = .int (lab (i % a) (i / a) : Nat)) H v
abbrev nAreas : List Str := ["picture", "width", "height", "cells", "numbers", "many", "y", "x", "place"]
theorem scAreas : FnScope nAreas ["picture"] (defScope sAreas) := ⟨rfl, rfl, rfl, by decide +kernel, rfl, by decide +kernel, by decide +kernel⟩
/-- the numbers told so far, t places seen -/
def NW (K : PySem.W.Frag) (a b : Nat) (f : Pix) (pic pc : V) (d : Addr) (H1 : Hp) (t : Nat) (y6 : Option V) (σ : L2.St) (H : Hp) : Prop :=
  ∃ (L : Plc → Option Nat) (m : Nat) (kvs : List (KeyL × V)) (y7 y8 : Option V), σ = [some pic, some (.int (a : Int)), some (.int (b : Int)), some pc, some (.ref d), some (.int (m : Int)), y6, y7, y8] ∧ Ex H1 H ∧
    H d = some (.dT kvs) ∧ Num a b f t L m ∧ (∀ p, valV kvs (kOf p) = (L p).map fun (n : Nat) => V.int (n : Int)) ∧ kvs.length ≤ 144 * m ∧ m ≤ t
def tPl2 : TE := tTup (tCons (tVar 7) (tCons (tVar 6) tNil))
theorem cal_areas (D : DefAt K mg "areas" sAreas) (B : Blt mg) (CA : Cal P w K mg base 3 "area_from" ["picture", "x", "y"] (spAreaFrom K)) :
    Cal P w K mg base 4 "areas" ["picture"] (spAreas K) := by
  refine cal_of D scAreas (fun _ _ _ _ _ _ us hl => match us, hl with | [_], _ => rfl) (fun vs H Q E h => ?_) (fun fa cdv A outer s H vs Q E hr h => ?_)
  · obtain ⟨T, ⟨v, a, b, f, rfl, _⟩, _⟩ := h
    rfl
  · obtain ⟨T, ⟨pic, a, b, f, rfl, hpic, a0, b0, a9, b9, rfl⟩, q⟩ := h
    refine ⟨_, pss_cons (ps_asg (pv 0) (pg_tup rfl (pgs_cons (pg_name (i := 1) scAreas.nd rfl (Or.inr rfl)) (pgs_cons (pg_name (i := 2) scAreas.nd rfl (Or.inl rfl)) (pgs_cons (pg_name (i := 3) scAreas.nd rfl (Or.inl rfl)) pgs_nil)))))
      (pss_cons (ps_asg (pe_tup (pa_cons pe_dnewT (pa_cons pe_int pa_nil))) (pg_tup rfl (pgs_cons (pg_name (i := 4) scAreas.nd rfl (Or.inr rfl)) (pgs_cons (pg_name (i := 5) scAreas.nd rfl (Or.inr rfl)) pgs_nil))))
      (pss_cons (ps_for PassesOwn.never rfl (pi_range1 (by rfl) B.range (pa_cons (pv 2) pa_nil)) (pg_name (i := 6) scAreas.nd rfl (Or.inl rfl))
        (pss_one (ps_for PassesOwn.never rfl (pi_range1 (by rfl) B.range (pa_cons (pv 1) pa_nil)) (pg_name (i := 7) scAreas.nd rfl (Or.inl rfl))
          (pss_one (ps_if (pt_cmp (pc_dnotin (hu_of hr) (pe_tup (pa_cons (pv 7) (pa_cons (pv 6) pa_nil))) (pv 4)))
            (pss_cons (ps_expr (pe_bm PySem.F.plainAttrs_dict PySem.F.slot_dict_update PySem.F.type_dict_update (mt_updT (hu_of hr)) (pv 4) (pa_cons
                (pe_dcKeys (j := 5) rfl (pe_cal CA hr (by rfl) (pa_cons (pv 0) (pa_cons (pv 7) (pa_cons (pv 6) pa_nil)))) rfl rfl hr.units0 rfl rfl) pa_nil)))
              (pss_one (ps_aug (i := 5) scAreas.nd rfl (.inr rfl) pe_int ip_add)))
            pss_nil)))))
      (pss_one (ps_ret (pe_callTy call_tuple_of (by rfl) B.tuple PyProof.Rows.boot_tuple (pa_cons
        (pe_lc2 (own := [("y", 6), ("x", 7)]) (vs1 := [7]) (g := gName 6) (g1 := gName 7) (tt := tYes) (tt1 := tYes) (wi1 := iRng1 (tCons (tVar 1) tNil)) (te := tDGet (tVar 4) tPl2) rfl scAreas.nd (pi_range1 (by rfl) B.range (pa_cons (pv 2) pa_nil))
          (blkOk_by (own := [("y", 6), ("x", 7)]) (N := nAreas) (sc := defScope sAreas) (by decide +kernel)) (by decide)
          (fun _ _ _ _ _ => pg_name (i := 6) scAreas.nd rfl (Or.inl rfl)) (fun _ _ _ _ _ => pts_nil) (fun _ _ _ _ _ => pi_range1 (by rfl) B.range (pa_cons (pv 1) pa_nil)) (fun _ _ _ _ _ => pg_name (i := 7) scAreas.nd rfl (Or.inl rfl)) (fun _ _ _ _ _ => pts_nil)
          (fun _ _ _ _ _ => pe_dget (hu_of hr) (pv 4) (pe_tup (pa_cons (pv 7) (pa_cons (pv 6) pa_nil))) (fun _ _ => rfl))) pa_nil)))))), ?_⟩
    have two : 2 ≤ sizeLine := by decide
    have small : a * b ≤ 12 * 12 := Nat.mul_le_mul a9 b9
    obtain ⟨p, pc, cs, rfl, hp, hc, its⟩ := id hpic
    refine ⟨_, rfl, unpack3 rfl hp ?_⟩
    refine fun d nd => ⟨two, fun t0 nt0 => ⟨t0, _, rfl, SqT.of upd_same, rfl, _, _, rfl, _, _, rfl, rfl, ?_⟩⟩
    have ed := Evl.Ex.new (o := HO.dT []) nd
    have et0 := Evl.Ex.new (o := HO.tup [V.ref d, V.int 0]) nt0
    refine ⟨_, rfl, (b : Int), rfl, by omega, by omega, ?_⟩
    refine for_range (lo := 0) (n := (b : Int).toNat) (fun y σ' H' => ∃ y6, NW K a b f (.ref p) (.ref pc) d H (y * a) y6 σ' H')
      ⟨none, fun _ => none, 0, [], none, none, rfl, ed.trans et0, et0 _ _ upd_same, by rw [Nat.zero_mul]; exact Num.zero, fun _ => rfl, Nat.zero_le _, Nat.zero_le _⟩ ?_ ?_
    · rintro y σ0 H0 hy ⟨y6, L0, m0, kvs0, y7, y8, rfl, e0, hd0, N0, lk0, len0, le0⟩
      have hyb : y < b := by omega
      have ey : (0 : Int) + (y : Int) = (y : Int) := Int.zero_add _
      rw [ey]
      refine ⟨_, rfl, (a : Int), rfl, by omega, by omega, ?_⟩
      refine for_range (lo := 0) (n := (a : Int).toNat) (fun x σ' H' => NW K a b f (.ref p) (.ref pc) d H (y * a + x) (some (.int (y : Int))) σ' H')
        ⟨L0, m0, kvs0, y7, y8, rfl, e0, hd0, N0, lk0, len0, le0⟩ ?_ ?_
      · rintro x σ' H2 hx ⟨L, m, kvs, z7, z8, rfl, e, hd, N, lk, len, le⟩
        have hxa : x < a := by omega
        have ex : (0 : Int) + (x : Int) = (x : Int) := Int.zero_add _
        rw [ex]
        have hix : y * a + x < a * b := ix_lt hxa hyb
        refine ⟨_, rfl, _, rfl, two, fun tk ntk => ⟨_, rfl, d, _, rfl, DGet.t (k := kOf (x, y)) (Evl.Ex.new ntk _ _ hd) upd_same, _, rfl, ?_⟩⟩
        have ek := Evl.Ex.new (o := HO.tup [V.int (x : Int), V.int (y : Int)]) ntk
        rw [lk (x, y)]
        cases hL : L (x, y) with
        | some n =>
          exact iteF ⟨L, m, kvs, _, _, rfl, e.trans ek, ek _ _ hd, N.skip (p := (x, y)) hxa rfl (by rw [hL]; exact fun z => nomatch z), lk, len, Nat.le_succ_of_le le⟩
        | none =>
          have hd2 := ek _ _ hd
          refine iteT ⟨_, rfl, .inr (.inr (.inl ⟨rfl, .inr ⟨_, hd2⟩⟩)), _, rfl, _, rfl, _, rfl, _, ⟨_, a, b, f, x, y, rfl, hpic.ex (e.trans ek), hxa, hyb, a9, b9, rfl⟩, fun v2 H3 e3 ⟨da, ps, ev, hda, psn, hps⟩ => ?_⟩
          subst ev
          have ins : ∀ q, q ∈ ps → Rg a b q := fun q hq => ((hps q).mp hq).rg ⟨hxa, hyb⟩
          have hpl : ps.length ≤ a * b := places_le psn ins
          have hd3 := e3 _ _ hd2
          have hnew : ((dOf (.bl true) ps).map fun p => (p.1, V.int (m : Int))) = dOf (.int (m : Int)) ps := by
            unfold dOf
            rw [List.map_map]
            rfl
          refine ⟨da, _, .int (m : Int), rfl, hda, rfl, fun D nD => ?_⟩
          rw [hnew]
          have e4 := Evl.Ex.new (o := HO.dT (dOf (.int (m : Int)) ps)) nD
          have hd4 := e4 _ _ hd3
          have hdl : (dOf (V.int (m : Int)) ps).length = ps.length := by
            unfold dOf
            rw [List.length_map]
          refine ⟨d, D, kvs, _, rfl, rfl, ne_of_none hd3 nD, hd4, upd_same, .inr (hash_nodup _ _ a9 b9 psn ins), by rw [hdl, sizeLine_eq]; omega, ?_⟩
          refine ⟨_, rfl, (m : Int), 1, rfl, rfl, ?_⟩
          refine ⟨fun q => if q ∈ ps then some m else L q, m + 1, mergeT kvs (dOf (.int (m : Int)) ps), _, _, rfl, Evl.Ex.mut (((e.trans ek).trans e3).trans e4) nd, upd_same, N.add (p := (x, y)) ⟨hxa, hyb⟩ rfl hL hps, fun q => ?_, ?_, Nat.succ_le_succ le⟩
          · show valV _ (kOf q) = (if q ∈ ps then some m else L q).map fun (n : Nat) => V.int (n : Int)
            by_cases hq : q ∈ ps
            · rw [if_pos hq, merge_new (.inr ⟨q, hq, rfl⟩)]
              rfl
            · rw [if_neg hq, merge_old (fun r hr e => hq (by rw [← kOf_inj e]; exact hr)), lk q]
          · have := mergeT_len (dOf (.int (m : Int)) ps) kvs
            rw [hdl] at this
            omega
      · rintro σ' H2 z
        rw [Int.toNat_natCast] at z
        exact ⟨_, by rw [Nat.succ_mul]; exact z⟩
    · rintro σ' H2 ⟨y6, L, m, kvs, y7, y8, rfl, e, hd, N, lk, len, le⟩
      rw [Int.toNat_natCast, Nat.mul_comm] at N
      have lab := N.lab
      refine ⟨_, rfl, (b : Int), rfl, by omega, by omega, fun Dl hD => ?_⟩
      have small' : b * a ≤ 12 * 12 := Nat.mul_le_mul b9 a9
      refine lc2P (T := fun i x => x = V.int ((0 : Int) + (i : Int))) a (fun i _ u => u = V.int (((L (i % a, i / a)).getD 0 : Nat) : Int)) wk_rng hD (by rw [Int.toNat_natCast]; omega) (fun _ _ _ _ _ z => z) (fun _ => rfl) (fun _ _ => rfl) ?_ ?_
      · rintro i x H3 hi rfl e3 R k
        have hib : i < b := by omega
        refine ⟨_, rfl, (a : Int), rfl, by omega, by omega, ?_⟩
        refine k _ H3 (fun j u => u = V.int ((0 : Int) + (j : Int))) (Evl.Ex.refl _) (by rw [Int.toNat_natCast]; exact wi_rng) fun j x' H5 hj hx' kd ex Q1 kk => ?_
        subst hx'
        rw [Int.zero_add, Int.zero_add]
        have hd5 := ex _ _ hd
        obtain ⟨n, hn⟩ : ∃ n, L (j, i) = some n := by
          cases hL : L (j, i) with
          | some n => exact ⟨n, rfl⟩
          | none => exact absurd hL (N.seen (j, i) ⟨hj, hib⟩ (ix_lt hj hib))
        refine ⟨_, rfl, _, rfl, _, rfl, two, fun tk ntk => ?_⟩
        have ek := Evl.Ex.new (o := HO.tup [V.int (j : Int), V.int (i : Int)]) ntk
        have dg := DGet.t (k := kOf (j, i)) (ek _ _ hd5) (upd_same (H := H5) (a := tk) (o := HO.tup [V.int (j : Int), V.int (i : Int)]))
        rw [lk (j, i), hn] at dg
        refine ⟨d, _, rfl, dg, kk _ _ ek ?_⟩
        show V.int (n : Int) = V.int (((L ((i * a + j) % a, (i * a + j) / a)).getD 0 : Nat) : Int)
        rw [ix_mod hj, ix_div hj, hn]
        rfl
      · intro H3 ys e3 hD3 its3
        refine ⟨Dl, ys, rfl, .inl ⟨.inl (.inl hD3), fun l nl => ?_⟩⟩
        have el := Evl.Ex.new (o := HO.tup ys) nl
        refine q _ _ ((e.trans e3).trans el) ⟨fun x y => (L (x, y)).getD 0, m, lab, l, ys, rfl, SqT.of upd_same, ?_⟩
        rw [Int.toNat_natCast, Nat.mul_comm] at its3
        exact its3.mono fun i u _ z => z
end
end K08
namespace K08
open PySem PySem.Spec PyProof.Rows L2
open Evl (Ex)
/-! ### the script, the town -/
/-- the script: a list of ints that nothing but the town's list touches -/
def Scr (K : PySem.W.Frag) (T sA : Addr) (H : Hp) : Prop := ∃ ns : List Int, ns.length ≤ 63 ∧ ∀ H', Eb T H H' → SqL K H' sA (ns.map V.int)
def TownP (T : Addr) (n : Nat) (H : Hp) : Prop := ∃ xs : List Int, H T = some (.lst (xs.map V.int)) ∧ xs.length ≤ n
structure Rig (K : PySem.W.Frag) (T sA : Addr) (n : Nat) (H : Hp) : Prop where
  scr : Scr K T sA H
  town : TownP T n H
theorem Scr.kd {K : PySem.W.Frag} {T sA : Addr} {H H' : Hp} (h : Scr K T sA H) (k : Kd T H H') : Scr K T sA H' := let ⟨ns, l, q⟩ := h; ⟨ns, l, fun H2 e => q H2 (k.1.trans e)⟩
theorem Rig.ex {K : PySem.W.Frag} {T sA : Addr} {n : Nat} {H H' : Hp} (h : Rig K T sA n H) (e : Ex H H') : Rig K T sA n H' := ⟨h.scr.kd (Kd.ex e), let ⟨xs, a, b⟩ := h.town; ⟨xs, e _ _ a, b⟩⟩
theorem Rig.le {K : PySem.W.Frag} {T sA : Addr} {n m : Nat} {H : Hp} (h : Rig K T sA n H) (e : n ≤ m) : Rig K T sA m H := ⟨h.scr, let ⟨xs, a, b⟩ := h.town; ⟨xs, a, Nat.le_trans b e⟩⟩
theorem ItsP.ints {ys : List V} {n : Nat} {H : Hp} (h : ItsP ys n (fun _ _ u => ∃ z : Int, u = .int z) H) : ∃ zs : List Int, ys = zs.map V.int ∧ zs.length = n := by
  obtain ⟨h1, h2⟩ := h
  induction ys generalizing n with
  | nil => exact ⟨[], rfl, h1⟩
  | cons y r ih =>
    obtain ⟨z, e⟩ := h2 0 y rfl
    obtain ⟨zs, e2, e3⟩ := ih (n := r.length) rfl fun i u hu => h2 (i + 1) u hu
    exact ⟨z :: zs, by rw [e, e2, List.map_cons], by rw [← h1, List.length_cons, List.length_cons, e3]⟩
theorem max_some : ∀ (n : Int) (ns : List Int), ∃ m, m ∈ n :: ns ∧ ∀ y, y ∈ n :: ns → y ≤ m := fun n ns => ⟨_, maxOf_int ns n⟩
section
variable {P : Program} {w : World} {K : PySem.W.Frag} {mg : Str → Option Value} {base : Heap}
def spDraw (K : PySem.W.Frag) : Sp := fun vs H Q _ => ∃ (sA T : Addr) (m : Int) (n : Nat), vs = [.ref sA, .ref T, .int m] ∧ Rig K T sA n H ∧ n ≤ 10000 ∧ 0 < m ∧
  ∀ (x : Int) H', Kd T H H' → Rig K T sA (n + 2) H' → 0 ≤ x → x < m → Q (.int x) H'
abbrev nDraw : List Str := ["_law_script", "_law_town", "_law_many", "_law_cell", "_law_k", "_law_digits", "_law_number", "_law_more"]
theorem scDraw : FnScope nDraw ["_law_script", "_law_town", "_law_many"] (defScope sDraw) := ⟨rfl, rfl, rfl, by decide +kernel, rfl, by decide +kernel, by decide +kernel⟩
theorem cal_draw (D : DefAt K mg "_law_draw" sDraw) (B : Blt mg) : Cal P w K mg base 1 "_law_draw" ["_law_script", "_law_town", "_law_many"] (spDraw K) := by
  refine cal_of D scDraw (fun _ _ _ _ _ _ us hl => match us, hl with | [_, _, _], _ => rfl) (fun vs H Q E h => ?_) (fun fa cdv A outer s H vs Q E hr h => ?_)
  · obtain ⟨sA, T, m, n, rfl, _⟩ := h
    rfl
  · obtain ⟨sA, T, m, n, rfl, ⟨⟨ns, nl, hS⟩, xs0, hT0, xl0⟩, n9, m0, q⟩ := h
    obtain ⟨tC, hC, kC⟩ : ∃ tC, PSs (cxOf CX0 P w K mg base nDraw "_law_draw" (defScope sDraw) fa cdv A outer s H E).nox ((defBody sDraw).drop 4) tC ∧
        ∀ (x c k : Int) (xr : List Int) H1, Kd T H H1 → H1 T = some (.lst ((x :: xr).map V.int)) → (x :: xr).length ≤ n + 2 → tC { nx := fun _ H' => Q .non H', rt := Q } [some (.ref sA), some (.ref T), some (.int m), some (.int c), some (.int k), none, none, none] H1 := by
      refine ⟨_, pss_cons (ps_set (i := 5) scDraw.nd rfl (.inl rfl) (pe_op op_mod (pe_ix ix_list (pv 1) pe_int (fun _ _ => rfl)) pe_int))
        (pss_cons (ps_asg (pe_op op_fdiv (pe_ix ix_list (pv 1) pe_int (fun _ _ => rfl)) pe_int) (pg_sub (pv 1) pe_int set_list))
        (pss_cons (ps_set (i := 6) scDraw.nd rfl (.inl rfl) (pe_op op_mod (pe_op op_add (pe_op op_add (pv 3) (pe_op op_mul pe_int (pv 5))) (pe_op op_mul pe_int (pv 4))) pe_int))
        (pss_cons (ps_set (i := 6) scDraw.nd rfl (.inl rfl) (pe_op op_mod (pe_op op_mul (pe_op op_mod (pe_op op_mul (pv 6) (pv 6)) pe_int) pe_int) pe_int))
        (pss_cons (ps_set (i := 7) scDraw.nd rfl (.inl rfl) (pe_op op_mod (pe_op op_mul (pe_op op_mod (pe_op op_mul (pv 6) (pv 6)) pe_int) pe_int) pe_int))
        (pss_one (ps_ret (pe_op op_mod (pe_op op_add (pe_op op_mul (pe_op op_fdiv (pv 6) pe_int) pe_int) (pe_op op_fdiv (pv 7) pe_int)) (pv 2)))))))), fun x c k xr H1 k1 hT xl => ?_⟩
      have small : ∀ z j : Int, 0 < j → j < 4294967296 → CMul (z % j) (z % j) := fun z j j0 j1 => .inl ⟨by have := Int.emod_nonneg z (show j ≠ 0 by omega); omega, by have := Int.emod_lt_of_pos z j0; omega⟩
      have p1 : (0 : Int) < 65536 := by decide
      have p2 : (0 : Int) < 4294967291 := by decide
      have p3 : (0 : Int) < 4294967279 := by decide
      refine ⟨_, rfl, T, _, 0, _, rfl, rfl, .inl (.inl hT), atI_nat (j := 0) rfl, x, 65536, rfl, rfl, p1, ?_⟩
      refine ⟨_, rfl, T, _, 0, _, rfl, rfl, .inl (.inl hT), atI_nat (j := 0) rfl, x, 65536, rfl, rfl, ⟨by decide, by decide⟩, ?_⟩
      refine ⟨_, rfl, T, _, 0, 0, rfl, rfl, hT, Evl.ixN_nat (j := 0) (by rw [List.length_map, List.length_cons]; omega), ?_⟩
      have k2 : Kd T H (upd H1 T (.lst (((x :: xr).map V.int).set 0 (.int (x / 65536))))) := k1.trans (Kd.app hT)
      refine ⟨_, rfl, _, rfl, _, _, rfl, rfl, .inl ⟨by decide, by decide⟩, _, _, rfl, rfl, _, rfl, _, _, rfl, rfl, .inl ⟨by decide, by decide⟩, _, _, rfl, rfl, _, _, rfl, rfl, p2, ?_⟩
      refine ⟨_, rfl, _, rfl, _, _, rfl, rfl, small _ _ (by decide) (by decide), _, _, rfl, rfl, p3, _, _, rfl, rfl, .inr ⟨by decide, by decide⟩, _, _, rfl, rfl, p2, ?_⟩
      refine ⟨_, rfl, _, rfl, _, _, rfl, rfl, small _ _ (by decide) (by decide), _, _, rfl, rfl, p3, _, _, rfl, rfl, .inr ⟨by decide, by decide⟩, _, _, rfl, rfl, p2, ?_⟩
      refine ⟨_, rfl, _, _, rfl, rfl, ⟨by decide, by decide⟩, _, _, rfl, rfl, .inr ⟨by decide, by decide⟩, _, rfl, _, _, rfl, rfl, ⟨by decide, by decide⟩, _, _, rfl, rfl, _, rfl, _, _, rfl, rfl, m0, ?_⟩
      exact q _ _ k2 ⟨⟨ns, nl, fun H2 e => hS H2 (k2.1.trans e)⟩, (x / 65536) :: xr, upd_same, xl⟩ (Int.emod_nonneg _ (by omega)) (Int.emod_lt_of_pos _ m0)
    obtain ⟨tB, hB, kB⟩ : ∃ tB, PSs (cxOf CX0 P w K mg base nDraw "_law_draw" (defScope sDraw) fa cdv A outer s H E).nox ((defBody sDraw).drop 1) tB ∧
        ∀ (x : Int) (xr : List Int) H1, Kd T H H1 → H1 T = some (.lst ((x :: xr).map V.int)) → (x :: xr).length ≤ n + 1 → tB { nx := fun _ H' => Q .non H', rt := Q } (start nDraw [.ref sA, .ref T, .int m]) H1 := by
      refine ⟨_, pss_cons (ps_expr (pe_bm PySem.F.plainAttrs_list PySem.F.slot_list_append PySem.F.type_list_append mt_append (pv 1) (pa_cons pe_int pa_nil)))
        (pss_cons (ps_set (i := 4) scDraw.nd rfl (.inl rfl) (pe_callB call_len_seq (by rfl) B.len PySem.boot_len (pa_cons (pv 1) pa_nil)))
        (pss_cons (ps_set (i := 3) scDraw.nd rfl (.inl rfl) (pe_ifExp (pt_truth (pv 0) (fun _ => rfl)) (pe_ix ix_list (pv 0) (pe_op op_mod (pv 4) (pe_callB call_len_seq (by rfl) B.len PySem.boot_len (pa_cons (pv 0) pa_nil))) (fun _ _ => rfl)) pe_int)) hC)), fun x xr H1 k1 hT xl => ?_⟩
      refine ⟨_, rfl, .inl ⟨rfl, _, .inl (.inl hT)⟩, T, _, .int 0, rfl, rfl, hT, by rw [List.length_map, sizeLine_eq]; omega, ?_⟩
      have k2 : Kd T H (upd H1 T (.lst ((x :: xr).map V.int ++ [.int 0]))) := k1.trans (Kd.app hT)
      have hs2 := hS _ k2.1
      have done : ∀ c k, tC { nx := fun _ H' => Q .non H', rt := Q } [some (.ref sA), some (.ref T), some (.int m), some (.int c), some (.int k), none, none, none] (upd H1 T (.lst ((x :: xr).map V.int ++ [.int 0]))) := fun c k =>
        kC x c k (xr ++ [0]) _ k2 (by rw [upd_same]; simp) (by simp only [List.length_cons, List.length_append, List.length_nil] at xl ⊢; omega)
      refine ⟨_, rfl, T, _, rfl, .inl (.inl (.inl upd_same)), ?_⟩
      refine ⟨_, rfl, _, .inl ⟨_, hs2, rfl⟩, ?_⟩
      cases ns with
      | nil => exact iteF (done _ _)
      | cons z zs =>
        have pos : (0 : Int) < ((z :: zs).map V.int).length := by
          rw [List.length_map, List.length_cons]
          omega
        have l0 := Int.emod_nonneg (((x :: xr).map V.int ++ [V.int 0]).length : Int) (show (((z :: zs).map V.int).length : Int) ≠ 0 by omega)
        have l1 := Int.emod_lt_of_pos (((x :: xr).map V.int ++ [V.int 0]).length : Int) pos
        obtain ⟨j, ej⟩ := Int.eq_ofNat_of_zero_le l0
        have jl : j < (z :: zs).length := by
          rw [List.length_map] at l1 ej
          omega
        refine iteT ⟨_, rfl, _, rfl, _, rfl, sA, _, rfl, .inl hs2, _, _, rfl, rfl, pos, sA, _, _, .int ((z :: zs)[j]), rfl, rfl, hs2, at_of ej ?_, done _ _⟩
        rw [List.getElem?_map, List.getElem?_eq_getElem jl]
        rfl
    refine ⟨_, pss_cons (ps_if (pt_not (pt_truth (pv 1) (fun _ => rfl))) (pss_one (ps_expr (pe_bm PySem.F.plainAttrs_list PySem.F.slot_list_append PySem.F.type_list_append mt_append (pv 1)
        (pa_cons (pe_callB (cr_max rfl) (by rfl) B.max boot_max (pa_cons (pe_op op_cat
          (pe_lc (own := [("_law_cell", 3)]) (g := gName 3) (tt := tYes) rfl scDraw.nd (pi_list (pv 0)) (blkOk_by (own := [("_law_cell", 3)]) (N := nDraw) (sc := defScope sDraw) (by decide +kernel))
            (fun _ _ _ _ _ => pg_name (i := 3) scDraw.nd rfl (Or.inl rfl)) (fun _ _ _ _ _ => pts_nil) (fun _ _ _ _ _ => pe_callB call_abs (by rfl) B.abs boot_abs (pa_cons (pv 3) pa_nil)))
          (pe_lst (pa_cons pe_int pa_nil))) pa_nil)) pa_nil)))) pss_nil) hB, ?_⟩
    refine ⟨_, rfl, _, .inl ⟨_, .inl (.inl hT0), rfl⟩, ?_⟩
    cases xs0 with
    | cons x xr => exact iteF (kB x xr H (Kd.refl _ _) hT0 (Nat.le_succ_of_le xl0))
    | nil =>
      have hs0 := hS H (Eb.refl _ _)
      refine iteT ⟨_, rfl, .inl ⟨rfl, _, .inl (.inl hT0)⟩, _, rfl, sA, rfl, ⟨_, hs0⟩, fun Dl hD => ?_⟩
      refine lcP (fun _ _ u => ∃ z : Int, u = .int z) (wk_lst hs0) hD (by rw [List.length_map]; omega) (fun _ _ _ _ _ z => z) ?_ ?_ gName_mono
      · rintro i x H' H'' hi e ⟨rfl, hx⟩
        have hi2 : i < ns.length := by rw [List.length_map] at hi; exact hi
        rw [List.getElem?_map, List.getElem?_eq_getElem hi2] at hx
        have hx2 : V.int ns[i] = x := Option.some.inj hx
        subst hx2
        exact ⟨Evl.Ex.refl _, fun Q1 k => ⟨rfl, _, rfl, _, rfl, k _ _ (Evl.Ex.refl _) ⟨_, rfl⟩⟩⟩
      · intro H2 ys e2 hD2 it
        obtain ⟨zs, rfl, zl⟩ := it.ints
        rw [List.length_map] at zl
        refine ⟨by decide, fun l1 n1 => ?_⟩
        have hD3 := Evl.Ex.new (o := HO.lst [V.int 0]) n1 _ _ hD2
        refine ⟨Dl, l1, _, _, rfl, rfl, hD3, upd_same, by rw [List.length_map, sizeLine_eq]; show zs.length + 1 ≤ _; omega, fun l2 n2 => ?_⟩
        refine ⟨l2, zs ++ [0], rfl, .inl (.inl ?_), by simp, fun mx _ _ => ?_⟩
        · rw [upd_same]
          simp
        · have e3 := (e2.trans (Evl.Ex.new (o := HO.lst [V.int 0]) n1)).trans (Evl.Ex.new (o := HO.lst (zs.map V.int ++ [V.int 0])) n2)
          have hT3 := e3 _ _ hT0
          refine ⟨T, _, .int mx, rfl, rfl, hT3, by decide, ?_⟩
          exact kB mx [] _ ((Kd.ex e3).trans (Kd.app hT3)) upd_same (by simp)
end
end K08
namespace K08
open PySem PySem.Spec PyProof.Rows L2
open Evl (Ex)
theorem Kd.mut {T D : Addr} {H0 H : Hp} {xs : List V} {u : HO} (k : Kd T H0 H) (n : H0 D = none) (h : H D = some (.lst xs)) : Kd T H0 (upd H D u) :=
  ⟨fun a o ne e => by
    have : a ≠ D := fun z => by rw [z, n] at e; cases e
    rw [upd_ne this]
    exact k.1 a o ne e, k.2.trans (Kp.lst h)⟩
theorem Rig.upd {K : PySem.W.Frag} {T sA D : Addr} {n : Nat} {H0 H : Hp} {xs : List V} {u : HO} (r : Rig K T sA n H) (r0 : Scr K T sA H0) (k : Kd T H0 H) (n0 : H0 D = none) (h : H D = some (.lst xs)) (hT : D ≠ T) : Rig K T sA n (upd H D u) :=
  ⟨r0.kd (k.mut n0 h), let ⟨ys, a, b⟩ := r.town; ⟨ys, by rw [upd_ne hT.symm]; exact a, b⟩⟩
theorem Rig.ne {K : PySem.W.Frag} {T sA D : Addr} {n : Nat} {H : Hp} (r : Rig K T sA n H) (h : H D = none) : D ≠ T := fun z => by
  obtain ⟨ys, a, _⟩ := r.town
  rw [← z, h] at a
  cases a
theorem lcR {n j : Nat} {te : TE} {vs : List Nat} {σ : L2.St} {H1 : Hp} {D : Addr} {Qd : Hp → Prop} (Pv : Nat → Hp → Prop) (h0 : Pv 0 (upd H1 D (.lst [])))
    (hs : ∀ i H, i < n → Pv i H → wipe ((wipe σ vs).set j (some (.int ((0 : Int) + i)))) vs = wipe σ vs ∧ te ((wipe σ vs).set j (some (.int ((0 : Int) + i)))) H fun y H4 => ∃ acc, H4 D = some (.lst acc) ∧ acc.length < sizeLine ∧ Pv (i + 1) (upd H4 D (.lst (acc ++ [y])))) (hd : ∀ H, Pv n H → Qd H) :
    ∃ W : Nat → Nat → Hp → Prop, (∃ m, W 0 m (upd H1 D (.lst []))) ∧ ∀ i m H, W i m H →
      ((Itr 0 n).stop i H ∧ Qd H) ∨ ((Itr 0 n).go i H ∧ ∃ Nx : Hp → Prop, (∀ H', Nx H' → ∃ m', m' < m ∧ W (i + 1) m' H') ∧ ∀ x H', (Itr 0 n).yld i H x H' → gName j x (wipe σ vs) H' fun σ2 H2 => wipe σ2 vs = wipe σ vs ∧ tYes σ2 H2 fun b H3 =>
        if b = true then te σ2 H3 fun y H4 => ∃ acc, H4 D = some (.lst acc) ∧ acc.length < sizeLine ∧ Nx (upd H4 D (.lst (acc ++ [y]))) else Nx H3) :=
  lc_range Pv h0 (fun i H hi p => ⟨(hs i H hi p).1, by
    simp only [tYes, if_true]
    exact (hs i H hi p).2⟩) hd
section
variable {P : Program} {w : World} {K : PySem.W.Frag} {mg : Str → Option Value} {base : Heap}
/-! ### pick -/
def spPick (K : PySem.W.Frag) : Sp := fun vs H Q _ => ∃ (sA T l : Addr) (n : Nat) (xs : List V), vs = [.ref sA, .ref T, .ref l] ∧ Rig K T sA n H ∧ n ≤ 10000 ∧ H l = some (.lst xs) ∧ l ≠ T ∧ xs ≠ [] ∧
  ∀ x H', x ∈ xs → Kd T H H' → Rig K T sA (n + 2) H' → Q x H'
abbrev nPick : List Str := ["_law_script", "_law_town", "_law_some"]
theorem scPick : FnScope nPick nPick (defScope sPick) := ⟨rfl, rfl, rfl, by decide +kernel, rfl, by decide +kernel, by decide +kernel⟩
theorem cal_pick (D : DefAt K mg "_law_pick" sPick) (B : Blt mg) (C : Cal P w K mg base 1 "_law_draw" ["_law_script", "_law_town", "_law_many"] (spDraw K)) : Cal P w K mg base 2 "_law_pick" nPick (spPick K) := by
  refine cal_of D scPick (fun _ _ _ _ _ _ us hl => match us, hl with | [_, _, _], _ => rfl) (fun vs H Q E h => ?_) (fun fa cdv A outer s H vs Q E hr h => ?_)
  · obtain ⟨sA, T, l, n, xs, rfl, _⟩ := h
    rfl
  · obtain ⟨sA, T, l, n, xs, rfl, hR, n9, hl, lT, ne, q⟩ := h
    refine ⟨_, pss_one (ps_ret (pe_ix ix_list (pv 2) (pe_cal C hr (by rfl) (pa_cons (pv 0) (pa_cons (pv 1) (pa_cons (pe_callB call_len_seq (by rfl) B.len PySem.boot_len (pa_cons (pv 2) pa_nil)) pa_nil)))) (fun _ _ => rfl))), ?_⟩
    have pos : 0 < xs.length := List.length_pos_iff.mpr ne
    refine ⟨_, rfl, _, rfl, _, rfl, _, rfl, l, xs, rfl, .inl (.inl (.inl hl)), sA, T, _, n, rfl, hR, n9, by omega, fun x H' k r x0 x1 => ?_⟩
    obtain ⟨j, rfl⟩ := Int.eq_ofNat_of_zero_le x0
    have jl : j < xs.length := by omega
    exact ⟨l, xs, _, xs[j], rfl, rfl, .inl (.inl (k.1 l _ lT hl)), atI_nat (List.getElem?_eq_getElem jl), q _ _ (List.getElem_mem jl) k r⟩
/-! ### drawn_colour -/
def spDrawnColour (K : PySem.W.Frag) : Sp := fun vs H Q _ => ∃ (sA T : Addr) (n : Nat), vs = [.ref sA, .ref T] ∧ Rig K T sA n H ∧ n ≤ 9000 ∧
  ∀ v c H', OkC c → ColP K c H' v → Kd T H H' → Rig K T sA (n + 14) H' → Q v H'
abbrev nDrawnColour : List Str := ["_law_script", "_law_town", "_law_some", "_law_parts", "_law_k"]
theorem scDrawnColour : FnScope nDrawnColour ["_law_script", "_law_town"] (defScope sDrawnColour) := ⟨rfl, rfl, rfl, by decide +kernel, rfl, by decide +kernel, by decide +kernel⟩
def Prt : V → Prop := fun u => ∃ z : Int, u = .int z ∧ 0 ≤ z ∧ z ≤ 255
theorem cal_drawncolour (D : DefAt K mg "_law_drawn_colour" sDrawnColour) (B : Blt mg) (C : Cal P w K mg base 1 "_law_draw" ["_law_script", "_law_town", "_law_many"] (spDraw K)) (CP : Cal P w K mg base 2 "_law_pick" nPick (spPick K)) :
    Cal P w K mg base 3 "_law_drawn_colour" ["_law_script", "_law_town"] (spDrawnColour K) := by
  refine cal_of D scDrawnColour (fun _ _ _ _ _ _ us hl => match us, hl with | [_, _], _ => rfl) (fun vs H Q E h => ?_) (fun fa cdv A outer s H vs Q E hr h => ?_)
  · obtain ⟨sA, T, n, rfl, _⟩ := h
    rfl
  · obtain ⟨sA, T, n, rfl, hR, n9, q⟩ := h
    have hr1 := hr.mono (show 1 ≤ 2 by decide)
    refine ⟨_, pss_cons (ps_asg (pe_lst (pa_cons pe_int (pa_cons pe_int (pa_cons (pe_cal C hr1 (by rfl) (pa_cons (pv 0) (pa_cons (pv 1) (pa_cons pe_int pa_nil)))) (pa_cons (pe_cal C hr1 (by rfl) (pa_cons (pv 0) (pa_cons (pv 1) (pa_cons pe_int pa_nil)))) pa_nil))))) (pg_name (i := 2) scDrawnColour.nd rfl (Or.inr rfl)))
      (pss_cons (ps_setLc (i := 3) (own := [("_law_k", 4)]) (g := gName 4) (tt := tYes) rfl scDrawnColour.nd rfl rfl (sw_true rfl rfl rfl (by decide +kernel)) (pi_range1 (by rfl) B.range (pa_cons pe_int pa_nil))
          (blkOk_by (own := [("_law_k", 4)]) (N := nDrawnColour) (sc := defScope sDrawnColour) (by decide +kernel))
          (fun _ _ _ _ _ => pg_name (i := 4) scDrawnColour.nd rfl (Or.inl rfl)) (fun _ _ _ _ _ => pts_nil) (fun _ _ _ _ _ => pe_cal CP hr (by rfl) (pa_cons (pv 0) (pa_cons (pv 1) (pa_cons (pv 2) pa_nil)))))
      (pss_one (ps_ret (pe_tup (pa_cons (pe_ix ix_list (pv 3) pe_int (fun _ _ => rfl)) (pa_cons (pe_ix ix_list (pv 3) pe_int (fun _ _ => rfl)) (pa_cons (pe_ix ix_list (pv 3) pe_int (fun _ _ => rfl))
        (pa_cons (pe_cal CP hr (by rfl) (pa_cons (pv 0) (pa_cons (pv 1) (pa_cons (pe_lst (pa_cons pe_int (pa_cons pe_int (pa_cons pe_int (pa_cons (pe_cal C hr1 (by rfl) (pa_cons (pv 0) (pa_cons (pv 1) (pa_cons pe_int pa_nil)))) pa_nil))))) pa_nil)))) pa_nil)))))))), ?_⟩
    have four : 4 ≤ sizeLine := by decide
    refine ⟨_, rfl, _, rfl, sA, T, 256, n, rfl, hR, by omega, by decide, fun x1 H1 k1 R1 x1a x1b => ?_⟩
    refine ⟨_, rfl, _, rfl, sA, T, 256, n + 2, rfl, R1, by omega, by decide, fun x2 H2 k2 R2 x2a x2b => ?_⟩
    refine ⟨four, fun so nso => ?_⟩
    have k3 : Kd T H (upd H2 so (.lst [.int 0, .int 255, .int x1, .int x2])) := (k1.trans k2).trans (Kd.ex (Evl.Ex.new nso))
    have R3 : Rig K T sA (n + 4) (upd H2 so (.lst [.int 0, .int 255, .int x1, .int x2])) := R2.ex (Evl.Ex.new nso)
    have sT := R2.ne nso
    have parts : ∀ u, u ∈ [V.int 0, V.int 255, V.int x1, V.int x2] → Prt u := by
      intro u hu
      simp only [List.mem_cons, List.not_mem_nil, or_false] at hu
      rcases hu with rfl | rfl | rfl | rfl
      · exact ⟨_, rfl, by decide, by decide⟩
      · exact ⟨_, rfl, by decide, by decide⟩
      · exact ⟨_, rfl, x1a, by omega⟩
      · exact ⟨_, rfl, x2a, by omega⟩
    refine ⟨3, rfl, by decide, by decide, fun Dl hD => ?_⟩
    generalize hH3 : upd H2 so (.lst [.int 0, .int 255, .int x1, .int x2]) = H3 at k3 R3 hD
    have hso : H3 so = some (.lst [.int 0, .int 255, .int x1, .int x2]) := by rw [← hH3]; exact upd_same
    have DT := R3.ne hD
    refine lcR (n := (3 : Int).toNat) (fun i H4 => Kd T H3 H4 ∧ Rig K T sA (n + 4 + 2 * i) H4 ∧ ∃ ys, H4 Dl = some (.lst ys) ∧ ItsP ys i (fun _ _ u => Prt u) H4) ⟨Kd.ex (Evl.Ex.new hD), R3.ex (Evl.Ex.new hD), [], upd_same, .nil⟩ ?_ ?_
    · rintro i H4 hi ⟨k4, R4, ys, hy, it⟩
      have hi3 : i < 3 := hi
      refine ⟨rfl, ⟨_, rfl, _, rfl, _, rfl, sA, T, so, _, _, rfl, R4, by omega, k4.1 _ _ sT hso, sT, by simp, fun x H5 hx k5 R5 => ?_⟩⟩
      have hy5 := k5.1 _ _ DT hy
      have k45 := k4.trans k5
      exact ⟨ys, hy5, by rw [it.1, sizeLine_eq]; omega, k45.mut hD hy5, R5.upd R3.scr k45 hD hy5 DT, ys ++ [x], upd_same, it.snoc (parts x hx)⟩
    · rintro H4 ⟨k4, R4, ys, hy, it⟩
      obtain ⟨u0, g0, c0, rfl, c0a, c0b⟩ := it.get (i := 0) (by decide)
      obtain ⟨u1, g1, c1, rfl, c1a, c1b⟩ := it.get (i := 1) (by decide)
      obtain ⟨u2, g2, c2, rfl, c2a, c2b⟩ := it.get (i := 2) (by decide)
      have hL : SqL K H4 Dl ys := .inl (.inl hy)
      refine ⟨_, rfl, Dl, ys, 0, _, rfl, rfl, hL, atI_nat g0, _, rfl, Dl, ys, 1, _, rfl, rfl, hL, atI_nat g1, _, rfl, Dl, ys, 2, _, rfl, rfl, hL, atI_nat g2, ?_⟩
      refine ⟨_, rfl, _, rfl, _, rfl, _, rfl, sA, T, 256, n + 4 + 2 * 3, rfl, R4, by omega, by decide, fun x3 H5 k5 R5 x3a x3b => ?_⟩
      refine ⟨four, fun so2 ns2 => ?_⟩
      have k6 := Kd.ex (D := T) (Evl.Ex.new (o := HO.lst [V.int 255, V.int 255, V.int 0, V.int x3]) ns2)
      have R6 := R5.ex (Evl.Ex.new (o := HO.lst [V.int 255, V.int 255, V.int 0, V.int x3]) ns2)
      refine ⟨sA, T, so2, _, _, rfl, R6, by omega, upd_same, R5.ne ns2, by simp, fun x H7 hx k7 R7 => ?_⟩
      have last : Prt x := by
        simp only [List.mem_cons, List.not_mem_nil, or_false] at hx
        rcases hx with rfl | rfl | rfl | rfl
        · exact ⟨_, rfl, by decide, by decide⟩
        · exact ⟨_, rfl, by decide, by decide⟩
        · exact ⟨_, rfl, by decide, by decide⟩
        · exact ⟨_, rfl, x3a, by omega⟩
      obtain ⟨c3, rfl, c3a, c3b⟩ := last
      refine ⟨four, fun t nt => ?_⟩
      exact q _ (c0, c1, c2, c3) _ ⟨⟨c0a, c0b⟩, ⟨c1a, c1b⟩, ⟨c2a, c2b⟩, c3a, c3b⟩ ⟨t, rfl, SqT.of upd_same⟩ (((((k3.trans k4).trans k5).trans k6).trans k7).trans (Kd.ex (Evl.Ex.new nt))) ((R7.ex (Evl.Ex.new nt)).le (by omega))
end
end K08
namespace K08
open PySem PySem.Spec PyProof.Rows L2
open Evl (Ex)
def AnyC (K : PySem.W.Frag) : VP := fun H u => ∃ c, OkC c ∧ ColP K c H u
theorem AnyC.mo (K : PySem.W.Frag) : Mo (AnyC K) := fun _ _ _ k ⟨c, o, h⟩ => ⟨c, o, ColP.mo K c _ _ _ k h⟩
theorem choose_pix {K : PySem.W.Frag} {cs : List V} {a b : Nat} {H : Hp} (it : ItsP cs (a * b) (fun _ => AnyC K) H) : ∃ f : Pix, OkF a b f ∧ ItsP cs (a * b) (fun i => ColP K (f (i % a) (i / a))) H := by
  have ex : ∀ i, ∃ c : Col, i < a * b → OkC c ∧ ∀ u, cs[i]? = some u → ColP K c H u := fun i => by
    by_cases hi : i < a * b
    · obtain ⟨u, e, c, o, h⟩ := it.get hi
      exact ⟨c, fun _ => ⟨o, fun u' e' => by
        rw [e] at e'
        rw [← Option.some.inj e']
        exact h⟩⟩
    · exact ⟨(0, 0, 0, 0), fun z => absurd z hi⟩
  refine ⟨fun x y => (ex (y * a + x)).choose, fun x y hx hy => ((ex (y * a + x)).choose_spec (ix_lt hx hy)).1, it.1, fun i u e => ?_⟩
  have hi : i < a * b := by
    rw [← it.1]
    exact (List.getElem?_eq_some_iff.mp e).1
  have ei : i / a * a + i % a = i := by
    rw [Nat.mul_comm]
    exact Nat.div_add_mod i a
  show ColP K ((ex (i / a * a + i % a)).choose) H u
  rw [ei]
  exact ((ex i).choose_spec hi).2 u e
/-- a colour without cover is clear -/
def clr (c : Col) : Col := if 0 < c.2.2.2 then c else (0, 0, 0, 0)
theorem clr_norm {c : Col} (h : OkC c) : NormC (clr c) := by
  unfold clr
  by_cases h0 : 0 < c.2.2.2
  · rw [if_pos h0]
    exact ⟨h, fun z => by omega⟩
  · rw [if_neg h0]
    exact ⟨⟨⟨by decide, by decide⟩, ⟨by decide, by decide⟩, ⟨by decide, by decide⟩, by decide, by decide⟩, fun _ => rfl⟩
section
variable {P : Program} {w : World} {K : PySem.W.Frag} {mg : Str → Option Value} {base : Heap}
/-! ### drawn_picture -/
def spDrawnPicture (K : PySem.W.Frag) : Sp := fun vs H Q _ => ∃ (sA T : Addr) (n a b : Nat), vs = [.ref sA, .ref T, .int (a : Int), .int (b : Int), .int 3] ∧ Rig K T sA n H ∧ n ≤ 8000 ∧ 0 < a ∧ 0 < b ∧ a ≤ 4 ∧ b ≤ 4 ∧
  ∀ v f H', OkF a b f → PicP K a b f H' v → Kd T H H' → Rig K T sA (n + 74) H' → Q v H'
abbrev nDrawnPicture : List Str := ["_law_script", "_law_town", "_law_width", "_law_height", "_law_many", "_law_some", "_law_k"]
theorem scDrawnPicture : FnScope nDrawnPicture ["_law_script", "_law_town", "_law_width", "_law_height", "_law_many"] (defScope sDrawnPicture) := ⟨rfl, rfl, rfl, by decide +kernel, rfl, by decide +kernel, by decide +kernel⟩
theorem cal_drawnpicture (D : DefAt K mg "_law_drawn_picture" sDrawnPicture) (B : Blt mg) (C : Cal P w K mg base 3 "_law_drawn_colour" ["_law_script", "_law_town"] (spDrawnColour K)) (CP : Cal P w K mg base 2 "_law_pick" nPick (spPick K)) :
    Cal P w K mg base 4 "_law_drawn_picture" ["_law_script", "_law_town", "_law_width", "_law_height", "_law_many"] (spDrawnPicture K) := by
  refine cal_of D scDrawnPicture (fun _ _ _ _ _ _ us hl => match us, hl with | [_, _, _, _, _], _ => rfl) (fun vs H Q E h => ?_) (fun fa cdv A outer s H vs Q E hr h => ?_)
  · obtain ⟨sA, T, n, a, b, rfl, _⟩ := h
    rfl
  · obtain ⟨sA, T, n, a, b, rfl, hR, n9, a0, b0, a9, b9, q⟩ := h
    have hr2 := hr.mono (show 2 ≤ 3 by decide)
    refine ⟨_, pss_cons (ps_asg (pe_lc (own := [("_law_k", 6)]) (g := gName 6) (tt := tYes) rfl scDrawnPicture.nd (pi_range1 (by rfl) B.range (pa_cons (pv 4) pa_nil))
          (blkOk_by (own := [("_law_k", 6)]) (N := nDrawnPicture) (sc := defScope sDrawnPicture) (by decide +kernel))
          (fun _ _ _ _ _ => pg_name (i := 6) scDrawnPicture.nd rfl (Or.inl rfl)) (fun _ _ _ _ _ => pts_nil) (fun _ _ _ _ _ => pe_cal C hr (by rfl) (pa_cons (pv 0) (pa_cons (pv 1) pa_nil)))) (pg_name (i := 5) scDrawnPicture.nd rfl (Or.inr rfl)))
      (pss_one (ps_ret (pe_tup (pa_cons (pv 2) (pa_cons (pv 3) (pa_cons (pe_callTy cr_tupOf (by rfl) B.tuple PyProof.Rows.boot_tuple (pa_cons
        (pe_lc (own := [("_law_k", 6)]) (g := gName 6) (tt := tYes) rfl scDrawnPicture.nd (pi_range1 (by rfl) B.range (pa_cons (pe_op op_mul (pv 2) (pv 3)) pa_nil))
          (blkOk_by (own := [("_law_k", 6)]) (N := nDrawnPicture) (sc := defScope sDrawnPicture) (by decide +kernel))
          (fun _ _ _ _ _ => pg_name (i := 6) scDrawnPicture.nd rfl (Or.inl rfl)) (fun _ _ _ _ _ => pts_nil) (fun _ _ _ _ _ => pe_cal CP hr2 (by rfl) (pa_cons (pv 0) (pa_cons (pv 1) (pa_cons (pv 5) pa_nil))))) pa_nil)) pa_nil)))))), ?_⟩
    refine ⟨_, rfl, 3, rfl, by decide, by decide, fun Dl hD => ?_⟩
    have DT := hR.ne hD
    refine lcR (n := (3 : Int).toNat) (fun i H4 => Kd T H H4 ∧ Rig K T sA (n + 14 * i) H4 ∧ ∃ ys, H4 Dl = some (.lst ys) ∧ ItsP ys i (fun _ => AnyC K) H4) ⟨Kd.ex (Evl.Ex.new hD), hR.ex (Evl.Ex.new hD), [], upd_same, .nil⟩ ?_ ?_
    · rintro i H4 hi ⟨k4, R4, ys, hy, it⟩
      have hi3 : i < 3 := hi
      refine ⟨rfl, ⟨_, rfl, _, rfl, sA, T, _, rfl, R4, by omega, fun v c H5 oc hc k5 R5 => ?_⟩⟩
      have hy5 := k5.1 _ _ DT hy
      have k45 := k4.trans k5
      have kk : Kp H4 (upd H5 Dl (.lst (ys ++ [v]))) := k5.2.trans (Kp.lst hy5)
      exact ⟨ys, hy5, by rw [it.1, sizeLine_eq]; omega, k45.mut hD hy5, R5.upd hR.scr k45 hD hy5 DT, ys ++ [v], upd_same, (it.mono fun _ _ _ z => AnyC.mo K _ _ _ kk z).snoc ⟨c, oc, ColP.mo K c _ _ _ (Kp.lst hy5) hc⟩⟩
    · rintro H4 ⟨k4, R4, ys, hy, it⟩
      have small : a * b ≤ 4 * 4 := Nat.mul_le_mul a9 b9
      have eab : (a : Int) * (b : Int) = ((a * b : Nat) : Int) := (Int.natCast_mul a b).symm
      refine ⟨_, rfl, _, rfl, _, rfl, _, rfl, (a : Int), (b : Int), rfl, rfl, .inl ⟨by omega, by omega⟩, _, rfl, by rw [eab]; omega, by rw [eab]; omega, fun D2 hD2 => ?_⟩
      have D2T := R4.ne hD2
      have ne0 : ys ≠ [] := fun z => by
        have := it.1
        rw [z] at this
        cases this
      refine lcR (n := ((a : Int) * (b : Int)).toNat) (fun i H5 => Kd T H4 H5 ∧ Rig K T sA (n + 42 + 2 * i) H5 ∧ ∃ zs, H5 D2 = some (.lst zs) ∧ ItsP zs i (fun _ => AnyC K) H5) ⟨Kd.ex (Evl.Ex.new hD2), R4.ex (Evl.Ex.new hD2), [], upd_same, .nil⟩ ?_ ?_
      · rintro i H5 hi ⟨k5, R5, zs, hz, iz⟩
        have hi3 : i < 16 := by rw [eab] at hi; omega
        refine ⟨rfl, ⟨_, rfl, _, rfl, _, rfl, sA, T, Dl, _, ys, rfl, R5, by omega, k5.1 _ _ DT hy, DT, ne0, fun x H6 hx k6 R6 => ?_⟩⟩
        have hz6 := k6.1 _ _ D2T hz
        have k56 := k5.trans k6
        have kk : Kp H5 (upd H6 D2 (.lst (zs ++ [x]))) := k6.2.trans (Kp.lst hz6)
        refine ⟨zs, hz6, by rw [iz.1, sizeLine_eq]; omega, k56.mut hD2 hz6, R6.upd R4.scr k56 hD2 hz6 D2T, zs ++ [x], upd_same, (iz.mono fun _ _ _ z => AnyC.mo K _ _ _ kk z).snoc ?_⟩
        obtain ⟨j, hj, ej⟩ := List.getElem_of_mem hx
        exact AnyC.mo K _ _ _ (k56.2.trans (Kp.lst hz6)) (it.2 j x (by rw [← ej]; exact List.getElem?_eq_getElem hj))
      · rintro H5 ⟨k5, R5, zs, hz, iz⟩
        refine ⟨D2, zs, rfl, .inl ⟨.inl (.inl hz), fun l nl => ?_⟩⟩
        have el := Evl.Ex.new (o := HO.tup zs) nl
        refine ⟨by show 3 ≤ sizeLine; decide, fun t nt => ?_⟩
        have et := Evl.Ex.new (o := HO.tup [V.int (a : Int), V.int (b : Int), V.ref l]) nt
        rw [eab, Int.toNat_natCast] at R5 iz
        obtain ⟨f, hf, itf⟩ := choose_pix iz
        refine q _ f _ hf ⟨t, l, zs, rfl, SqT.of upd_same, Evl.ex_t et (SqT.of upd_same), itf.mono fun i u _ z => ColP.mo K _ _ _ _ (Kp.ex (el.trans et)) z⟩ (((k4.trans k5).trans (Kd.ex el)).trans (Kd.ex et)) (((R5.ex el).ex et).le (by omega))
/-! ### cleared -/
def spCleared (K : PySem.W.Frag) : Sp := Pr fun vs H T => ∃ (v : V) (a b : Nat) (f : Pix), vs = [v] ∧ PicP K a b f H v ∧ 0 < a ∧ 0 < b ∧ a ≤ 99 ∧ b ≤ 99 ∧ T = PicP K a b (fun x y => clr (f x y))
abbrev nCleared : List Str := ["_law_picture", "_law_cells", "_law_cell"]
theorem scCleared : FnScope nCleared ["_law_picture"] (defScope sCleared) := ⟨rfl, rfl, rfl, by decide +kernel, rfl, by decide +kernel, by decide +kernel⟩
theorem cal_cleared (D : DefAt K mg "_law_cleared" sCleared) (B : Blt mg) : Cal P w K mg base 1 "_law_cleared" ["_law_picture"] (spCleared K) := by
  refine cal_of D scCleared (fun _ _ _ _ _ _ us hl => match us, hl with | [_], _ => rfl) (fun vs H Q E h => ?_) (fun fa cdv A outer s H vs Q E hr h => ?_)
  · obtain ⟨T, ⟨v, a, b, f, rfl, _⟩, _⟩ := h
    rfl
  · obtain ⟨T, ⟨v, a, b, f, rfl, hpic, a0, b0, a9, b9, rfl⟩, q⟩ := h
    refine ⟨_, pss_cons (ps_setLc (i := 1) (own := [("_law_cell", 2)]) (g := gName 2) (tt := tYes) rfl scCleared.nd rfl rfl (sw_true rfl rfl rfl (by decide +kernel)) (pi_tup (pe_ix ix_tup (pv 0) pe_int (fun _ _ => rfl)))
          (blkOk_by (own := [("_law_cell", 2)]) (N := nCleared) (sc := defScope sCleared) (by decide +kernel))
          (fun _ _ _ _ _ => pg_name (i := 2) scCleared.nd rfl (Or.inl rfl)) (fun _ _ _ _ _ => pts_nil)
          (fun _ _ _ _ _ => pe_ifExp (pt_cmpR op_gt (pe_ix (r := rIxT K) ix_tup (pv 2) pe_int (fun _ _ => rfl)) pe_int (nomark _)) (pv 2) (pe_tup (pa_cons pe_int (pa_cons pe_int (pa_cons pe_int (pa_cons pe_int pa_nil)))))))
      (pss_one (ps_ret (pe_op op_catT (pe_slice sl_tupA (pv 0) po_none (po_some pe_int)) (pe_tup (pa_cons (pe_callTy cr_tupOf (by rfl) B.tuple PyProof.Rows.boot_tuple (pa_cons (pv 1) pa_nil)) pa_nil))))), ?_⟩
    obtain ⟨p, pc, cs, rfl, hp, hc, its⟩ := hpic
    have small : a * b ≤ 99 * 99 := Nat.mul_le_mul a9 b9
    refine ⟨_, rfl, p, _, 2, _, rfl, rfl, hp, atI_nat (j := 2) rfl, pc, rfl, ⟨_, hc⟩, fun Dl hD => ?_⟩
    refine lcP (fun i => ColP K (clr (f (i % a) (i / a)))) (wk_tup hc) hD (by rw [its.1]; omega) (Mo.kd (fun _ => ColP.mo K _) _) ?_ ?_ gName_mono
    · rintro i x H' H'' hi e ⟨rfl, hx⟩
      refine ⟨Evl.Ex.refl _, fun Q1 k => ⟨rfl, ?_⟩⟩
      have hcol := its.2 i x hx
      obtain ⟨pq, rfl, hs⟩ := ColP.mo K _ _ _ _ (Kp.ex e) hcol
      refine ⟨_, rfl, pq, _, 3, _, rfl, rfl, hs, atI_nat (j := 3) rfl, _, _, rfl, rfl, _, rfl, ite2 (fun h0 => ?_) (fun h0 => ?_)⟩
      · refine ⟨_, rfl, k _ _ (Evl.Ex.refl _) ?_⟩
        unfold clr
        rw [if_pos (of_decide_eq_true h0)]
        exact ⟨pq, rfl, hs⟩
      · refine ⟨by decide, fun t nt => k _ _ (Evl.Ex.new nt) ?_⟩
        unfold clr
        rw [if_neg (fun z => h0 (decide_eq_true z))]
        exact ⟨t, rfl, SqT.of upd_same⟩
    · intro H2 zs e2 hD2 iz
      rw [its.1] at iz
      refine ⟨_, rfl, 2, rfl, p, _, rfl, Evl.ex_t e2 hp, fun z => absurd z.2 (show ¬ HT.sIx 3 3 (some 2) = 3 by decide), fun _ l1 n1 => ?_⟩
      have e3 := Evl.Ex.new (o := HO.tup (cutV [V.int (a : Int), V.int (b : Int), V.ref pc] none (some 2))) n1
      have hD3 := e3 _ _ hD2
      refine ⟨_, rfl, Dl, zs, rfl, .inl ⟨.inl (.inl hD3), fun l2 n2 => ?_⟩⟩
      have e4 := Evl.Ex.new (o := HO.tup zs) n2
      refine ⟨by show 1 ≤ sizeLine; decide, fun l3 n3 => ?_⟩
      have e5 := Evl.Ex.new (o := HO.tup [V.ref l2]) n3
      refine ⟨l1, l3, _, _, rfl, rfl, Evl.ex_t (e4.trans e5) (SqT.of upd_same), SqT.of upd_same, ?_, ?_, ?_, fun _ l4 n4 => ?_⟩
      · exact fun z => nomatch z
      · show 3 ≤ sizeLine
        decide
      · exact fun z => nomatch z
      · have e6 := Evl.Ex.new (o := HO.tup [V.int (a : Int), V.int (b : Int), V.ref l2]) n4
        refine q _ _ ((((e2.trans e3).trans e4).trans e5).trans e6) ⟨l4, l2, zs, rfl, SqT.of upd_same, Evl.ex_t (e5.trans e6) (SqT.of upd_same), iz.mono fun i u _ z => ColP.mo K _ _ _ _ (Kp.ex (((e3.trans e4).trans e5).trans e6)) z⟩
/-! ### thrice -/
def thriceF (a b : Nat) (f : Pix) : Pix := turnF b (turnF a (turnF b f))
def spThrice (K : PySem.W.Frag) : Sp := Pr fun vs H T => ∃ (v : V) (a b : Nat) (f : Pix), vs = [v] ∧ PicP K a b f H v ∧ 0 < a ∧ 0 < b ∧ a ≤ 99 ∧ b ≤ 99 ∧ T = PicP K b a (thriceF a b f)
theorem scThrice : FnScope ["_law_picture"] ["_law_picture"] (defScope sThrice) := ⟨rfl, rfl, rfl, by decide +kernel, rfl, by decide +kernel, by decide +kernel⟩
theorem cal_thrice (D : DefAt K mg "_law_thrice" sThrice) (C : Cal P w K mg base 1 "turned" ["picture"] (spTurned K)) : Cal P w K mg base 2 "_law_thrice" ["_law_picture"] (spThrice K) := by
  refine cal_of D scThrice (fun _ _ _ _ _ _ us hl => match us, hl with | [_], _ => rfl) (fun vs H Q E h => ?_) (fun fa cdv A outer s H vs Q E hr h => ?_)
  · obtain ⟨T, ⟨v, a, b, f, rfl, _⟩, _⟩ := h
    rfl
  · obtain ⟨T, ⟨v, a, b, f, rfl, hpic, a0, b0, a9, b9, rfl⟩, q⟩ := h
    refine ⟨_, pss_one (ps_ret (pe_cal C hr (by rfl) (pa_cons (pe_cal C hr (by rfl) (pa_cons (pe_cal C hr (by rfl) (pa_cons (pv 0) pa_nil)) pa_nil)) pa_nil))), ?_⟩
    exact ⟨_, rfl, _, ⟨_, a, b, f, rfl, hpic, a0, b0, a9, b9, rfl⟩, fun v1 H1 e1 p1 => ⟨_, ⟨_, b, a, _, rfl, p1, b0, a0, b9, a9, rfl⟩, fun v2 H2 e2 p2 => ⟨_, ⟨_, a, b, _, rfl, p2, a0, b0, a9, b9, rfl⟩, fun v3 H3 e3 p3 => q _ _ ((e1.trans e2).trans e3) p3⟩⟩⟩
end
end K08
namespace K08
open PySem PySem.Spec PyProof.Rows L2
open Evl (Ex)
/-! ### pictures alike -/
theorem picD_eqv {a b : Nat} {f g : Pix} (h : ∀ x y, x < a → y < b → f x y = g x y) : PyData.eqv (picD a b f) (picD a b g) = true := by
  rw [picD_congr h]
  exact PySem.SeqAt.eqv_refl _ (lay_pic a b g)
section
variable {K : PySem.W.Frag} {H : Hp}
theorem ne_pic {a b : Nat} {f g : Pix} {u v : V} {Q : VK} (hu : PicP K a b f H u) (hv : PicP K a b g H v) (h : ∀ x y, x < a → y < b → f x y = g x y) (q : Q (.bl false) H) : rNeD K u v H Q := by
  refine ⟨_, _, dp_pic hu, dp_pic hv, shaped_pic _ _ _, shaped_pic _ _ _, ?_⟩
  rw [picD_eqv h]
  exact q
theorem eq_pic {a b : Nat} {f g : Pix} {u v : V} {Q : VK} (hu : PicP K a b f H u) (hv : PicP K a b g H v) (h : ∀ x y, x < a → y < b → f x y = g x y) (q : Q (.bl true) H) : rEqD K u v H Q := by
  refine ⟨_, _, dp_pic hu, dp_pic hv, shaped_pic _ _ _, shaped_pic _ _ _, ?_⟩
  rw [picD_eqv h]
  exact q
theorem ne_col {c : Col} {u v : V} {Q : VK} (hu : ColP K c H u) (hv : ColP K c H v) (q : Q (.bl false) H) : rNeD K u v H Q := by
  refine ⟨_, _, dp_col hu, dp_col hv, shaped_col _, shaped_col _, ?_⟩
  rw [eqv_col, decide_eq_true rfl]
  exact q
/-- the parts of a picture -/
theorem pic0 {a b : Nat} {f : Pix} {v : V} {Q : VK} (h : PicP K a b f H v) (q : Q (.int (a : Int)) H) : rIxT K v (.int 0) H Q := by
  obtain ⟨p, pc, cs, rfl, hp, _⟩ := h
  exact ⟨p, _, 0, _, rfl, rfl, hp, atI_nat (j := 0) rfl, q⟩
theorem pic1 {a b : Nat} {f : Pix} {v : V} {Q : VK} (h : PicP K a b f H v) (q : Q (.int (b : Int)) H) : rIxT K v (.int 1) H Q := by
  obtain ⟨p, pc, cs, rfl, hp, _⟩ := h
  exact ⟨p, _, 1, _, rfl, rfl, hp, atI_nat (j := 1) rfl, q⟩
end
section
variable {P : Program} {w : World} {K : PySem.W.Frag} {mg : Str → Option Value} {base : Heap}
def spPair (K : PySem.W.Frag) : Sp := Pr fun vs H T => ∃ (v u : V) (a1 a2 b : Nat) (f g : Pix), vs = [v, u] ∧ PicP K a1 b f H v ∧ PicP K a2 b g H u ∧ 0 < a1 ∧ 0 < a2 ∧ 0 < b ∧ a1 ≤ 12 ∧ a2 ≤ 12 ∧ b ≤ 12 ∧ OkF a1 b f ∧ OkF a2 b g ∧ T = fun _ v => v = .bl true
abbrev nPair : List Str := ["_law_one", "_law_other", "_law_wide", "_law_high"]
theorem scPair : FnScope nPair ["_law_one", "_law_other"] (defScope sPair) := ⟨rfl, rfl, rfl, by decide +kernel, rfl, by decide +kernel, by decide +kernel⟩
theorem cal_pair (D : DefAt K mg "_law_pair_holds" sPair)
    (CB : Cal P w K mg base 2 "beside" ["one", "other"] (spBeside K)) (CS : Cal P w K mg base 2 "stacked" ["one", "other"] (spStacked K)) (CT : Cal P w K mg base 1 "turned" ["picture"] (spTurned K))
    (CC : Cal P w K mg base 2 "cut_out" ["picture", "x", "y", "width", "height"] (spCutOut K)) (CP : Cal P w K mg base 4 "is_picture" ["thing"] (spPicture K)) :
    Cal P w K mg base 5 "_law_pair_holds" ["_law_one", "_law_other"] (spPair K) := by
  refine cal_of D scPair (fun _ _ _ _ _ _ us hl => match us, hl with | [_, _], _ => rfl) (fun vs H Q E h => ?_) (fun fa cdv A outer s H vs Q E hr h => ?_)
  · obtain ⟨T, ⟨v, u, a1, a2, b, f, g, rfl, _⟩, _⟩ := h
    rfl
  · obtain ⟨T, ⟨v, u, a1, a2, b, f, g, rfl, hv, hu, a10, a20, b0, a19, a29, b9, okf, okg, rfl⟩, q⟩ := h
    obtain ⟨p1, q1, cs1, rfl, hp1, hq1, it1⟩ := id hv
    obtain ⟨p2, q2, cs2, rfl, hp2, hq2, it2⟩ := id hu
    have hr1 := hr.mono (show 1 ≤ 4 by decide)
    have hr2 := hr.mono (show 2 ≤ 4 by decide)
    refine ⟨_, pss_cons (ps_par (i := 2) (j := 3) rfl scPair.nd rfl rfl (by decide) rfl rfl (pa_cons (pe_cal CB hr2 (by rfl) (pa_cons (pv 0) (pa_cons (pv 1) pa_nil))) (pa_cons (pe_cal CS hr2 (by rfl) (pa_cons (pe_cal CT hr1 (by rfl) (pa_cons (pv 0) pa_nil)) (pa_cons (pe_cal CT hr1 (by rfl) (pa_cons (pv 1) pa_nil)) pa_nil))) pa_nil)) rfl)
      (pss_cons (ps_if (pt_cmpR (op_neD hr.units) (pe_cal CC hr2 (by rfl) (pa_cons (pv 2) (pa_cons pe_int (pa_cons pe_int (pa_cons (pe_ix ix_tup (pv 0) pe_int (fun _ _ => rfl)) (pa_cons (pe_ix ix_tup (pv 0) pe_int (fun _ _ => rfl)) pa_nil)))))) (pv 0) (nomark _)) pss_never pss_nil)
      (pss_cons (ps_if (pt_cmpR (op_neD hr.units) (pe_cal CC hr2 (by rfl) (pa_cons (pv 2) (pa_cons (pe_ix ix_tup (pv 0) pe_int (fun _ _ => rfl)) (pa_cons pe_int (pa_cons (pe_ix ix_tup (pv 1) pe_int (fun _ _ => rfl)) (pa_cons (pe_ix ix_tup (pv 0) pe_int (fun _ _ => rfl)) pa_nil)))))) (pv 1) (nomark _)) pss_never pss_nil)
      (pss_cons (ps_if (pt_cmpR (op_neD hr.units) (pe_cal CC hr2 (by rfl) (pa_cons (pv 3) (pa_cons pe_int (pa_cons pe_int (pa_cons (pe_ix ix_tup (pv 0) pe_int (fun _ _ => rfl)) (pa_cons (pe_ix ix_tup (pv 0) pe_int (fun _ _ => rfl)) pa_nil)))))) (pe_cal CT hr1 (by rfl) (pa_cons (pv 0) pa_nil)) (nomark _)) pss_never pss_nil)
      (pss_cons (ps_if (pt_cmpR (op_neD hr.units) (pe_cal CC hr2 (by rfl) (pa_cons (pv 3) (pa_cons pe_int (pa_cons (pe_ix ix_tup (pv 0) pe_int (fun _ _ => rfl)) (pa_cons (pe_ix ix_tup (pv 0) pe_int (fun _ _ => rfl)) (pa_cons (pe_ix ix_tup (pv 1) pe_int (fun _ _ => rfl)) pa_nil)))))) (pe_cal CT hr1 (by rfl) (pa_cons (pv 1) pa_nil)) (nomark _)) pss_never pss_nil)
      (pss_one (ps_ret (pe_and (pe_cal CP hr (by rfl) (pa_cons (pv 2) pa_nil)) (pe_and (pe_cal CP hr (by rfl) (pa_cons (pv 3) pa_nil)) (pe_one (pe_cmpR (op_eqD hr.units) (pe_cal CT hr1 (by rfl) (pa_cons (pv 2) pa_nil)) (pv 3) (nomark _))))))))))), ?_⟩
    refine ⟨_, rfl, _, rfl, _, ⟨_, _, a1, a2, b, f, g, rfl, hv, hu, a10, a20, b0, by omega, by omega, rfl⟩, fun vw H1 e1 hw => ?_⟩
    refine ⟨_, rfl, _, ⟨_, a1, b, f, rfl, hv.ex e1, a10, b0, by omega, by omega, rfl⟩, fun t1 H2 e2 ht1 => ?_⟩
    refine ⟨_, rfl, _, ⟨_, a2, b, g, rfl, hu.ex (e1.trans e2), a20, b0, by omega, by omega, rfl⟩, fun t2 H3 e3 ht2 => ?_⟩
    refine ⟨_, ⟨_, _, b, a1, a2, _, _, rfl, ht1.ex e3, ht2, b0, a10, a20, by omega, by omega, rfl⟩, fun vh H4 e4 hh => ?_⟩
    have e := ((e1.trans e2).trans e3).trans e4
    have hv4 := hv.ex e
    have hu4 := hu.ex e
    have hw4 := hw.ex ((e2.trans e3).trans e4)
    have cut0 : ∀ x y, x < a1 → y < b → besideF a1 f g (0 + x) (0 + y) = f x y := fun x y hx _ => by
      unfold besideF
      rw [Nat.zero_add, Nat.zero_add, if_pos hx]
    have cut1 : ∀ x y, x < a2 → y < b → besideF a1 f g (a1 + x) (0 + y) = g x y := fun x y hx _ => by
      unfold besideF
      rw [Nat.zero_add, if_neg (by omega), Nat.add_sub_cancel_left]
    have cut2 : ∀ x y, x < b → y < a1 → stackF a1 (turnF b f) (turnF b g) (0 + x) (0 + y) = turnF b f x y := fun x y _ hy => by
      unfold stackF
      rw [Nat.zero_add, Nat.zero_add, if_pos hy]
    have cut3 : ∀ x y, x < b → y < a2 → stackF a1 (turnF b f) (turnF b g) (0 + x) (a1 + y) = turnF b g x y := fun x y _ hy => by
      unfold stackF
      rw [Nat.zero_add, if_neg (by omega), Nat.add_sub_cancel_left]
    refine ⟨_, _, rfl, ?_⟩
    refine ⟨_, rfl, _, rfl, p1, _, 0, _, rfl, rfl, Evl.ex_t e hp1, atI_nat (j := 0) rfl, _, rfl, p1, _, 1, _, rfl, rfl, Evl.ex_t e hp1, atI_nat (j := 1) rfl, _, ⟨_, a1 + a2, b, besideF a1 f g, 0, 0, a1, b, rfl, hw4, a10, b0, by omega, by omega, by omega, by omega, rfl⟩, fun c5 H5 e5 hc5 => ⟨_, rfl, ne_pic hc5 (hv4.ex e5) cut0 ⟨false, rfl, iteF ?_⟩⟩⟩
    have e5_ := e.trans e5
    refine ⟨_, rfl, _, rfl, p1, _, 0, _, rfl, rfl, Evl.ex_t e5_ hp1, atI_nat (j := 0) rfl, _, rfl, p2, _, 0, _, rfl, rfl, Evl.ex_t e5_ hp2, atI_nat (j := 0) rfl, _, rfl, p1, _, 1, _, rfl, rfl, Evl.ex_t e5_ hp1, atI_nat (j := 1) rfl, _, ⟨_, a1 + a2, b, besideF a1 f g, a1, 0, a2, b, rfl, hw4.ex e5, a20, b0, by omega, by omega, by omega, by omega, rfl⟩, fun c6 H6 e6 hc6 => ⟨_, rfl, ne_pic hc6 ((hu4.ex e5).ex e6) cut1 ⟨false, rfl, iteF ?_⟩⟩⟩
    have e6_ := (e.trans e5).trans e6
    have hv6 := (hv4.ex e5).ex e6
    have hu6 := (hu4.ex e5).ex e6
    have hw6 := (hw4.ex e5).ex e6
    have hh6 := (hh.ex e5).ex e6
    refine ⟨_, rfl, _, rfl, p1, _, 1, _, rfl, rfl, Evl.ex_t e6_ hp1, atI_nat (j := 1) rfl, _, rfl, p1, _, 0, _, rfl, rfl, Evl.ex_t e6_ hp1, atI_nat (j := 0) rfl, _, ⟨_, b, a1 + a2, _, 0, 0, b, a1, rfl, hh6, b0, a10, by omega, by omega, by omega, by omega, rfl⟩, fun c7 H7 e7 hc7 => ⟨_, rfl, _, ⟨_, a1, b, f, rfl, hv6.ex e7, a10, b0, by omega, by omega, rfl⟩, fun t7 H8 e8 ht8 => ne_pic (hc7.ex e8) ht8 cut2 ⟨false, rfl, iteF ?_⟩⟩⟩
    have e78 := e7.trans e8
    have e8_ := e6_.trans e78
    have hv8 := hv6.ex e78
    have hu8 := hu6.ex e78
    have hw8 := hw6.ex e78
    have hh8 := hh6.ex e78
    refine ⟨_, rfl, _, rfl, p1, _, 0, _, rfl, rfl, Evl.ex_t e8_ hp1, atI_nat (j := 0) rfl, _, rfl, p1, _, 1, _, rfl, rfl, Evl.ex_t e8_ hp1, atI_nat (j := 1) rfl, _, rfl, p2, _, 0, _, rfl, rfl, Evl.ex_t e8_ hp2, atI_nat (j := 0) rfl, _, ⟨_, b, a1 + a2, _, 0, a1, b, a2, rfl, hh8, b0, a20, by omega, by omega, by omega, by omega, rfl⟩, fun c9 H9 e9 hc9 => ⟨_, rfl, _, ⟨_, a2, b, g, rfl, hu8.ex e9, a20, b0, by omega, by omega, rfl⟩, fun t9 H10 e10 ht10 => ne_pic (hc9.ex e10) ht10 cut3 ⟨false, rfl, iteF ?_⟩⟩⟩
    have e910 := e9.trans e10
    have okw : OkF (a1 + a2) b (besideF a1 f g) := fun x y hx hy => by
      unfold besideF
      by_cases h : x < a1
      · rw [if_pos h]
        exact okf x y h hy
      · rw [if_neg h]
        exact okg _ y (by omega) hy
    have okh : OkF b (a1 + a2) (stackF a1 (turnF b f) (turnF b g)) := fun x y hx hy => by
      unfold stackF turnF
      by_cases h : y < a1
      · rw [if_pos h]
        exact okf _ _ h (by omega)
      · rw [if_neg h]
        exact okg _ _ (by omega) (by omega)
    refine ⟨_, rfl, _, ⟨_, a1 + a2, b, _, rfl, hw8.ex e910, by omega, b0, by omega, by omega, okw, rfl⟩, fun v1 H11 e11 z1 => ⟨true, z1, iteT ?_⟩⟩
    refine ⟨_, rfl, _, ⟨_, b, a1 + a2, _, rfl, (hh8.ex e910).ex e11, b0, by omega, by omega, by omega, okh, rfl⟩, fun v2 H12 e12 z2 => ⟨true, z2, iteT ?_⟩⟩
    refine ⟨_, rfl, _, ⟨_, a1 + a2, b, _, rfl, ((hw8.ex e910).ex e11).ex e12, by omega, b0, by omega, by omega, rfl⟩, fun v3 H13 e13 h3 => ⟨_, rfl, eq_pic h3 ((((hh8.ex e910).ex e11).ex e12).ex e13) (fun x y _ _ => rfl) ?_⟩⟩
    exact q _ _ ((((((e.trans e5).trans e6).trans e78).trans e910).trans ((e11.trans e12).trans e13))) rfl
end
end K08
namespace K08
open PySem PySem.Spec PyProof.Rows L2
open Evl (Ex)
/-! ### the plain laws of pictures -/
theorem turn_four {a b : Nat} (f : Pix) : ∀ x y, x < a → y < b → turnF a (thriceF a b f) x y = f x y := fun x y hx hy => by
  show f (a - 1 - (a - 1 - x)) (b - 1 - (b - 1 - y)) = f x y
  rw [show a - 1 - (a - 1 - x) = x by omega, show b - 1 - (b - 1 - y) = y by omega]
theorem mirror_two {a b : Nat} (f : Pix) : ∀ x y, x < a → y < b → mirrorF a (mirrorF a f) x y = f x y := fun x y hx hy => by
  show f (a - 1 - (a - 1 - x)) y = f x y
  rw [show a - 1 - (a - 1 - x) = x by omega]
theorem turn_mirror {a b : Nat} (f : Pix) : ∀ x y, x < b → y < a → turnF b (mirrorF a f) x y = mirrorF b (thriceF a b f) x y := fun x y hx hy => by
  show f (a - 1 - y) (b - 1 - x) = f (a - 1 - y) (b - 1 - (b - 1 - (b - 1 - x)))
  rw [show b - 1 - (b - 1 - (b - 1 - x)) = b - 1 - x by omega]
theorem grow_grow {k l : Nat} (f : Pix) (x y : Nat) : growF l (growF k f) x y = growF (k * l) f x y := by
  show f (x / l / k) (y / l / k) = f (x / (k * l)) (y / (k * l))
  rw [Nat.div_div_eq_div_mul, Nat.div_div_eq_div_mul, Nat.mul_comm l k]
theorem size_grow {a b k : Nat} (a0 : 0 < a) (b0 : 0 < b) (f : Pix) (x y : Nat) : sizeF a b (k * a) (k * b) f x y = growF k f x y := by
  show f (x * a / (k * a)) (y * b / (k * b)) = f (x / k) (y / k)
  rw [Nat.mul_div_mul_right _ _ a0, Nat.mul_div_mul_right _ _ b0]
theorem size_same {a b : Nat} (a0 : 0 < a) (b0 : 0 < b) (f : Pix) (x y : Nat) : sizeF a b a b f x y = f x y := by
  show f (x * a / a) (y * b / b) = f x y
  rw [Nat.mul_div_cancel _ a0, Nat.mul_div_cancel _ b0]
theorem OkF.turn {a b : Nat} {f : Pix} (h : OkF a b f) : OkF b a (turnF b f) := fun x y hx hy => h _ _ hy (by omega)
/-! ### the greatest number of an area -/
theorem max_parts {K : PySem.W.Frag} {a b M : Nat} {f : Pix} {lab : Nat → Nat → Nat} {H : Hp} {v : V} (L : Lab a b f lab M) (a0 : 0 < a) (b0 : 0 < b) (h : TpP K (a * b) (fun i _ u => u = .int (lab (i % a) (i / a) : Nat)) H v) :
    ∃ (p : Addr) (n : Int) (ns : List Int), v = .ref p ∧ SqT K H p ((n :: ns).map V.int) ∧ ∀ m, m ∈ n :: ns → (∀ y, y ∈ n :: ns → y ≤ m) → m = (M : Int) - 1 := by
  obtain ⟨p, ys, rfl, hs, it⟩ := h
  have e := it.maps
  have e2 : ys = ((List.range (a * b)).map fun i => ((lab (i % a) (i / a) : Nat) : Int)).map V.int := by
    rw [e, List.map_map]
    rfl
  have pos : 0 < a * b := Nat.mul_pos a0 b0
  cases hr : (List.range (a * b)).map fun i => ((lab (i % a) (i / a) : Nat) : Int) with
  | nil =>
    have : ((List.range (a * b)).map fun i => ((lab (i % a) (i / a) : Nat) : Int)).length = a * b := by rw [List.length_map, List.length_range]
    rw [hr] at this
    simp at this
    omega
  | cons n ns =>
    refine ⟨p, n, ns, rfl, by rw [← hr, ← e2]; exact hs, fun m hm hle => ?_⟩
    rw [← hr] at hm hle
    obtain ⟨i, hi, ei⟩ := List.mem_map.mp hm
    have hi' := List.mem_range.mp hi
    have l1 := L.lt _ _ (Nat.mod_lt i a0) (Nat.div_lt_of_lt_mul hi')
    obtain ⟨x, y, hx, hy, exy⟩ := L.onto (M - 1) (by omega)
    have l2 := hle ((lab x y : Nat) : Int) (List.mem_map.mpr ⟨y * a + x, List.mem_range.mpr (ix_lt hx hy), by rw [ix_mod hx, ix_div hx]⟩)
    omega
theorem lab_pos {a b M : Nat} {f : Pix} {lab : Nat → Nat → Nat} (L : Lab a b f lab M) (a0 : 0 < a) (b0 : 0 < b) : 0 < M := Nat.lt_of_le_of_lt (Nat.zero_le _) (L.lt 0 0 a0 b0)
section
variable {P : Program} {w : World} {K : PySem.W.Frag} {mg : Str → Option Value} {base : Heap}
/-! ### the law -/
def spLaw (K : PySem.W.Frag) : Sp := fun vs H Q _ => ∃ (a : Addr) (ns : List Int), vs = [.ref a] ∧ SqL K H a (ns.map V.int) ∧ ns.length ≤ 63 ∧ (∀ z ∈ ns, Builtin.Int.intBits z ≤ 1048576) ∧ ∀ H', Q (.bl true) H'
abbrev nLaw : List Str := ["_law_script", "_law_town", "_law_k", "_law_height", "_law_one", "_law_other", "_law_across", "_law_down", "_law_cell", "_law_by", "_law_more", "_law_great", "_law_many"]
theorem scLaw : FnScope nLaw ["_law_script"] (defScope sLaw) := ⟨rfl, rfl, rfl, by decide +kernel, rfl, by decide +kernel, by decide +kernel⟩
abbrev nLawK : Nat := 6
/-- between the rounds -/
def LawI (K : PySem.W.Frag) (sA T : Addr) (n : Nat) (σ : L2.St) (H : Hp) : Prop := ∃ y2 y3 y4 y5 y6 y7 y8 y9 y10 y11 y12, σ = [some (.ref sA), some (.ref T), y2, y3, y4, y5, y6, y7, y8, y9, y10, y11, y12] ∧ Rig K T sA n H
abbrev lawRound : List Stmt := forBody (nthStmt sLaw 1)
section
variable {fa : Addr} {cdv : Value} {A : Around} {outer : List Env} {s : Shared} {H0 : Hp} {E : XK}
/-- growing, shrinking, sizing, areas -/
theorem law_last (B : Blt mg) (hr : Room 5 (A.deeper (envOfC "law" (defScope sLaw) s.heap.objs.size fa cdv)))
    (CD : Cal P w K mg base 1 "_law_draw" ["_law_script", "_law_town", "_law_many"] (spDraw K)) (CT : Cal P w K mg base 1 "turned" ["picture"] (spTurned K)) (CM : Cal P w K mg base 2 "mirrored" ["picture"] (spMirrored K))
    (CG : Cal P w K mg base 2 "grown" ["picture", "by"] (spGrown K)) (CS : Cal P w K mg base 3 "shrunk" ["picture", "by"] (spShrunk K)) (CZ : Cal P w K mg base 2 "sized" ["picture", "width", "height"] (spSized K))
    (CA : Cal P w K mg base 4 "areas" ["picture"] (spAreas K)) :
    ∃ t, PSs (cxOf CX0 P w K mg base nLaw "law" (defScope sLaw) fa cdv A outer s H0 E).nox (lawRound.drop 7) t ∧
      ∀ (sA T : Addr) (n a b : Nat) (f : Pix) (v : V) (D : Ends) y2 y3 y5 y6 y7 y8 y9 y10 y11 y12 H, Rig K T sA n H → n ≤ 9000 → PicP K a b f H v → 0 < a → 0 < b → a ≤ 4 → b ≤ 4 → (∀ x y, x < a → y < b → NormC (f x y)) →
        (∀ σ H', LawI K sA T (n + 4) σ H' → D.nx σ H') → t D [some (.ref sA), some (.ref T), y2, y3, some v, y5, y6, y7, y8, y9, y10, y11, y12] H := by
  have hr1 := hr.mono (show 1 ≤ 5 by decide)
  have hr2 := hr.mono (show 2 ≤ 5 by decide)
  have hr3 := hr.mono (show 3 ≤ 5 by decide)
  have hr4 := hr.mono (show 4 ≤ 5 by decide)
  refine ⟨_, pss_cons (ps_par (i := 9) (j := 10) rfl scLaw.nd rfl rfl (by decide) rfl rfl (pa_cons (pe_op op_add pe_int (pe_cal CD hr1 (by rfl) (pa_cons (pv 0) (pa_cons (pv 1) (pa_cons pe_int pa_nil))))) (pa_cons (pe_op op_add pe_int (pe_cal CD hr1 (by rfl) (pa_cons (pv 0) (pa_cons (pv 1) (pa_cons pe_int pa_nil))))) pa_nil)) rfl)
    (pss_cons (ps_set (i := 11) scLaw.nd rfl (.inl rfl) (pe_cal CG hr2 (by rfl) (pa_cons (pv 4) (pa_cons (pv 9) pa_nil))))
    (pss_cons (ps_if (PW.pt (pw_or (pt_cmpR (op_neD hr.units) (pe_cal CS hr3 (by rfl) (pa_cons (pv 11) (pa_cons (pv 9) pa_nil))) (pv 4) (nomark _))
        (pw_or1 (pt_cmpR (op_neD hr.units) (pe_cal CG hr2 (by rfl) (pa_cons (pv 11) (pa_cons (pv 10) pa_nil))) (pe_cal CG hr2 (by rfl) (pa_cons (pv 4) (pa_cons (pe_op op_mul (pv 9) (pv 10)) pa_nil))) (nomark _))))) pss_never pss_nil)
    (pss_cons (ps_if (PW.pt (pw_or (pt_cmpR (op_neD hr.units) (pe_cal CZ hr2 (by rfl) (pa_cons (pv 4) (pa_cons (pe_op op_mul (pv 9) (pe_ix ix_tup (pv 4) pe_int (fun _ _ => rfl))) (pa_cons (pe_op op_mul (pv 9) (pe_ix ix_tup (pv 4) pe_int (fun _ _ => rfl))) pa_nil)))) (pv 11) (nomark _))
        (pw_or1 (pt_cmpR (op_neD hr.units) (pe_cal CZ hr2 (by rfl) (pa_cons (pv 4) (pa_cons (pe_ix ix_tup (pv 4) pe_int (fun _ _ => rfl)) (pa_cons (pe_ix ix_tup (pv 4) pe_int (fun _ _ => rfl)) pa_nil)))) (pv 4) (nomark _))))) pss_never pss_nil)
    (pss_cons (ps_set (i := 12) scLaw.nd rfl (.inl rfl) (pe_callB (cr_maxT rfl (hu_of hr)) (by rfl) B.max boot_max (pa_cons (pe_cal CA hr4 (by rfl) (pa_cons (pv 4) pa_nil)) pa_nil)))
    (pss_cons (ps_if (PW.pt (pw_or (pt_cmpR op_ne (pe_callB (cr_maxT rfl (hu_of hr)) (by rfl) B.max boot_max (pa_cons (pe_cal CA hr4 (by rfl) (pa_cons (pe_cal CT hr1 (by rfl) (pa_cons (pv 4) pa_nil)) pa_nil)) pa_nil)) (pv 12) (nomark _))
        (pw_or1 (pt_cmpR op_ne (pe_callB (cr_maxT rfl (hu_of hr)) (by rfl) B.max boot_max (pa_cons (pe_cal CA hr4 (by rfl) (pa_cons (pe_cal CM hr2 (by rfl) (pa_cons (pv 4) pa_nil)) pa_nil)) pa_nil)) (pv 12) (nomark _))))) pss_never pss_nil)
    (pss_one (ps_if (pt_cmpR op_ne (pe_callB (cr_maxT rfl (hu_of hr)) (by rfl) B.max boot_max (pa_cons (pe_cal CA hr4 (by rfl) (pa_cons (pv 11) pa_nil)) pa_nil)) (pv 12) (nomark _)) pss_never pss_nil))))))), ?_⟩
  rintro sA T n a b f v D y2 y3 y5 y6 y7 y8 y9 y10 y11 y12 H hR n9 hv a0 b0 a4 b4 hn done
  obtain ⟨p, pc, cs, rfl, hp, hpc, its⟩ := id hv
  refine ⟨_, rfl, _, rfl, sA, T, 3, n, rfl, hR, by omega, by decide, fun d1 H1 k1 R1 d1a d1b => ?_⟩
  obtain ⟨k, ek, k0, k3⟩ : ∃ k : Nat, 1 + d1 = (k : Int) ∧ 0 < k ∧ k ≤ 3 := ⟨(1 + d1).toNat, by omega, by omega, by omega⟩
  refine ⟨_, _, rfl, rfl, _, rfl, _, rfl, sA, T, 3, n + 2, rfl, R1, by omega, by decide, fun d2 H2 k2 R2 d2a d2b => ?_⟩
  obtain ⟨l, el, l0, l3⟩ : ∃ l : Nat, 1 + d2 = (l : Int) ∧ 0 < l ∧ l ≤ 3 := ⟨(1 + d2).toNat, by omega, by omega, by omega⟩
  refine ⟨_, _, rfl, rfl, .int (1 + d1), .int (1 + d2), rfl, ?_⟩
  rw [ek, el]
  have hv2 : PicP K a b f H2 (.ref p) := PicP.mo K a b f _ _ _ (k1.trans k2).2 hv
  have hp2 := (k1.trans k2).2.sq hp
  have ak : a * k ≤ 4 * 3 := Nat.mul_le_mul a4 k3
  have bk : b * k ≤ 4 * 3 := Nat.mul_le_mul b4 k3
  have akp : 0 < a * k := Nat.mul_pos a0 k0
  have bkp : 0 < b * k := Nat.mul_pos b0 k0
  have akl : a * k * l ≤ 12 * 3 := Nat.mul_le_mul ak l3
  have bkl : b * k * l ≤ 12 * 3 := Nat.mul_le_mul bk l3
  have kl : k * l ≤ 3 * 3 := Nat.mul_le_mul k3 l3
  have klp : 0 < k * l := Nat.mul_pos k0 l0
  -- great
  refine ⟨_, rfl, _, rfl, _, ⟨_, a, b, k, f, rfl, hv2, a0, b0, k0, by omega, by omega, by omega, by omega, by omega, rfl⟩, fun g H3 e3 hg => ?_⟩
  -- shrunk, grown
  refine ⟨_, rfl, _, rfl, _, ⟨_, a, b, k, f, rfl, hg, a0, b0, k0, by omega, by omega, by omega, by omega, by omega, hn, rfl⟩, fun v4 H4 e4 h4 => ⟨_, rfl, ne_pic h4 (hv2.ex (e3.trans e4)) (fun _ _ _ _ => rfl) ⟨false, rfl, ?_⟩⟩⟩
  refine ⟨_, rfl, _, rfl, _, ⟨_, a * k, b * k, l, _, rfl, hg.ex e4, akp, bkp, l0, by omega, by omega, by omega, by omega, by omega, rfl⟩, fun v5 H5 e5 h5 => ?_⟩
  rw [Nat.mul_assoc] at akl bkl
  rw [Nat.mul_assoc, Nat.mul_assoc] at h5
  refine ⟨_, rfl, _, rfl, _, rfl, (k : Int), (l : Int), rfl, rfl, .inl ⟨by omega, by omega⟩, _, ⟨_, a, b, k * l, f, rfl, hv2.ex ((e3.trans e4).trans e5), a0, b0, klp, by omega, by omega, by omega, by omega, by omega, rfl⟩, fun v6 H6 e6 h6 => ne_pic (h5.ex e6) h6 (fun x y _ _ => grow_grow f x y) ⟨false, rfl, ?_⟩⟩
  have e36 := ((e3.trans e4).trans e5).trans e6
  have hv6 := hv2.ex e36
  have hp6 := Evl.ex_t e36 hp2
  have hg6 := hg.ex ((e4.trans e5).trans e6)
  -- sized
  refine ⟨_, rfl, _, rfl, _, rfl, p, _, 0, _, rfl, rfl, hp6, atI_nat (j := 0) rfl, (k : Int), (a : Int), rfl, rfl, .inl ⟨by omega, by omega⟩, _, rfl, _, rfl, p, _, 1, _, rfl, rfl, hp6, atI_nat (j := 1) rfl, (k : Int), (b : Int), rfl, rfl, .inl ⟨by omega, by omega⟩, ?_⟩
  refine ⟨_, ⟨_, a, b, k * a, k * b, f, rfl, hv6, a0, b0, Nat.mul_pos k0 a0, Nat.mul_pos k0 b0, by omega, by omega, by rw [Nat.mul_comm]; omega, by rw [Nat.mul_comm]; omega, rfl⟩, fun v7 H7 e7 h7 => ?_⟩
  have h7' : PicP K (a * k) (b * k) (sizeF a b (k * a) (k * b) f) H7 v7 := by
    rw [Nat.mul_comm a k, Nat.mul_comm b k]
    exact h7
  refine ⟨_, rfl, ne_pic h7' (hg6.ex e7) (fun x y _ _ => size_grow a0 b0 f x y) ⟨false, rfl, ?_⟩⟩
  have hp7 := Evl.ex_t e7 hp6
  refine ⟨_, rfl, _, rfl, p, _, 0, _, rfl, rfl, hp7, atI_nat (j := 0) rfl, _, rfl, p, _, 1, _, rfl, rfl, hp7, atI_nat (j := 1) rfl, _, ⟨_, a, b, a, b, f, rfl, hv6.ex e7, a0, b0, a0, b0, by omega, by omega, by omega, by omega, rfl⟩, fun v8 H8 e8 h8 => ⟨_, rfl, ne_pic h8 ((hv6.ex e7).ex e8) (fun x y _ _ => size_same a0 b0 f x y) ⟨false, rfl, ?_⟩⟩⟩
  have e78 := e7.trans e8
  have hv8 := hv6.ex e78
  -- areas
  refine ⟨_, rfl, _, ⟨_, a, b, f, rfl, hv8, a0, b0, by omega, by omega, rfl⟩, fun v9 H9 e9 ⟨lab, M, L, h9⟩ => ?_⟩
  obtain ⟨p9, m9, ns9, rfl, hs9, hm9⟩ := max_parts L a0 b0 h9
  refine ⟨p9, m9, ns9, rfl, hs9, fun m hm hle => ?_⟩
  have em := hm9 m hm hle
  subst em
  refine ⟨_, rfl, _, ⟨_, a, b, f, rfl, hv8.ex e9, a0, b0, by omega, by omega, rfl⟩, fun v10 H10 e10 h10 => ⟨_, ⟨_, b, a, _, rfl, h10, b0, a0, by omega, by omega, rfl⟩, fun v11 H11 e11 ⟨lab1, M1, L1, h11⟩ => ?_⟩⟩
  obtain ⟨p11, m11, ns11, rfl, hs11, hm11⟩ := max_parts L1 b0 a0 h11
  refine ⟨p11, m11, ns11, rfl, hs11, fun m1 hm1 hle1 => ?_⟩
  have em1 := hm11 m1 hm1 hle1
  have eM1 : M1 = M := count_turn L L1
  subst em1
  rw [eM1]
  refine ⟨_, rfl, rfl, false, by rw [decide_eq_true rfl]; rfl, ?_⟩
  have hv11 := ((hv8.ex e9).ex e10).ex e11
  refine ⟨_, rfl, _, ⟨_, a, b, f, rfl, hv11, a0, b0, by omega, by omega, rfl⟩, fun v12 H12 e12 h12 => ⟨_, ⟨_, a, b, _, rfl, h12, a0, b0, by omega, by omega, rfl⟩, fun v13 H13 e13 ⟨lab2, M2, L2, h13⟩ => ?_⟩⟩
  obtain ⟨p13, m13, ns13, rfl, hs13, hm13⟩ := max_parts L2 a0 b0 h13
  refine ⟨p13, m13, ns13, rfl, hs13, fun m2 hm2 hle2 => ?_⟩
  have em2 := hm13 m2 hm2 hle2
  have eM2 : M2 = M := count_mirror L L2
  subst em2
  rw [eM2]
  refine ⟨_, rfl, rfl, false, by rw [decide_eq_true rfl]; rfl, ?_⟩
  have hg13 := (((((hg6.ex e78).ex e9).ex e10).ex e11).ex e12).ex e13
  refine ⟨_, rfl, _, ⟨_, a * k, b * k, _, rfl, hg13, akp, bkp, by omega, by omega, rfl⟩, fun v14 H14 e14 ⟨lab3, M3, L3, h14⟩ => ?_⟩
  obtain ⟨p14, m14, ns14, rfl, hs14, hm14⟩ := max_parts L3 akp bkp h14
  refine ⟨p14, m14, ns14, rfl, hs14, fun m3 hm3 hle3 => ?_⟩
  have em3 := hm14 m3 hm3 hle3
  have eM3 : M3 = M := count_grow k0 L L3
  subst em3
  rw [eM3]
  refine ⟨_, rfl, rfl, false, by rw [decide_eq_true rfl]; rfl, ?_⟩
  refine done _ _ ⟨_, _, _, _, _, _, _, _, _, _, _, rfl, ?_⟩
  exact R2.ex ((((((((e36.trans e78).trans e9).trans e10).trans e11).trans e12).trans e13)).trans e14)
end
end
end K08
namespace K08
open PySem PySem.Spec PyProof.Rows L2
open Evl (Ex)
section
variable {P : Program} {w : World} {K : PySem.W.Frag} {mg : Str → Option Value} {base : Heap}
/-- all the callees of the law -/
structure Cals (P : Program) (w : World) (K : PySem.W.Frag) (mg : Str → Option Value) (base : Heap) : Prop where
  draw : Cal P w K mg base 1 "_law_draw" ["_law_script", "_law_town", "_law_many"] (spDraw K)
  turned : Cal P w K mg base 1 "turned" ["picture"] (spTurned K)
  mirrored : Cal P w K mg base 2 "mirrored" ["picture"] (spMirrored K)
  grown : Cal P w K mg base 2 "grown" ["picture", "by"] (spGrown K)
  shrunk : Cal P w K mg base 3 "shrunk" ["picture", "by"] (spShrunk K)
  sized : Cal P w K mg base 2 "sized" ["picture", "width", "height"] (spSized K)
  areas : Cal P w K mg base 4 "areas" ["picture"] (spAreas K)
  thrice : Cal P w K mg base 2 "_law_thrice" ["_law_picture"] (spThrice K)
  isPic : Cal P w K mg base 4 "is_picture" ["thing"] (spPicture K)
  pair : Cal P w K mg base 5 "_law_pair_holds" ["_law_one", "_law_other"] (spPair K)
  cell : Cal P w K mg base 2 "cell_at" ["picture", "x", "y"] (spCellAt K)
  cleared : Cal P w K mg base 1 "_law_cleared" ["_law_picture"] (spCleared K)
  drawn : Cal P w K mg base 4 "_law_drawn_picture" ["_law_script", "_law_town", "_law_width", "_law_height", "_law_many"] (spDrawnPicture K)
section
variable {fa : Addr} {cdv : Value} {A : Around} {outer : List Env} {s : Shared} {H0 : Hp} {E : XK}
theorem law_checks (B : Blt mg) (C : Cals P w K mg base) (hr : Room 5 (A.deeper (envOfC "law" (defScope sLaw) s.heap.objs.size fa cdv))) :
    ∃ t, PSs (cxOf CX0 P w K mg base nLaw "law" (defScope sLaw) fa cdv A outer s H0 E).nox (lawRound.drop 3) t ∧
      ∀ (sA T : Addr) (n a a2 b : Nat) (f g : Pix) (v u : V) (D : Ends) y2 y3 y6 y7 y8 y9 y10 y11 y12 H, Rig K T sA n H → n ≤ 9000 → PicP K a b f H v → PicP K a2 b g H u → 0 < a → 0 < a2 → 0 < b → a ≤ 4 → a2 ≤ 4 → b ≤ 4 → (∀ x y, x < a → y < b → NormC (f x y)) → OkF a2 b g →
        (∀ σ H', LawI K sA T (n + 4) σ H' → D.nx σ H') → t D [some (.ref sA), some (.ref T), y2, y3, some v, some u, y6, y7, y8, y9, y10, y11, y12] H := by
  have hr1 := hr.mono (show 1 ≤ 5 by decide)
  have hr2 := hr.mono (show 2 ≤ 5 by decide)
  have hr4 := hr.mono (show 4 ≤ 5 by decide)
  obtain ⟨tL, hL, kL⟩ := law_last (H0 := H0) (outer := outer) (E := E) B hr C.draw C.turned C.mirrored C.grown C.shrunk C.sized C.areas
  refine ⟨_, pss_cons (ps_if (PW.pt (pw_or (pt_cmpR (op_neD hr.units) (pe_cal C.turned hr1 (by rfl) (pa_cons (pe_cal C.thrice hr2 (by rfl) (pa_cons (pv 4) pa_nil)) pa_nil)) (pv 4) (nomark _))
        (pw_or1 (pt_cmpR (op_neD hr.units) (pe_cal C.mirrored hr2 (by rfl) (pa_cons (pe_cal C.mirrored hr2 (by rfl) (pa_cons (pv 4) pa_nil)) pa_nil)) (pv 4) (nomark _))))) pss_never pss_nil)
    (pss_cons (ps_if (pt_not (pt_val (pe_cal C.isPic hr4 (by rfl) (pa_cons (pe_cal C.turned hr1 (by rfl) (pa_cons (pv 4) pa_nil)) pa_nil)))) pss_never pss_nil)
    (pss_cons (ps_if (PW.pt (pw_or (pt_cmpR (op_neD hr.units) (pe_cal C.turned hr1 (by rfl) (pa_cons (pe_cal C.mirrored hr2 (by rfl) (pa_cons (pv 4) pa_nil)) pa_nil)) (pe_cal C.mirrored hr2 (by rfl) (pa_cons (pe_cal C.thrice hr2 (by rfl) (pa_cons (pv 4) pa_nil)) pa_nil)) (nomark _))
        (pw_or1 (pt_not (pt_val (pe_cal C.pair hr (by rfl) (pa_cons (pv 4) (pa_cons (pv 5) pa_nil)))))))) pss_never pss_nil)
    (pss_cons (ps_for PassesOwn.never rfl (pi_range1 (by rfl) B.range (pa_cons (pe_ix ix_tup (pv 4) pe_int (fun _ _ => rfl)) pa_nil)) (pg_name (i := 6) scLaw.nd rfl (Or.inl rfl))
      (pss_one (ps_for PassesOwn.never rfl (pi_range1 (by rfl) B.range (pa_cons (pe_ix ix_tup (pv 4) pe_int (fun _ _ => rfl)) pa_nil)) (pg_name (i := 7) scLaw.nd rfl (Or.inl rfl))
        (pss_cons (ps_set (i := 8) scLaw.nd rfl (.inl rfl) (pe_cal C.cell hr2 (by rfl) (pa_cons (pv 4) (pa_cons (pv 6) (pa_cons (pv 7) pa_nil)))))
        (pss_cons (ps_if (pt_cmpR (op_neD hr.units) (pe_cal C.cell hr2 (by rfl) (pa_cons (pe_cal C.turned hr1 (by rfl) (pa_cons (pv 4) pa_nil)) (pa_cons (pe_op op_sub (pe_op op_sub (pe_ix ix_tup (pv 4) pe_int (fun _ _ => rfl)) pe_int) (pv 7)) (pa_cons (pv 6) pa_nil)))) (pv 8) (nomark _)) pss_never pss_nil)
        (pss_one (ps_if (pt_cmpR (op_neD hr.units) (pe_cal C.cell hr2 (by rfl) (pa_cons (pe_cal C.mirrored hr2 (by rfl) (pa_cons (pv 4) pa_nil)) (pa_cons (pe_op op_sub (pe_op op_sub (pe_ix ix_tup (pv 4) pe_int (fun _ _ => rfl)) pe_int) (pv 6)) (pa_cons (pv 7) pa_nil)))) (pv 8) (nomark _)) pss_never pss_nil)))))))
      hL))), ?_⟩
  rintro sA T n a a2 b f g v u D y2 y3 y6 y7 y8 y9 y10 y11 y12 H hR n9 hv hu a0 a20 b0 a4 a24 b4 hn hg done
  have okf : OkF a b f := fun x y hx hy => (hn x y hx hy).1
  obtain ⟨p, pc, cs, rfl, hp, hpc, its⟩ := id hv
  refine ⟨_, rfl, _, ⟨_, a, b, f, rfl, hv, a0, b0, by omega, by omega, rfl⟩, fun v1 H1 e1 h1 => ⟨_, ⟨_, b, a, _, rfl, h1, b0, a0, by omega, by omega, rfl⟩, fun v2 H2 e2 h2 => ⟨_, rfl, ne_pic h2 (hv.ex (e1.trans e2)) (turn_four f) ⟨false, rfl, ?_⟩⟩⟩⟩
  have hv2 := hv.ex (e1.trans e2)
  refine ⟨_, rfl, _, ⟨_, a, b, f, rfl, hv2, a0, b0, by omega, by omega, rfl⟩, fun v3 H3 e3 h3 => ⟨_, ⟨_, a, b, _, rfl, h3, a0, b0, by omega, by omega, rfl⟩, fun v4 H4 e4 h4 => ⟨_, rfl, ne_pic h4 (hv2.ex (e3.trans e4)) (mirror_two f) ⟨false, rfl, ?_⟩⟩⟩⟩
  have e04 := (e1.trans e2).trans (e3.trans e4)
  have hv4 := hv.ex e04
  refine ⟨_, rfl, _, ⟨_, a, b, f, rfl, hv4, a0, b0, by omega, by omega, rfl⟩, fun v5 H5 e5 h5 => ⟨_, ⟨_, b, a, _, rfl, h5, b0, a0, by omega, by omega, okf.turn, rfl⟩, fun v6 H6 e6 h6 => ⟨true, h6, ?_⟩⟩⟩
  have e06 := e04.trans (e5.trans e6)
  have hv6 := hv.ex e06
  refine ⟨_, rfl, _, ⟨_, a, b, f, rfl, hv6, a0, b0, by omega, by omega, rfl⟩, fun v7 H7 e7 h7 => ⟨_, ⟨_, a, b, _, rfl, h7, a0, b0, by omega, by omega, rfl⟩, fun v8 H8 e8 h8 => ?_⟩⟩
  have hv8 := hv6.ex (e7.trans e8)
  refine ⟨_, rfl, _, ⟨_, a, b, f, rfl, hv8, a0, b0, by omega, by omega, rfl⟩, fun v9 H9 e9 h9 => ⟨_, ⟨_, b, a, _, rfl, h9, b0, a0, by omega, by omega, rfl⟩, fun v10 H10 e10 h10 => ne_pic (h8.ex (e9.trans e10)) h10 (turn_mirror f) ⟨false, rfl, ?_⟩⟩⟩
  have e0A := e06.trans ((e7.trans e8).trans (e9.trans e10))
  refine ⟨_, rfl, _, rfl, _, ⟨_, _, a, a2, b, f, g, rfl, hv.ex e0A, hu.ex e0A, a0, a20, b0, by omega, by omega, by omega, okf, hg, rfl⟩, fun v11 H11 e11 h11 => ⟨true, h11, ?_⟩⟩
  have e0B := e0A.trans e11
  refine ⟨_, rfl, p, _, 0, _, rfl, rfl, Evl.ex_t e0B hp, atI_nat (j := 0) rfl, (a : Int), rfl, by omega, by omega, ?_⟩
  refine for_range (lo := 0) (n := (a : Int).toNat) (fun x σ' H' => ∃ z6 z7 z8, σ' = [some (.ref sA), some (.ref T), y2, y3, some (.ref p), some u, z6, z7, z8, y9, y10, y11, y12] ∧ Ex H H') ⟨_, _, _, rfl, e0B⟩ ?_ ?_
  · rintro x σ' H' hx ⟨z6, z7, z8, rfl, e⟩
    have hxa : x < a := by omega
    rw [Int.zero_add]
    refine ⟨_, rfl, p, _, 1, _, rfl, rfl, Evl.ex_t e hp, atI_nat (j := 1) rfl, (b : Int), rfl, by omega, by omega, ?_⟩
    refine for_range (lo := 0) (n := (b : Int).toNat) (fun y σ' H' => ∃ z7 z8, σ' = [some (.ref sA), some (.ref T), y2, y3, some (.ref p), some u, some (.int (x : Int)), z7, z8, y9, y10, y11, y12] ∧ Ex H H') ⟨_, _, rfl, e⟩ ?_ ?_
    · rintro y σ' H' hy ⟨z7, z8, rfl, e⟩
      have hyb : y < b := by omega
      rw [Int.zero_add]
      refine ⟨_, rfl, _, rfl, _, rfl, _, ⟨_, a, b, f, x, y, rfl, hv.ex e, hxa, hyb, by omega, by omega, rfl⟩, fun c H1 e1 hc => ?_⟩
      have eb : (b : Int) - 1 - (y : Int) = ((b - 1 - y : Nat) : Int) := by omega
      have ea : (a : Int) - 1 - (x : Int) = ((a - 1 - x : Nat) : Int) := by omega
      refine ⟨_, rfl, _, ⟨_, a, b, f, rfl, (hv.ex e).ex e1, a0, b0, by omega, by omega, rfl⟩, fun vt H2 e2 ht => ?_⟩
      refine ⟨_, rfl, p, _, 1, _, rfl, rfl, Evl.ex_t ((e.trans e1).trans e2) hp, atI_nat (j := 1) rfl, (b : Int), 1, rfl, rfl, _, rfl, (b : Int) - 1, (y : Int), rfl, rfl, _, rfl, _, ⟨vt, b, a, turnF b f, b - 1 - y, x, congrArg (fun z => [vt, V.int z, V.int (x : Int)]) eb, ht, by omega, hxa, by omega, by omega, rfl⟩, fun c2 H3 e3 hc2 => ⟨_, rfl, ?_⟩⟩
      have c2' : ColP K (f x y) H3 c2 := by
        have z : turnF b f (b - 1 - y) x = f x y := by
          show f x (b - 1 - (b - 1 - y)) = f x y
          rw [show b - 1 - (b - 1 - y) = y by omega]
        rw [← z]
        exact hc2
      refine ne_col c2' (ColP.mo K _ _ _ _ (Kp.ex (e2.trans e3)) hc) ⟨false, rfl, ?_⟩
      have e3' := (((e.trans e1).trans e2).trans e3)
      refine ⟨_, rfl, _, ⟨_, a, b, f, rfl, hv.ex e3', a0, b0, by omega, by omega, rfl⟩, fun vm H4 e4 hm => ?_⟩
      refine ⟨_, rfl, p, _, 0, _, rfl, rfl, Evl.ex_t (e3'.trans e4) hp, atI_nat (j := 0) rfl, (a : Int), 1, rfl, rfl, _, rfl, (a : Int) - 1, (x : Int), rfl, rfl, _, rfl, _, ⟨vm, a, b, mirrorF a f, a - 1 - x, y, congrArg (fun z => [vm, V.int z, V.int (y : Int)]) ea, hm, by omega, hyb, by omega, by omega, rfl⟩, fun c3 H5 e5 hc3 => ⟨_, rfl, ?_⟩⟩
      have c3' : ColP K (f x y) H5 c3 := by
        have z : mirrorF a f (a - 1 - x) y = f x y := by
          show f (a - 1 - (a - 1 - x)) y = f x y
          rw [show a - 1 - (a - 1 - x) = x by omega]
        rw [← z]
        exact hc3
      refine ne_col c3' (ColP.mo K _ _ _ _ (Kp.ex (((e2.trans e3).trans e4).trans e5)) hc) ⟨false, rfl, ?_⟩
      exact ⟨_, _, rfl, (e3'.trans e4).trans e5⟩
    · rintro σ' H' ⟨z7, z8, rfl, e⟩
      exact ⟨_, _, _, rfl, e⟩
  · rintro σ' H' ⟨z6, z7, z8, rfl, e⟩
    exact kL sA T n a b f (.ref p) D _ _ _ _ _ _ _ _ _ _ H' (hR.ex e) n9 (hv.ex e) a0 b0 a4 b4 hn done
end
end
end K08
namespace K08
open PySem PySem.Spec PyProof.Rows L2
open Evl (Ex)
section
variable {P : Program} {w : World} {K : PySem.W.Frag} {mg : Str → Option Value} {base : Heap}
section
variable {fa : Addr} {cdv : Value} {A : Around} {outer : List Env} {s : Shared} {H0 : Hp} {E : XK}
theorem law_round (B : Blt mg) (C : Cals P w K mg base) (hr : Room 5 (A.deeper (envOfC "law" (defScope sLaw) s.heap.objs.size fa cdv))) :
    ∃ t, PSs (cxOf CX0 P w K mg base nLaw "law" (defScope sLaw) fa cdv A outer s H0 E).nox lawRound t ∧
      ∀ (sA T : Addr) (n : Nat) (D : Ends) y2 y3 y4 y5 y6 y7 y8 y9 y10 y11 y12 H, Rig K T sA n H → n ≤ 7000 →
        (∀ σ H', LawI K sA T (n + 158) σ H' → D.nx σ H') → t D [some (.ref sA), some (.ref T), y2, y3, y4, y5, y6, y7, y8, y9, y10, y11, y12] H := by
  have hr1 := hr.mono (show 1 ≤ 5 by decide)
  have hr4 := hr.mono (show 4 ≤ 5 by decide)
  obtain ⟨tL, hL, kL⟩ := law_checks (H0 := H0) (outer := outer) (E := E) B C hr
  refine ⟨_, pss_cons (ps_set (i := 3) scLaw.nd rfl (.inl rfl) (pe_op op_add pe_int (pe_cal C.draw hr1 (by rfl) (pa_cons (pv 0) (pa_cons (pv 1) (pa_cons pe_int pa_nil))))))
    (pss_cons (ps_set (i := 4) scLaw.nd rfl (.inl rfl) (pe_cal C.cleared hr1 (by rfl) (pa_cons (pe_cal C.drawn hr4 (by rfl) (pa_cons (pv 0) (pa_cons (pv 1) (pa_cons (pe_op op_add pe_int (pe_cal C.draw hr1 (by rfl) (pa_cons (pv 0) (pa_cons (pv 1) (pa_cons pe_int pa_nil))))) (pa_cons (pv 3) (pa_cons pe_int pa_nil)))))) pa_nil)))
    (pss_cons (ps_set (i := 5) scLaw.nd rfl (.inl rfl) (pe_cal C.cleared hr1 (by rfl) (pa_cons (pe_cal C.drawn hr4 (by rfl) (pa_cons (pv 0) (pa_cons (pv 1) (pa_cons (pe_op op_add pe_int (pe_cal C.draw hr1 (by rfl) (pa_cons (pv 0) (pa_cons (pv 1) (pa_cons pe_int pa_nil))))) (pa_cons (pv 3) (pa_cons pe_int pa_nil)))))) pa_nil)))
      hL)), ?_⟩
  rintro sA T n D y2 y3 y4 y5 y6 y7 y8 y9 y10 y11 y12 H hR n9 done
  refine ⟨_, rfl, _, rfl, sA, T, 4, n, rfl, hR, by omega, by decide, fun d1 H1 k1 R1 d1a d1b => ?_⟩
  obtain ⟨j1, rfl⟩ := Int.eq_ofNat_of_zero_le d1a
  refine ⟨_, _, rfl, rfl, ?_⟩
  refine ⟨_, rfl, _, rfl, _, rfl, _, rfl, sA, T, 4, n + 2, rfl, R1, by omega, by decide, fun d2 H2 k2 R2 d2a d2b => ?_⟩
  obtain ⟨j2, rfl⟩ := Int.eq_ofNat_of_zero_le d2a
  refine ⟨_, _, rfl, rfl, _, rfl, sA, T, n + 4, 1 + j2, 1 + j1, rfl, R2, by omega, by omega, by omega, by omega, by omega, fun v3 f H3 okf h3 k3 R3 => ?_⟩
  refine ⟨_, ⟨_, 1 + j2, 1 + j1, f, rfl, h3, by omega, by omega, by omega, by omega, rfl⟩, fun v4 H4 e4 h4 => ?_⟩
  have R4 := R3.ex e4
  refine ⟨_, rfl, _, rfl, _, rfl, _, rfl, sA, T, 4, n + 4 + 74, rfl, R4, by omega, by decide, fun d5 H5 k5 R5 d5a d5b => ?_⟩
  obtain ⟨j5, rfl⟩ := Int.eq_ofNat_of_zero_le d5a
  refine ⟨_, _, rfl, rfl, _, rfl, sA, T, n + 4 + 74 + 2, 1 + j5, 1 + j1, rfl, R5, by omega, by omega, by omega, by omega, by omega, fun v6 g H6 okg h6 k6 R6 => ?_⟩
  refine ⟨_, ⟨_, 1 + j5, 1 + j1, g, rfl, h6, by omega, by omega, by omega, by omega, rfl⟩, fun v7 H7 e7 h7 => ?_⟩
  have h4' := PicP.mo K _ _ _ _ _ _ ((k5.trans k6).2.trans (Kp.ex e7)) h4
  exact kL sA T (n + 154) (1 + j2) (1 + j5) (1 + j1) _ _ v4 v7 D _ _ _ _ _ _ _ _ _ H7 ((R6.ex e7).le (by omega)) (by omega) h4' h7 (by omega) (by omega) (by omega) (by omega) (by omega) (by omega)
    (fun x y hx hy => clr_norm (okf x y hx hy)) (fun x y hx hy => (clr_norm (okg x y hx hy)).1) (fun σ H' z => done σ H' z)
end
theorem fn_law {f : Addr} {fd : FuncData} (F : Fun K "law" "law" sLaw f fd) (B : Blt mg) (C : Cals P w K mg base) : FnOk P w K mg base CX0 6 f fd ["_law_script"] (spLaw K) := by
  refine F.ok scLaw (fun vs H Q E h => ?_) (fun cdv A outer s H vs Q E hr h => ?_)
  · obtain ⟨a, ns, rfl, _⟩ := h
    rfl
  · obtain ⟨sA, ns, rfl, hs, nl, _, q⟩ := h
    obtain ⟨tR, hR, kR⟩ := law_round (H0 := H) (outer := outer) (E := E) B C hr
    refine ⟨_, pss_cons (ps_set (i := 1) scLaw.nd rfl (.inl rfl) (pe_lst pa_nil))
      (pss_cons (ps_for PassesOwn.never rfl (pi_range1 (by rfl) B.range (pa_cons pe_int pa_nil)) (pg_name (i := 2) scLaw.nd rfl (Or.inl rfl)) hR)
      (pss_one (ps_ret pe_bl))), ?_⟩
    refine ⟨Nat.zero_le _, fun T nT => ?_⟩
    have scr : Scr K T sA (upd H T (.lst [])) := by
      refine ⟨ns, nl, fun H' e => ?_⟩
      rcases hs with (h | ⟨o, h⟩) | h
      · have ne : sA ≠ T := fun z => by rw [z, nT] at h; cases h
        exact .inl (.inl (e _ _ ne (by rw [upd_ne ne]; exact h)))
      · have ne : sA ≠ T := fun z => by rw [z, nT] at h; cases h
        exact .inl (.inr ⟨o, e _ _ ne (by rw [upd_ne ne]; exact h)⟩)
      · exact .inr h
    refine ⟨5, rfl, by decide, by decide, ?_⟩
    refine for_range (lo := 0) (n := (5 : Int).toNat) (fun i σ' H' => LawI K sA T (158 * i) σ' H') ⟨_, _, _, _, _, _, _, _, _, _, _, rfl, scr, [], upd_same, Nat.le_refl _⟩ ?_ ?_
    · rintro i σ' H' hi ⟨y2, y3, y4, y5, y6, y7, y8, y9, y10, y11, y12, rfl, R⟩
      have hi5 : i < 5 := hi
      exact kR sA T (158 * i) _ _ _ _ _ _ _ _ _ _ _ _ H' R (by omega) (fun σ H2 z => z)
    · rintro σ' H' _
      exact q _
end
end K08
namespace K08
open PySem PySem.Spec PyProof.Rows L2
open Evl (Ex)
/-! ### what the top has written -/
section
variable {P : Program} {w : World} {K : PySem.W.Frag} {mg : Str → Option Value} {base h : Heap}
/-- the defs that the law reaches, and the names that it leans on -/
structure Txt (K : PySem.W.Frag) (mg : Str → Option Value) : Prop where
  dis_whole : DefAt K mg "is_whole" sIsWhole
  dis_part : DefAt K mg "is_part" sIsPart
  dis_colour : DefAt K mg "is_colour" sIsColour
  drounded : DefAt K mg "rounded" sRounded
  dmean_colour : DefAt K mg "mean_colour" sMean
  dis_size : DefAt K mg "is_size" sIsSize
  dis_lot : DefAt K mg "is_lot" sIsLot
  dis_picture : DefAt K mg "is_picture" sIsPicture
  drows_of : DefAt K mg "rows_of" sRowsOf
  dof_rows : DefAt K mg "of_rows" sOfRows
  dis_in : DefAt K mg "is_in" sIsIn
  dcell_at : DefAt K mg "cell_at" sCellAt
  dcut_out : DefAt K mg "cut_out" sCutOut
  dturned : DefAt K mg "turned" sTurned
  dmirrored : DefAt K mg "mirrored" sMirrored
  dmust_be_small : DefAt K mg "must_be_small" sSmall
  dbeside : DefAt K mg "beside" sBeside
  dstacked : DefAt K mg "stacked" sStacked
  dgrown : DefAt K mg "grown" sGrown
  dshrunk : DefAt K mg "shrunk" sShrunk
  dsized : DefAt K mg "sized" sSized
  darea_from : DefAt K mg "area_from" sAreaFrom
  dareas : DefAt K mg "areas" sAreas
  dlaw_draw : DefAt K mg "_law_draw" sDraw
  dlaw_pick : DefAt K mg "_law_pick" sPick
  dlaw_drawn_colour : DefAt K mg "_law_drawn_colour" sDrawnColour
  dlaw_drawn_picture : DefAt K mg "_law_drawn_picture" sDrawnPicture
  dlaw_cleared : DefAt K mg "_law_cleared" sCleared
  dlaw_thrice : DefAt K mg "_law_thrice" sThrice
  dlaw_pair_holds : DefAt K mg "_law_pair_holds" sPair
  blt : Blt mg
  most : ∃ t, mg "MOST" = some (.int 99 t)
  clear : ∃ cA, mg "CLEAR" = some (.ref cA) ∧ ∀ H, SqT K H cA [.int 0, .int 0, .int 0, .int 0]
theorem def_mk {x : Str} {st : Stmt} {f : Addr} {od an : Option Addr} {sl : Array (Option Value)} {oc kV dc pm cd ct : Value} (X : K.In h) (G : h.Ns mainGlobals mg)
    (a : PySem.W.nsIn K mainGlobals x = some (some (.ref f))) (l : K.lookup f = some ⟨oc, od, .func (PySem.W.fnOf x x (defArgs st) (defBody st) (defScope st) .none kV dc pm an cd ct), sl⟩) (c : PySem.W.codeIn K cd x = true) (k : PySem.W.keepIn K (.ref f) = true) : DefAt K mg x st :=
  ⟨f, _, fun_mk (st := st) l c k, PySem.W.mg_of X G a⟩
theorem most_mk {t : Tok} (X : K.In h) (G : h.Ns mainGlobals mg) (a : PySem.W.nsIn K mainGlobals "MOST" = some (some (.int 99 t))) : ∃ t, mg "MOST" = some (.int 99 t) := ⟨t, PySem.W.mg_of X G a⟩
theorem clear_mk {cA : Addr} {od : Option Addr} {sl : Array (Option Value)} {n : Nat} {t0 t1 t2 t3 : Tok} (X : K.In h) (G : h.Ns mainGlobals mg)
    (a : PySem.W.nsIn K mainGlobals "CLEAR" = some (some (.ref cA))) (l : K.lookup cA = some ⟨.type "tuple", od, .seq #[.int 0 t0, .int 0 t1, .int 0 t2, .int 0 t3] n, sl⟩) :
    ∃ cA, mg "CLEAR" = some (.ref cA) ∧ ∀ H, SqT K H cA [.int 0, .int 0, .int 0, .int 0] :=
  ⟨cA, PySem.W.mg_of X G a, fun H => .inr ⟨_, _, n, l, rfl, rfl, by show 4 ≤ sizeLine; decide, .cons ⟨_, rfl⟩ (.cons ⟨_, rfl⟩ (.cons ⟨_, rfl⟩ (.cons ⟨_, rfl⟩ .nil)))⟩⟩
theorem Txt.cals (T : Txt K mg) : Cals P w K mg base := by
  have B := T.blt
  have c_whole := cal_whole (P := P) (w := w) (base := base) T.dis_whole B
  have c_part := cal_part (P := P) (w := w) (base := base) T.dis_part c_whole
  have c_size := cal_size (P := P) (w := w) (base := base) T.dis_size T.most c_whole
  have c_colour := cal_colour (P := P) (w := w) (base := base) T.dis_colour B c_part
  have c_lot := cal_lot (P := P) (w := w) (base := base) T.dis_lot B c_size
  have c_picture := cal_picture (P := P) (w := w) (base := base) T.dis_picture B c_lot c_colour
  have c_rows := cal_rowsof (P := P) (w := w) (base := base) T.drows_of B
  have c_ofrows := cal_ofrows (P := P) (w := w) (base := base) T.dof_rows B
  have c_isin := cal_isin (P := P) (w := w) (base := base) T.dis_in
  have c_cell := cal_cellat (P := P) (w := w) (base := base) T.dcell_at c_isin
  have c_small := cal_small (P := P) (w := w) (base := base) T.dmust_be_small T.most
  have c_turned := cal_turned (P := P) (w := w) (base := base) T.dturned B
  have c_mirrored := cal_mirrored (P := P) (w := w) (base := base) T.dmirrored c_rows c_ofrows
  have c_cut := cal_cutout (P := P) (w := w) (base := base) T.dcut_out c_isin c_rows c_ofrows
  have c_beside := cal_beside (P := P) (w := w) (base := base) T.dbeside B c_small c_rows c_ofrows
  have c_stacked := cal_stacked (P := P) (w := w) (base := base) T.dstacked c_small c_rows c_ofrows
  have c_grown := cal_grown (P := P) (w := w) (base := base) T.dgrown B c_small c_rows c_ofrows
  have c_sized := cal_sized (P := P) (w := w) (base := base) T.dsized B c_rows c_ofrows
  have c_rounded := cal_rounded (P := P) (w := w) (base := base) T.drounded
  have c_mean := cal_mean (P := P) (w := w) (base := base) T.dmean_colour B T.clear c_rounded
  have c_shrunk := cal_shrunk (P := P) (w := w) (base := base) T.dshrunk B c_mean c_rows c_ofrows
  have c_area := cal_areafrom (P := P) (w := w) (base := base) T.darea_from B c_isin c_cell
  have c_areas := cal_areas (P := P) (w := w) (base := base) T.dareas B c_area
  have c_draw := cal_draw (P := P) (w := w) (base := base) T.dlaw_draw B
  have c_pick := cal_pick (P := P) (w := w) (base := base) T.dlaw_pick B c_draw
  have c_dcol := cal_drawncolour (P := P) (w := w) (base := base) T.dlaw_drawn_colour B c_draw c_pick
  have c_dpic := cal_drawnpicture (P := P) (w := w) (base := base) T.dlaw_drawn_picture B c_dcol c_pick
  have c_cleared := cal_cleared (P := P) (w := w) (base := base) T.dlaw_cleared B
  have c_thrice := cal_thrice (P := P) (w := w) (base := base) T.dlaw_thrice c_turned
  have c_pair := cal_pair (P := P) (w := w) (base := base) T.dlaw_pair_holds c_beside c_stacked c_turned c_cut c_picture
  exact ⟨c_draw, c_turned, c_mirrored, c_grown, c_shrunk, c_sized, c_areas, c_thrice, c_picture, c_pair, c_cell, c_cleared, c_dpic⟩
theorem all_mk {l : PySem.W.OpenLaw} {fa f : Addr} (X : K.In h) (G : h.Ns mainGlobals mg) (hfa : mg "law" = some (.ref fa)) (T : Txt K mg)
    {od an : Option Addr} {sl : Array (Option Value)} {oc kV dc pm cd ct : Value}
    (a : PySem.W.nsIn K mainGlobals "law" = some (some (.ref f))) (lk : K.lookup f = some ⟨oc, od, .func (PySem.W.fnOf "law" "law" (defArgs sLaw) (defBody sLaw) (defScope sLaw) .none kV dc pm an cd ct), sl⟩) (c : PySem.W.codeIn K cd "law" = true) (k : PySem.W.keepIn K (.ref f) = true) :
    ∃ fd : FuncData, (∀ (s : Shared) (v : Value), BindsTo s fd ⟨[v], []⟩ [("_law_script", v)]) ∧ ∀ base : Heap, K.In base → base.Ns mainGlobals mg → FnOk l.prog w K mg base CX0 6 fa fd ["_law_script"] (spLaw K) := by
  have e := hfa.symm.trans (PySem.W.mg_of X G a)
  cases e
  exact ⟨PySem.W.fnOf "law" "law" (defArgs sLaw) (defBody sLaw) (defScope sLaw) .none kV dc pm an cd ct, fun s v => .of_eq rfl, fun base _ _ => fn_law (fun_mk (st := sLaw) lk c k) T.blt T.cals⟩
end
end K08
open PySem PySem.W PyProof.Rows in
set_option maxRecDepth 100000 in
set_option maxHeartbeats 0 in
theorem PySem.Challenge.cw_paintyard_k08_whole_turns_come_back_holds : PySem.Challenge.rw_paintyard_k08_whole_turns_come_back.Holds := by
  w_on; o_law; k_head; (case hw => w_witness2)
  k_fill
  refine L2.walk_ofB (l := PySem.Challenge.rw_paintyard_k08_whole_turns_come_back) (n := 63) (k := 6) (x := "_law_script") (CX := fun _ => L2.CX0) (sp := fun w => K08.spLaw _) rfl (by decide) rfl ⟨rfl, by decide, by decide⟩ (fun w h Y => PySem.W.kIn_of Y) ?F (fun _ _ a ns hl hb _ hS => ⟨a, ns, rfl, hS, hl, hb, fun _ => rfl⟩) (fun _ _ _ _ _ h => h)
  case F =>
    intro w mg fa h KX G hmg
    refine' K08.all_mk KX G hmg ?T ?a ?l ?c ?k
    (case a => k_is)
    (case l => k_is)
    (case c => k_is)
    (case k => k_is)
    case T =>
      refine ⟨?dis_whole, ?dis_part, ?dis_colour, ?drounded, ?dmean_colour, ?dis_size, ?dis_lot, ?dis_picture, ?drows_of, ?dof_rows, ?dis_in, ?dcell_at, ?dcut_out, ?dturned, ?dmirrored, ?dmust_be_small, ?dbeside, ?dstacked, ?dgrown, ?dshrunk, ?dsized, ?darea_from, ?dareas, ?dlaw_draw, ?dlaw_pick, ?dlaw_drawn_colour, ?dlaw_drawn_picture, ?dlaw_cleared, ?dlaw_thrice, ?dlaw_pair_holds, ⟨?blen, ?brange, ?btuple, ?bisinstance, ?bint, ?bbool, ?bzip, ?bmax, ?bsum, ?babs, ?ball⟩, ?most, ?clear⟩
      case dis_whole =>
        refine' K08.def_mk KX G ?a ?l ?c ?k
        (case a => k_is); (case l => k_is); (case c => k_is); (case k => k_is)
      case dis_part =>
        refine' K08.def_mk KX G ?a ?l ?c ?k
        (case a => k_is); (case l => k_is); (case c => k_is); (case k => k_is)
      case dis_colour =>
        refine' K08.def_mk KX G ?a ?l ?c ?k
        (case a => k_is); (case l => k_is); (case c => k_is); (case k => k_is)
      case drounded =>
        refine' K08.def_mk KX G ?a ?l ?c ?k
        (case a => k_is); (case l => k_is); (case c => k_is); (case k => k_is)
      case dmean_colour =>
        refine' K08.def_mk KX G ?a ?l ?c ?k
        (case a => k_is); (case l => k_is); (case c => k_is); (case k => k_is)
      case dis_size =>
        refine' K08.def_mk KX G ?a ?l ?c ?k
        (case a => k_is); (case l => k_is); (case c => k_is); (case k => k_is)
      case dis_lot =>
        refine' K08.def_mk KX G ?a ?l ?c ?k
        (case a => k_is); (case l => k_is); (case c => k_is); (case k => k_is)
      case dis_picture =>
        refine' K08.def_mk KX G ?a ?l ?c ?k
        (case a => k_is); (case l => k_is); (case c => k_is); (case k => k_is)
      case drows_of =>
        refine' K08.def_mk KX G ?a ?l ?c ?k
        (case a => k_is); (case l => k_is); (case c => k_is); (case k => k_is)
      case dof_rows =>
        refine' K08.def_mk KX G ?a ?l ?c ?k
        (case a => k_is); (case l => k_is); (case c => k_is); (case k => k_is)
      case dis_in =>
        refine' K08.def_mk KX G ?a ?l ?c ?k
        (case a => k_is); (case l => k_is); (case c => k_is); (case k => k_is)
      case dcell_at =>
        refine' K08.def_mk KX G ?a ?l ?c ?k
        (case a => k_is); (case l => k_is); (case c => k_is); (case k => k_is)
      case dcut_out =>
        refine' K08.def_mk KX G ?a ?l ?c ?k
        (case a => k_is); (case l => k_is); (case c => k_is); (case k => k_is)
      case dturned =>
        refine' K08.def_mk KX G ?a ?l ?c ?k
        (case a => k_is); (case l => k_is); (case c => k_is); (case k => k_is)
      case dmirrored =>
        refine' K08.def_mk KX G ?a ?l ?c ?k
        (case a => k_is); (case l => k_is); (case c => k_is); (case k => k_is)
      case dmust_be_small =>
        refine' K08.def_mk KX G ?a ?l ?c ?k
        (case a => k_is); (case l => k_is); (case c => k_is); (case k => k_is)
      case dbeside =>
        refine' K08.def_mk KX G ?a ?l ?c ?k
        (case a => k_is); (case l => k_is); (case c => k_is); (case k => k_is)
      case dstacked =>
        refine' K08.def_mk KX G ?a ?l ?c ?k
        (case a => k_is); (case l => k_is); (case c => k_is); (case k => k_is)
      case dgrown =>
        refine' K08.def_mk KX G ?a ?l ?c ?k
        (case a => k_is); (case l => k_is); (case c => k_is); (case k => k_is)
      case dshrunk =>
        refine' K08.def_mk KX G ?a ?l ?c ?k
        (case a => k_is); (case l => k_is); (case c => k_is); (case k => k_is)
      case dsized =>
        refine' K08.def_mk KX G ?a ?l ?c ?k
        (case a => k_is); (case l => k_is); (case c => k_is); (case k => k_is)
      case darea_from =>
        refine' K08.def_mk KX G ?a ?l ?c ?k
        (case a => k_is); (case l => k_is); (case c => k_is); (case k => k_is)
      case dareas =>
        refine' K08.def_mk KX G ?a ?l ?c ?k
        (case a => k_is); (case l => k_is); (case c => k_is); (case k => k_is)
      case dlaw_draw =>
        refine' K08.def_mk KX G ?a ?l ?c ?k
        (case a => k_is); (case l => k_is); (case c => k_is); (case k => k_is)
      case dlaw_pick =>
        refine' K08.def_mk KX G ?a ?l ?c ?k
        (case a => k_is); (case l => k_is); (case c => k_is); (case k => k_is)
      case dlaw_drawn_colour =>
        refine' K08.def_mk KX G ?a ?l ?c ?k
        (case a => k_is); (case l => k_is); (case c => k_is); (case k => k_is)
      case dlaw_drawn_picture =>
        refine' K08.def_mk KX G ?a ?l ?c ?k
        (case a => k_is); (case l => k_is); (case c => k_is); (case k => k_is)
      case dlaw_cleared =>
        refine' K08.def_mk KX G ?a ?l ?c ?k
        (case a => k_is); (case l => k_is); (case c => k_is); (case k => k_is)
      case dlaw_thrice =>
        refine' K08.def_mk KX G ?a ?l ?c ?k
        (case a => k_is); (case l => k_is); (case c => k_is); (case k => k_is)
      case dlaw_pair_holds =>
        refine' K08.def_mk KX G ?a ?l ?c ?k
        (case a => k_is); (case l => k_is); (case c => k_is); (case k => k_is)
      (case blen => exact PySem.W.mg_none_of KX G (by k_is))
      (case brange => exact PySem.W.mg_none_of KX G (by k_is))
      (case btuple => exact PySem.W.mg_none_of KX G (by k_is))
      (case bisinstance => exact PySem.W.mg_none_of KX G (by k_is))
      (case bint => exact PySem.W.mg_none_of KX G (by k_is))
      (case bbool => exact PySem.W.mg_none_of KX G (by k_is))
      (case bzip => exact PySem.W.mg_none_of KX G (by k_is))
      (case bmax => exact PySem.W.mg_none_of KX G (by k_is))
      (case bsum => exact PySem.W.mg_none_of KX G (by k_is))
      (case babs => exact PySem.W.mg_none_of KX G (by k_is))
      (case ball => exact PySem.W.mg_none_of KX G (by k_is))
      case most =>
        refine' K08.most_mk KX G ?a
        (case a => k_is)
      case clear =>
        refine' K08.clear_mk KX G ?a ?l
        (case a => k_is); (case l => k_is)
