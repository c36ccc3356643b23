import PyProof.Rows.All
import Wide.All
import OpenK.AllK
import Wide.FinOn
import HandS.ForMost
import HandS.Star
import HandS.Conv
import HandS.IsInst
import HandS.Wide
import HandS.TupAny
import HandS.TupMul
import HandS.SortInts
import HandS.RaiseMore
import HandS.Style
import HandS.Flow
import HandS.Zip
import HandS.RevRange
import HandS.RevTup
import KE.GoesMore
import KE.GoesEnum
import KE.DataFind
import PyProof.Draws
import PyProof.TupleOfSeq
import KE.KTupSum
import HandS.SortOrd
import HandS.Ends
import PyProof.ReprLen
import PyProof.FitsInt
import PyProof.P3Eq
import PySem.Challenge.RW_themomentitturned_k80_whole_orders_there
set_option Elab.async false
set_option linter.all false
set_option maxRecDepth 100000
set_option maxHeartbeats 2000000
/-! DLo: tuples as the very objects (so their methods can be called): displays, +, slices, tuple(list), enumerate. -/
namespace DL
open PySem PySem.Spec PyProof.Rows L2
/-- a plain tuple object -/
def OT (o : Obj) : Prop := o.cls = .type "tuple" ∧ o.dict = none
theorem ot_new {us : Array Value} : OT { cls := .type "tuple", data := .seq us } := ⟨rfl, rfl⟩
def frzT (us : List Value) (xs : List V) : HO := .frz { cls := .type "tuple", data := .seq us.toArray } (.tup xs)
theorem okT {P : Program} {w : World} {H : Hp} {h : Heap} {p : Addr} {us : List Value} {xs : List V} (hz : xs.length ≤ sizeLine) (r : Vals xs us) (e : h.get? p = some { cls := .type "tuple", data := .seq us.toArray }) : ObjOk P w H h p (frzT us xs) :=
  ⟨e, hz, us, r, ⟨_, e, rfl, _, rfl⟩⟩
/-- a tuple of the heap as it is read -/
def TQ (K : PySem.W.Frag) (H : Hp) (a : Addr) (xs : List V) : Prop :=
  ∃ o, OT o ∧ (H a = some (.frz o (.tup xs)) ∨ (K.lookup a = some o ∧ ∃ (its : Array Value) (n : Nat), o.data = .seq its n ∧ its.size ≤ sizeLine ∧ Vals xs its.toList))
theorem TQ.sq {K : PySem.W.Frag} {H : Hp} {a : Addr} {xs : List V} (h : TQ K H a xs) : SqT K H a xs := by
  obtain ⟨o, ho, q | ⟨q, its, n, h1, h2, h3⟩⟩ := h
  · exact .inl (.inr ⟨o, q⟩)
  · exact .inr ⟨o, its, n, q, ho.1, h1, h2, h3⟩
theorem TQ.of {K : PySem.W.Frag} {H : Hp} {a : Addr} {xs : List V} {o : Obj} (ho : OT o) : TQ K (upd H a (.frz o (.tup xs))) a xs := ⟨o, ho, .inl upd_same⟩
theorem TQ.same {K : PySem.W.Frag} {H G : Hp} {a : Addr} {xs : List V} (s : Same H G) (h : TQ K H a xs) : TQ K G a xs := by
  obtain ⟨o, ho, q | q⟩ := h
  · exact ⟨o, ho, .inl (s _ _ q)⟩
  · exact ⟨o, ho, .inr q⟩
/-- what the object is -/
theorem TQ.obj {X : Cx} {pins : List (Addr × Obj)} {σ : L2.St} {H : Hp} {s : Shared} {a : Addr} {xs : List V} (I : L2.Inv X pins σ H s) (h : TQ X.K H a xs) : ∃ o its n, s.heap.get? a = some o ∧ OT o ∧ o.data = .seq its n ∧ its.size ≤ sizeLine ∧ Vals xs its.toList := by
  obtain ⟨o, ho, q | ⟨q, its, n, h1, h2, h3⟩⟩ := h
  · obtain ⟨e, hz, us, r, o2, e2, c2, n, d2⟩ := I.hok a _ q
    rw [e] at e2; cases e2
    exact ⟨o, us.toArray, n, e, ho, d2, by have := r.length; simp; omega, by simpa using r⟩
  · exact ⟨o, its, n, I.kIn _ _ q, ho, h1, h2, h3⟩
abbrev LayT (H : Hp) (xs : List V) (Q : VK) : Prop := ∀ p o, H p = none → OT o → Q (.ref p) (upd H p (.frz o (.tup xs)))
theorem layT {X : Cx} {pins : List (Addr × Obj)} {σ : L2.St} {H : Hp} {s : Shared} {h' : Heap} {p : Addr} {us : List Value} {xs : List V} {Q : VK} {t' : Nat} (I : L2.Inv X pins σ H s) (k : ∀ b u, s.heap.get? b = some u → h'.get? b = some u) (hp : s.heap.objs.size ≤ p)
    (hz : xs.length ≤ sizeLine) (r : Vals xs us) (e : h'.get? p = some { cls := .type "tuple", data := .seq us.toArray }) (q : LayT H xs Q) : EP X pins σ Q (.ref p) { s with heap := h', toks := t' } :=
  ⟨.ref p, _, I.laid (t' := t') k hp (okT hz r e), rfl, q p _ (I.hok.fresh hp) ot_new⟩
section
variable {X : Cx}
def tTupF (t : TA) : TE := fun σ H Q => t σ H fun xs H1 => xs.length ≤ sizeLine ∧ LayT H1 xs Q
theorem pe_tupF {es : List Expr} {t : TA} {pos : Pos} {x1} (h : PA X es t) : PE X (.Tuple es x1 pos) (tTupF t) := by
  refine ⟨fun pins s σ H Q I hq => ?_⟩
  refine wpAny_Tuple_spliced (thn (h.run pos pins s σ H _ I hq) fun us s1 ⟨xs, H1, I1, r, z, q⟩ => ⟨by rw [← r.length]; exact z, ?_⟩)
  exact layT (t' := s1.toks) I1 (fun b u e => Heap.get?_push_of_some _ e) (Nat.le_refl _) z r (Heap.get?_push_size _ rfl) q
/-- t + u -/
def rCatF (K : PySem.W.Frag) : R2 := fun x y H Q => ∃ a b xs ys, x = .ref a ∧ y = .ref b ∧ SqT K H a xs ∧ SqT K H b ys ∧ xs.length + ys.length ≤ sizeLine ∧
  (xs = [] → Q (.ref b) H) ∧ (xs ≠ [] → ys = [] → Q (.ref a) H) ∧ (xs ≠ [] → ys ≠ [] → LayT H (xs ++ ys) Q)
theorem op_catF : OpR X (binaryOp .Add) (rCatF X.K) := by
  intro pins s σ H x y v u Q I rx ry h
  obtain ⟨a, b, xs, ys, rfl, rfl, ha, hb, hz, q0, q1, q2⟩ := h
  cases rx
  cases ry
  obtain ⟨its, r1, p1, _⟩ := I.tuple ha
  obtain ⟨its2, r2, p2, _⟩ := I.tuple hb
  by_cases hx : xs = []
  · subst hx
    cases r1
    exact cat_tup0 p1 p2 ⟨.ref b, H, I, rfl, q0 rfl⟩
  · refine HT.cat_tup p1 p2 (fun z => hx (r1.nil_iff.mp z)) (fun z => ⟨.ref a, H, I, rfl, q1 hx (r2.nil_iff.mp z)⟩) (fun z => ?_) (by rw [← r1.length, ← r2.length]; exact hz)
    exact layT (t' := s.toks) I (fun b ob q => Heap.get?_push_of_some _ q) (Nat.le_refl _) (by rw [List.length_append]; exact hz) (r1.append r2) (Heap.get?_push_size _ rfl) (q2 hx (fun w => z (r2.nil_iff.mpr w)))
/-- t[lo:hi] -/
def rSlF (K : PySem.W.Frag) : V → Option Int → Option Int → Hp → VK → Prop := fun x lo hi H Q => ∃ a xs, x = .ref a ∧ SqT K H a xs ∧
  (HT.sIx xs.length 0 lo = 0 ∧ HT.sIx xs.length xs.length hi = xs.length → Q (.ref a) H) ∧ (¬ (HT.sIx xs.length 0 lo = 0 ∧ HT.sIx xs.length xs.length hi = xs.length) → LayT H (cutV xs lo hi) Q)
theorem sl_tupF : SlR X (rSlF X.K) := by
  intro pins s σ H x v vl vu lo hi sl Q I rx hs pl pu h
  obtain ⟨a, xs, rfl, hx, q1, q2⟩ := h
  cases rx
  obtain ⟨its, r, ht, hz⟩ := I.tuple hx
  have hlen : its.toArray.size = xs.length := by rw [List.size_toArray]; exact r.length.symm
  refine ⟨"tuple", _, PyProof.Rows.slot_tuple_getitem.lookup, ht.typeIs, ?_⟩
  by_cases hw : HT.sIx xs.length 0 lo = 0 ∧ HT.sIx xs.length xs.length hi = xs.length
  · exact getItem_tuple_whole ht hs pl pu (by rw [hlen]; exact hw) ⟨.ref a, H, I, rfl, q1 hw⟩
  · refine HT.getItem_tuple_cut ht hs pl pu (by rw [hlen]; exact hw) ?_ (by rw [hlen]; exact hz)
    rw [hlen]
    exact layT (t' := s.toks) I (fun b ob q => Heap.get?_push_of_some _ q) (Nat.le_refl _) (Nat.le_trans (cutV_length xs lo hi) hz) ((r.drop (HT.sIx xs.length 0 lo)).take (HT.sIx xs.length xs.length hi - HT.sIx xs.length 0 lo)) (Heap.get?_push_size _ rfl) (q2 hw)
/-- tuple(xs) -/
def rTupOf (K : PySem.W.Frag) : List V → Hp → VK → Prop := fun xs H Q => ∃ p ys, xs = [.ref p] ∧ ((SqL K H p ys ∧ LayT H ys Q) ∨ (SqT K H p ys ∧ Q (.ref p) H))
theorem call_tupF : CallR X (.type "tuple") (rTupOf X.K) := by
  intro pins s σ H xs us Q I r h
  obtain ⟨p, ys, rfl, h⟩ := h
  obtain ⟨u, rfl, rx⟩ := vals1 r
  cases rx
  rcases h with ⟨hq, q⟩ | ⟨hq, q⟩
  · obtain ⟨its, r', pl, hz⟩ := I.list hq
    have hlen := r'.length
    refine call_tuple_list pl.isList (fun h' kp => ?_) (by simp only [List.size_toArray] <;> omega)
    have I1 : Inv X pins σ H { s with heap := h' } := I.kept (t' := s.toks) kp
    exact layT (s := { s with heap := h' }) (t' := s.toks) I1 (fun b o e => Heap.get?_push_of_some _ e) (Nat.le_refl _) hz r' (Heap.get?_push_size _ rfl) q
  · obtain ⟨its, r', pl, hz⟩ := I.tuple hq
    exact call_tuple_same pl ⟨.ref p, H, I, rfl, q⟩
end
/-! ### enumerate(tuple) -/
theorem newEnumT (l : Addr) (items : Array Value) :
    Meets (Builtin.«enumerate.__new__» ⟨[.type "enumerate", .ref l], []⟩) (fun _ R s => s.heap.IsTuple l items ∧
      R (.ok (.ret (.ref (s.heap.push { cls := .type "tuple_iterator", data := .fields #[.ref l, .int 0 0] }).objs.size)))
        { s with heap := (s.heap.push { cls := .type "tuple_iterator", data := .fields #[.ref l, .int 0 0] }).push { cls := .type "enumerate", data := .fields #[.none, .bool false, .ref s.heap.objs.size, rawInt 0, .none, .none] } }) :=
  .of_wp fun prog w A R s h => by
    obtain ⟨hp, g, d, tk, os⟩ := s; obtain ⟨hl, h⟩ := h
    have hsub := sub_enumerate
    have q1 : ∀ {A' : Around} {E : Value → Shared → Prop} {Q : Value → Shared → Prop}, Q (.ref hp.objs.size) ⟨hp.push { cls := .type "tuple_iterator", data := .fields #[.ref l, .int 0 0] }, g, d, tk, os⟩ → wpAny (model prog w) A' (pyIter (.ref l)) Q E ⟨hp, g, d, tk, os⟩ :=
      fun q => wpAny_pyIter_tuple (s := ⟨hp, g, d, tk, os⟩) hl q
    wp_walk using q1
    refine wpAny_stack_any fun st => wpAny_pure ?_
    split
    · rename_i c _ _ _ _ _
      cases (c == Value.type "enumerate")
      · wp_walk using q1
        exact ⟨_, rfl, h⟩
      · wp_walk using q1
        exact ⟨_, rfl, h⟩
    · wp_walk using q1
      exact ⟨_, rfl, h⟩
section
variable {prog : Program} {w : World} {A : Around} {E : Value → Shared → Prop} {s : Shared}
theorem callEnumT {l : Addr} {items : Array Value} {Q : Value → Shared → Prop} (hL : s.heap.IsTuple l items)
    (h : ∀ h', IsEnum h' (s.heap.objs.size + 1) s.heap.objs.size 0 .none → h'.IsTupleIter s.heap.objs.size l 0 → h'.objs.size = s.heap.objs.size + 2 →
      (∀ b o, s.heap.get? b = some o → h'.get? b = some o) → Q (.ref (s.heap.objs.size + 1)) { s with heap := h' }) :
    wpAny (model prog w) A (call (.type "enumerate") [.ref l]) Q E s := by
  refine callType_new F.called_enumerate (by decide) (F.typeCall_enumerate_1 _) (F.newCall_enumerate_1 _) (fun obj => F.args_object_init_2 obj _) F.entry_enumerate_new
    (newEnumT l items) ⟨hL, ?_⟩
  have hz : (s.heap.push { cls := .type "tuple_iterator", data := .fields #[.ref l, .int 0 0] }).objs.size = s.heap.objs.size + 1 := Heap.size_push ..
  show _ ∧ _
  rw [hz]
  have he : IsEnum ((s.heap.push { cls := .type "tuple_iterator", data := .fields #[.ref l, .int 0 0] }).push
      { cls := .type "enumerate", data := .fields #[.none, .bool false, .ref s.heap.objs.size, rawInt 0, .none, .none] }) (s.heap.objs.size + 1) s.heap.objs.size 0 .none := by
    have := Heap.get?_push_size (s.heap.push { cls := .type "tuple_iterator", data := .fields #[.ref l, .int 0 0] })
      (o := { cls := .type "enumerate", data := .fields #[.none, .bool false, .ref s.heap.objs.size, rawInt 0, .none, .none] }) rfl
    rw [hz] at this; exact this
  exact ⟨⟨_, he, rfl⟩, h _ he ⟨_, Heap.get?_push_of_some _ (Heap.get?_push_size _ rfl), rfl, rfl⟩ (by rw [Heap.size_push, hz]) fun b o x => Heap.get?_push_of_some _ (Heap.get?_push_of_some _ x)⟩
end
/-- the items of a list or a tuple, each in a new pair -/
def IteF (S : Hp → List V → Prop) : It :=
  ⟨fun i H => ∃ (xs : List V) (x : V), S H xs ∧ xs[i]? = some x, fun i H v H' => ∃ T x o, v = .ref T ∧ H T = none ∧ OT o ∧ H' = upd H T (.frz o (.tup [.int (i : Nat), x])) ∧ ∀ xs, S H xs → xs[i]? = some x, fun i H => ∃ xs : List V, S H xs ∧ xs.length ≤ i⟩
theorem turnEnumF {P : Program} {w : World} {K : PySem.W.Frag} {elts : List Expr} {kk : Nat} {tpos : Pos} (a e it : Addr) (hne : e ≠ it) :
    Turn P w K (.Tuple elts kk tpos) (IteF fun H xs => SqT K H a xs) [e, it] e (fun i h => (∃ old, IsEnum h e it ((i : Nat) : Int) old) ∧ h.IsTupleIter it a i) where
  mem := by simp
  obj := fun i h st b hb => by
    obtain ⟨⟨old, he⟩, ⟨o, ho, hc, hd⟩⟩ := st
    have e' : b = e ∨ b = it := by simpa using hb
    rcases e' with z | z
    · rw [z]; exact ⟨_, he, fun v q => nomatch q⟩
    · rw [z]; exact ⟨o, ho, fun v q => by rw [hd] at q; cases q⟩
  keep := fun i h h' st k => let ⟨⟨old, he⟩, hi⟩ := st; ⟨⟨old, k e (by simp) _ he⟩, hi.at fun o q => k it (by simp) o q⟩
  item := by
    intro X hP hw hK hc i pins s σ H E I hf st hg
    subst hP hw hK
    obtain ⟨⟨old, he⟩, hit⟩ := st
    obtain ⟨xs, x, hq, hx⟩ := hg
    obtain ⟨its, rv, p, hz⟩ := I.tuple hq
    obtain ⟨u, hu, ru⟩ := rv.get hx
    have hel : e < s.heap.objs.size := Heap.lt_size he
    have hil : it < s.heap.objs.size := by obtain ⟨_, q, _⟩ := hit; exact Heap.lt_size q
    have ht : s.heap.IsTuple a its.toArray := p
    have hai : a ≠ it := fun z => by
      subst z
      obtain ⟨o1, q1, c1, _⟩ := hit
      obtain ⟨o2, q2, c2, _⟩ := ht
      rw [q1] at q2; cases q2
      rw [c1] at c2
      exact absurd (Value.type.inj c2) (by decide)
    have hae : e ∉ [it, a] := fun z => by
      have z' : e = it ∨ e = a := by simpa using z
      rcases z' with z | z
      · exact hne z
      · subst z
        obtain ⟨o2, q2, c2, _⟩ := ht
        have h9 := he.symm.trans q2
        cases h9
        exact absurd (Value.type.inj c2) (by decide)
    have hiL : i < its.toArray.size := by
      have z := (List.getElem?_eq_some_iff.mp hu).1
      simpa using z
    refine wpAny_pyNext_enum_itemD (Draws.tuple (show X.A.in1.handled = none from I.ok.hd hc) it a hai its.toArray) he ⟨hit, ht⟩ hiL hne hae fun v h' tk hv ho hst hT hsz hk => ?_
    have ev : v = u := by
      have z : its.toArray[i]? = some u := by simpa using hu
      rw [z] at hv; exact (Option.some.inj hv).symm
    subst ev
    refine ⟨_, rfl, wpAny_letOwnedTupleGo_enum (s := { s with heap := h', toks := tk + 1 }) ho fun h'' he' sb => ?_⟩
    have hT2 : h''.get? s.heap.objs.size = some { cls := .type "tuple", data := .seq [.int i tk, v].toArray } := (sb.2 _ (Nat.ne_of_gt hel)).trans hT
    have I1 : Inv X pins σ (upd H s.heap.objs.size (frzT [.int i tk, v] [.int (i : Nat), x])) { s with heap := h'', toks := tk + 1 } :=
      I.turnedNew (ch := [e, it]) (fun b ob hb q => (sb.2 b (fun z => hb (by simp [z]))).trans (hk b ob (fun z => hb (by simp [z])) (fun z => hb (by simp [z])) q)) hf (Nat.le_refl _) (okT (by show 2 ≤ sizeLine; decide) (.cons ⟨_, rfl⟩ (.cons ru .nil)) hT2)
    refine ⟨.ref s.heap.objs.size, _, I1, rfl, ⟨_, x, _, rfl, I.hok.fresh (Nat.le_refl _), ot_new, rfl, fun ys hy => by rw [I.tuple_inj hy hq]; exact hx⟩, ⟨⟨v, ?_⟩, hst.1.at fun o q => (sb.2 it (Ne.symm hne)).trans q⟩, fun b hb => ?_⟩
    · have e1 : ((i + 1 : Nat) : Int) = (i : Int) + 1 := by omega
      rw [e1]; exact he'
    · have hb' : b < s.heap.objs.size := by
        have e' : b = e ∨ b = it := by simpa using hb
        rcases e' with z | z
        · rw [z]; exact hel
        · rw [z]; exact hil
      rw [upd_ne (Nat.ne_of_lt hb')]
      exact (hf b hb).1
  done := by
    intro X hP hw hK hc i pins s σ H E I hf st hg
    subst hP hw hK
    obtain ⟨⟨old, he⟩, hit⟩ := st
    obtain ⟨xs, hq, hx⟩ := hg
    obtain ⟨its, rv, p, hz⟩ := I.tuple hq
    obtain ⟨f0, f1, f2, f3, f4, f5⟩ := hf it (by simp)
    have hl := rv.length
    have hT : s.TypeIs (.ref e) "enumerate" := ⟨_, he, rfl⟩
    unfold pyNext
    refine wpAny_bind (wpAny_attempt (wpAny_callSpecial?_slot (name := Str.ofString "__next__") hT F.slot_enumerate_next
      (wpAny_call_entry F.slot_enumerate_next hT F.entry_enumerate_next ?_ (F.args_enumerate_next_1 _))))
    show wpAny _ _ (field (.ref e) 2 >>= _) _ _ _
    refine wpAny_bind (wpAny_field he rfl (x := .ref it) rfl ?_)
    refine wpAny_bind (wpAny_nextOf_tuple_end (A := X.A.in1) (I.ok.hd hc) hit (show s.heap.IsTuple a its.toArray from p) (by simp; omega) fun h' x he' hx' => ?_)
    obtain ⟨o, ho, hc2⟩ := hx'
    refine wpAny_bind (wpAny_isInstance (T := "StopIteration") (b := true) ⟨o, ho, hc2⟩ isSubtype_stop ?_)
    exact wpAny_pure ⟨rfl, I.turned (t' := s.toks) (fun b o hb q => he' b o hb q) f0 f1 f3 f4 f5⟩
  self := fun A i s Q E st h => let ⟨⟨_, he⟩, _⟩ := st; wpAny_pyIter_enum he h
theorem turnEnumL {P : Program} {w : World} {K : PySem.W.Frag} {elts : List Expr} {kk : Nat} {tpos : Pos} (a e it : Addr) (hne : e ≠ it) :
    Turn P w K (.Tuple elts kk tpos) (IteF fun H xs => SqL K H a xs) [e, it] e (fun i h => (∃ old, IsEnum h e it ((i : Nat) : Int) old) ∧ h.IsListIter it a i) where
  mem := by simp
  obj := fun i h st b hb => by
    obtain ⟨⟨old, he⟩, ⟨o, ho, hc, hd⟩⟩ := st
    have e' : b = e ∨ b = it := by simpa using hb
    rcases e' with z | z
    · rw [z]; exact ⟨_, he, fun v q => nomatch q⟩
    · rw [z]; exact ⟨o, ho, fun v q => by rw [hd] at q; cases q⟩
  keep := fun i h h' st k => let ⟨⟨old, he⟩, hi⟩ := st; ⟨⟨old, k e (by simp) _ he⟩, hi.at fun o q => k it (by simp) o q⟩
  item := by
    intro X hP hw hK hc i pins s σ H E I hf st hg
    subst hP hw hK
    obtain ⟨⟨old, he⟩, hit⟩ := st
    obtain ⟨xs, x, hq, hx⟩ := hg
    obtain ⟨its, rv, p, hz⟩ := I.list hq
    obtain ⟨v, hu, ru⟩ := rv.get hx
    have hel : e < s.heap.objs.size := Heap.lt_size he
    have hil : it < s.heap.objs.size := by obtain ⟨_, q, _⟩ := hit; exact Heap.lt_size q
    refine wpAny_pyNext_enum_item he hit p.isList (x := v) (by simpa using hu) hne fun h' ho hst hT hsz hk => ?_
    refine ⟨_, rfl, wpAny_letOwnedTupleGo_enum (s := { s with heap := h', toks := s.toks + 1 }) ho fun h'' he' sb => ?_⟩
    have hT2 : h''.get? s.heap.objs.size = some { cls := .type "tuple", data := .seq [.int i s.toks, v].toArray } := (sb.2 _ (Nat.ne_of_gt hel)).trans hT
    have I1 : Inv X pins σ (upd H s.heap.objs.size (frzT [.int i s.toks, v] [.int (i : Nat), x])) { s with heap := h'', toks := s.toks + 1 } :=
      I.turnedNew (ch := [e, it]) (fun b ob hb q => (sb.2 b (fun z => hb (by simp [z]))).trans (hk b ob (fun z => hb (by simp [z])) (fun z => hb (by simp [z])) q)) hf (Nat.le_refl _) (okT (by show 2 ≤ sizeLine; decide) (.cons ⟨_, rfl⟩ (.cons ru .nil)) hT2)
    refine ⟨.ref s.heap.objs.size, _, I1, rfl, ⟨_, x, _, rfl, I.hok.fresh (Nat.le_refl _), ot_new, rfl, fun ys hy => by rw [I.list_inj hy hq]; exact hx⟩, ⟨⟨v, ?_⟩, hst.at fun o q => (sb.2 it (Ne.symm hne)).trans q⟩, fun b hb => ?_⟩
    · have e1 : ((i + 1 : Nat) : Int) = (i : Int) + 1 := by omega
      rw [e1]; exact he'
    · have hb' : b < s.heap.objs.size := by
        have e' : b = e ∨ b = it := by simpa using hb
        rcases e' with z | z
        · rw [z]; exact hel
        · rw [z]; exact hil
      rw [upd_ne (Nat.ne_of_lt hb')]
      exact (hf b hb).1
  done := by
    intro X hP hw hK hc i pins s σ H E I hf st hg
    subst hP hw hK
    obtain ⟨⟨old, he⟩, hit⟩ := st
    obtain ⟨xs, hq, hx⟩ := hg
    obtain ⟨its, rv, p, hz⟩ := I.list hq
    obtain ⟨f0, f1, f2, f3, f4, f5⟩ := hf it (by simp)
    have hl := rv.length
    exact wpAny_pyNext_enum_end (I.ok.hd hc) he hit p.isList (by simp; omega) fun h' eb => ⟨rfl, I.turned (t' := s.toks) (fun b o hb q => eb b o hb q) f0 f1 f3 f4 f5⟩
  self := fun A i s Q E st h => let ⟨⟨_, he⟩, _⟩ := st; wpAny_pyIter_enum he h
def iEnumF (K : PySem.W.Frag) (ta : TA) : TI := fun σ H R => ta σ H fun vs H1 => ∃ a xs, vs = [.ref a] ∧ ((SqT K H1 a xs ∧ R (IteF fun H xs => SqT K H a xs) H1) ∨ (SqL K H1 a xs ∧ R (IteF fun H xs => SqL K H a xs) H1))
theorem pi_enumF {X : Cx} {e : Expr} {ta : TA} {p pos tpos : Pos} {elts : List Expr} {kk : Nat} (hg : Gl X "enumerate") (hm : X.mg "enumerate" = none) (ha : PA X [e] ta) (hs : starEach [e] X.env = [(false, eval e X.env)] := by rfl) :
    PI X (.Tuple elts kk tpos) (.Call (.Name "enumerate" p) [e] [] pos) (iEnumF X.K ta) := by
  refine ⟨fun pins s σ H R I h => ?_⟩
  refine Call_ (ld_blt I hg hm boot_enumerate (PyProof.Rows.callWith_type1 (thn (ha.run pos pins s σ H _ I h) fun us s1 ⟨vs, H1, I1, r1, q1⟩ => ?_) hs rfl))
  obtain ⟨a, xs, ex, q⟩ := q1
  subst ex
  have fp : ∀ b ∈ [s1.heap.objs.size + 1, s1.heap.objs.size], FpOk X pins H1 b := fun b hb => by
    have e' : b = s1.heap.objs.size + 1 ∨ b = s1.heap.objs.size := by simpa using hb
    have hle : s1.heap.objs.size ≤ b := by
      rcases e' with z | z
      · rw [z]; exact Nat.le_add_right _ _
      · rw [z]; exact Nat.le_refl _
    exact I1.fpOk hle (I1.hok.fresh hle)
  cases r1 with
  | cons r rr =>
    cases rr
    cases r
    rcases q with ⟨hq, q⟩ | ⟨hq, q⟩
    · obtain ⟨its, rv, p', hz⟩ := I1.tuple hq
      refine callEnumT (show s1.heap.IsTuple a its.toArray from p') fun h' he hit hsz hk => wpAny_pyIter_enum he ?_
      exact ⟨s1.heap.objs.size + 1, [s1.heap.objs.size + 1, s1.heap.objs.size], _, _, H1, rfl, I1.kept (t' := s1.toks) hk, turnEnumF a (s1.heap.objs.size + 1) s1.heap.objs.size (Nat.succ_ne_self _), ⟨⟨.none, he⟩, hit⟩, fp, q⟩
    · obtain ⟨its, rv, p', hz⟩ := I1.list hq
      refine call_enumerate_list p'.isList fun h' he hit hsz hk => wpAny_pyIter_enum he ?_
      exact ⟨s1.heap.objs.size + 1, [s1.heap.objs.size + 1, s1.heap.objs.size], _, _, H1, rfl, I1.kept (t' := s1.toks) hk, turnEnumL a (s1.heap.objs.size + 1) s1.heap.objs.size (Nat.succ_ne_self _), ⟨⟨.none, he⟩, hit⟩, fp, q⟩
/-! ### the call of a tuple's method -/
section
variable {X : Cx}
def tTM (K : PySem.W.Frag) (r : V → List V → Hp → VK → Prop) (to : TE) (t : TA) : TE := fun σ H Q => to σ H fun x H1 => (∃ a xs, x = .ref a ∧ TQ K H1 a xs) ∧ t σ H1 fun xs H2 => r x xs H2 Q
theorem pe_tm {o e : Expr} {es : List Expr} {to : TE} {t : TA} {name : Str} {apos cpos : Pos} {id : String} {r : V → List V → Hp → VK → Prop} (slot : Slot "tuple" name id) (hty : typeOf (.builtin id) = pure (.type "method_descriptor")) (hm : MtR X id r) (ho : PE X o to) (ha : PA X (e :: es) t)
    (hbase : attributeBase o name X.env (eval o X.env) = eval o X.env := by rfl)
    (hfew : ((backTo cpos (starEach (e :: es) X.env)).all (fun x => !x.1) && (backToKw cpos (keywordEach [] X.env)).all (fun x => x.1.isSome)
      && decide ((e :: es).length + ([] : List Keyword).length + (if ([] : List Keyword).isEmpty then 0 else 1) < 30)) = true := by rfl)
    (hline : (apos.endLine == cpos.line) = true := by rfl) (hs : starEach (e :: es) X.env = (false, eval e X.env) :: starEach es X.env := by rfl) (hplain : (backTo cpos (starEach es X.env)).any (·.1) = false := by rfl) :
    PE X (.Call (.Attribute o name apos) (e :: es) [] cpos) (tTM X.K r to t) := by
  refine ⟨fun pins s σ H Q I h => ?_⟩
  refine wpAny_Call_method_late hbase hfew hline rfl (thn (ho.run pins s σ H _ I h) fun v s1 ⟨x, H1, I1, r1, ⟨a, xs, ex, hq⟩, q1⟩ => ?_)
  obtain ⟨ob, its, n, e1, e2, _⟩ := hq.obj I1
  subst ex
  have ev : v = .ref a := r1
  subst ev
  refine ⟨"tuple", id, PySem.F.plainAttrs_tuple, slot, hty, ⟨ob, e1, e2.1⟩, fun b eb => by cases eb; exact ⟨ob, e1, e2.2⟩, ?_⟩
  have hA := ha.run cpos pins s1 σ H1 _ I1 q1
  rw [hs] at hA ⊢
  refine Calls.callWith_builtin (by show (false || (backTo cpos (starEach es X.env)).any (·.1)) = false; rw [hplain] <;> rfl) (Calls.evalArgs_plain ?_)
  exact thn hA fun us s2 ⟨vs, H2, I2, r2, q2⟩ => hm pins s2 σ H2 _ vs _ us Q I2 r1 r2 q2
/-- t.count(x) -/
def rCntT (K : PySem.W.Frag) : V → List V → Hp → VK → Prop := fun x xs H Q => ∃ (p : Addr) (ys : List V) (ds : List PyData) (y : V) (d : PyData), x = .ref p ∧ xs = [y] ∧ TQ K H p ys ∧ L2.DpAll K H ys ds ∧ L2.Dp K H y d ∧ PyData.plainAll ds = true ∧ d.plain = true ∧ min (PyData.depthAll ds) d.depth < 60 ∧ Q (.int ((ds.countP fun y => PyData.eqv y d : Nat) : Int)) H
theorem mt_tcount (hu : X.A.units + 64 < cLine) : MtR X "tuple.count" (rCntT X.K) := by
  intro pins s σ H x xs v us Q I rx rxs h
  obtain ⟨p, ys, ds, y, d, rfl, rfl, hq, ha, hd, h1, h2, h3, q⟩ := h
  have ev : v = .ref p := rx
  subst ev
  obtain ⟨u, rfl, ru⟩ := vals1 rxs
  obtain ⟨ob, its, n, e1, e2, e3, e4, rv⟩ := hq.obj I
  obtain ⟨as, ra⟩ := Dp.readsAll I ds ys its.toList ha rv
  obtain ⟨bs, rb⟩ := Dp.reads I d y u hd ru
  exact SeqAt.count_tuple_data ⟨ob, e1, e2.1, n, e3⟩ ra rb h1 h2 (by omega) ⟨.int _, H, I.tok _, ⟨_, rfl⟩, q⟩
end
end DL
/-! DLa: data under the hand layer: slots that hold data, lists that grow, what a step may change. -/
namespace DL
open PySem PySem.Spec PyProof.Rows L2

abbrev KF := PySem.W.Frag
abbrev Sg := L2.St

/-- what a slot holds: nothing that is known, data, a list of its own that may still be changed -/
inductive SV where
  | un
  | dat (d : PyData)
  | gro (ds : List PyData)
abbrev DE := List SV
/-- what an expression gives: data, or a list just made -/
inductive RV where
  | dat (d : PyData)
  | new (ds : List PyData)
def RV.d : RV → PyData
  | .dat d => d
  | .new ds => .list ds
def RV.sv : RV → SV
  | .dat d => .dat d
  | .new ds => .gro ds

mutual
/-- data as it stands in a heap -/
inductive Dp (K : KF) (F : Hp) : V → PyData → Prop
  | non : Dp K F .non .none
  | bl (b : Bool) : Dp K F (.bl b) (.bool b)
  | int (i : Int) : Dp K F (.int i) (.int i)
  | str (z : Str) : Dp K F (.str z) (.str z)
  | lst {a : Addr} {xs : List V} {ds : List PyData} : SqL K F a xs → DpAll K F xs ds → Dp K F (.ref a) (.list ds)
  | tup {a : Addr} {xs : List V} {ds : List PyData} : TQ K F a xs → DpAll K F xs ds → Dp K F (.ref a) (.tuple ds)
inductive DpAll (K : KF) (F : Hp) : List V → List PyData → Prop
  | nil : DpAll K F [] []
  | cons {v : V} {vs : List V} {d : PyData} {ds : List PyData} : Dp K F v d → DpAll K F vs ds → DpAll K F (v :: vs) (d :: ds)
end
mutual
theorem dpKit {K : KF} {F : Hp} : ∀ (d : PyData) (v : V), Dp K F v d → L2.Dp K F v d
  | .none, _, x => by cases x; exact .non
  | .bool b, _, x => by cases x; exact .bl b
  | .int i, _, x => by cases x; exact .int i
  | .str z, _, x => by cases x; exact .str z
  | .list ds, _, x => by
    cases x with
    | lst hs ha => exact .lst hs (dpKitAll ds _ ha)
  | .tuple ds, _, x => by
    cases x with
    | tup hs ha => exact .tup hs.sq (dpKitAll ds _ ha)
  | .dict _, _, x => by cases x
theorem dpKitAll {K : KF} {F : Hp} : ∀ (ds : List PyData) (vs : List V), DpAll K F vs ds → L2.DpAll K F vs ds
  | [], _, x => by cases x; exact .nil
  | d :: ds, _, x => by
    cases x with
    | cons h1 h2 => exact .cons (dpKit d _ h1) (dpKitAll ds _ h2)
end
mutual
theorem dpMono {K : KF} {F G : Hp} (h : Same F G) : ∀ (d : PyData) (v : V), Dp K F v d → Dp K G v d
  | .none, _, x => by cases x; exact .non
  | .bool b, _, x => by cases x; exact .bl b
  | .int i, _, x => by cases x; exact .int i
  | .str z, _, x => by cases x; exact .str z
  | .list ds, _, x => by
    cases x with
    | lst hs ha => exact .lst (h.seq hs) (dpAllMono h ds _ ha)
  | .tuple ds, _, x => by
    cases x with
    | tup hs ha => exact .tup (hs.same h) (dpAllMono h ds _ ha)
  | .dict _, _, x => by cases x
theorem dpAllMono {K : KF} {F G : Hp} (h : Same F G) : ∀ (ds : List PyData) (vs : List V), DpAll K F vs ds → DpAll K G vs ds
  | [], _, x => by cases x; exact .nil
  | d :: ds, _, x => by
    cases x with
    | cons h1 h2 => exact .cons (dpMono h d _ h1) (dpAllMono h ds _ h2)
end
theorem dpAllLen {K : KF} {F : Hp} : ∀ {ds : List PyData} {vs : List V}, DpAll K F vs ds → vs.length = ds.length
  | [], _, x => by cases x; rfl
  | _ :: _, _, x => by
    cases x with
    | cons _ h2 => simp [dpAllLen h2]
theorem dpAllGet {K : KF} {F : Hp} : ∀ {ds : List PyData} {vs : List V} {i : Nat} {d : PyData}, DpAll K F vs ds → ds[i]? = some d → ∃ v, vs[i]? = some v ∧ Dp K F v d
  | [], _, _, _, _, h => by simp at h
  | _ :: _, _, 0, _, x, h => by
    cases x with
    | cons h1 _ => simp at h; subst h; exact ⟨_, rfl, h1⟩
  | _ :: _, _, i + 1, d, x, h => by
    cases x with
    | cons _ h2 =>
      obtain ⟨v, e, q⟩ := dpAllGet (i := i) (d := d) h2 (by simpa using h)
      exact ⟨v, by simpa using e, q⟩
theorem dpAllGetV {K : KF} {F : Hp} : ∀ {ds : List PyData} {vs : List V} {i : Nat} {v : V}, DpAll K F vs ds → vs[i]? = some v → ∃ d, ds[i]? = some d ∧ Dp K F v d
  | _, [], _, _, _, h => by simp at h
  | _, _ :: _, 0, _, x, h => by
    cases x with
    | cons h1 _ => simp at h; subst h; exact ⟨_, rfl, h1⟩
  | _, _ :: _, i + 1, v, x, h => by
    cases x with
    | cons _ h2 =>
      obtain ⟨d, e, q⟩ := dpAllGetV (i := i) (v := v) h2 (by simpa using h)
      exact ⟨d, by simpa using e, q⟩
theorem dpAllApp {K : KF} {F : Hp} : ∀ {ds es : List PyData} {vs ws : List V}, DpAll K F vs ds → DpAll K F ws es → DpAll K F (vs ++ ws) (ds ++ es)
  | [], _, _, _, x, y => by cases x; exact y
  | _ :: _, _, _, _, x, y => by
    cases x with
    | cons h1 h2 => exact .cons h1 (dpAllApp h2 y)
theorem dpAllTake {K : KF} {F : Hp} : ∀ (n : Nat) {ds : List PyData} {vs : List V}, DpAll K F vs ds → DpAll K F (vs.take n) (ds.take n)
  | 0, _, _, _ => by simpa using DpAll.nil
  | _ + 1, [], _, x => by cases x; exact .nil
  | n + 1, _ :: _, _, x => by
    cases x with
    | cons h1 h2 => exact .cons h1 (dpAllTake n h2)
theorem dpAllDrop {K : KF} {F : Hp} : ∀ (n : Nat) {ds : List PyData} {vs : List V}, DpAll K F vs ds → DpAll K F (vs.drop n) (ds.drop n)
  | 0, _, _, x => by simpa using x
  | _ + 1, [], _, x => by cases x; exact .nil
  | n + 1, _ :: _, _, x => by
    cases x with
    | cons h1 h2 => exact dpAllDrop n h2
theorem dpAllSet {K : KF} {F : Hp} {v : V} {d : PyData} (h : Dp K F v d) : ∀ (n : Nat) {ds : List PyData} {vs : List V}, DpAll K F vs ds → DpAll K F (vs.set n v) (ds.set n d)
  | _, [], _, x => by cases x; exact .nil
  | 0, _ :: _, _, x => by
    cases x with
    | cons h1 h2 => exact .cons h h2
  | n + 1, _ :: _, _, x => by
    cases x with
    | cons h1 h2 => exact .cons h1 (dpAllSet h n h2)
theorem dpAllRev {K : KF} {F : Hp} : ∀ {ds : List PyData} {vs : List V}, DpAll K F vs ds → DpAll K F vs.reverse ds.reverse
  | [], _, x => by cases x; exact .nil
  | _ :: _, _, x => by
    cases x with
    | cons h1 h2 =>
      rw [List.reverse_cons, List.reverse_cons]
      exact dpAllApp (dpAllRev h2) (.cons h1 .nil)

def SlotOk (K : KF) (F H : Hp) (o : Option (Option V)) : SV → Prop
  | .un => True
  | .dat d => ∃ v, o = some (some v) ∧ Dp K F v d
  | .gro ds => ∃ a vs, o = some (some (.ref a)) ∧ H a = some (.lst vs) ∧ F a = none ∧ DpAll K F vs ds
def MutAt (σ : Sg) (ρ : DE) (i : Nat) (a : Addr) : Prop := (∃ ds, ρ[i]? = some (.gro ds)) ∧ σ[i]? = some (some (.ref a))
def Mt (σ : Sg) (ρ : DE) (a : Addr) : Prop := ∃ i, MutAt σ ρ i a
/-- F: the part of H that stays as it is; the slots σ hold what ρ tells -/
structure Rep (K : KF) (F H : Hp) (σ : Sg) (ρ : DE) : Prop where
  sub : Same F H
  len : ρ.length = σ.length
  slot : ∀ (i : Nat) (s : SV), ρ[i]? = some s → SlotOk K F H σ[i]? s
  apart : ∀ (i j : Nat) (a : Addr), MutAt σ ρ i a → MutAt σ ρ j a → i = j
structure Ext (A : Addr → Prop) (F H F' H' : Hp) : Prop where
  f : Same F F'
  h : ∀ a o, H a = some o → ¬ A a → H' a = some o
  n : ∀ a o, F' a = some o → F a = some o ∨ H a = none ∨ A a
  k : ∀ a, H' a = none → H a = none
abbrev No : Addr → Prop := fun _ => False
theorem Ext.refl {A : Addr → Prop} {F H : Hp} : Ext A F H F H := ⟨Same.refl _, fun _ _ h _ => h, fun _ _ h => .inl h, fun _ h => h⟩
theorem Ext.trans {A A' : Addr → Prop} {F H F1 H1 F2 H2 : Hp} (a : Ext A F H F1 H1) (b : Ext A' F1 H1 F2 H2) (m : ∀ x, A' x → A x ∨ H x = none) : Ext A F H F2 H2 where
  f := a.f.trans b.f
  h := fun x o e n => b.h x o (a.h x o e n) fun z => (m x z).elim n fun q => by rw [q] at e; cases e
  n := fun x o e => by
    rcases b.n x o e with q | q | q
    · exact a.n x o q
    · exact .inr (.inl (a.k x q))
    · rcases m x q with z | z
      · exact .inr (.inr z)
      · exact .inr (.inl z)
  k := fun x e => a.k x (b.k x e)
theorem Ext.weak {A A' : Addr → Prop} {F H F1 H1 : Hp} (a : Ext A F H F1 H1) (m : ∀ x, A x → A' x) : Ext A' F H F1 H1 where
  f := a.f
  h := fun x o e n => a.h x o e fun z => n (m x z)
  n := fun x o e => by
    rcases a.n x o e with q | q | q
    · exact .inl q
    · exact .inr (.inl q)
    · exact .inr (.inr (m x q))
  k := a.k
/-- a new object that stays -/
theorem Ext.new {A : Addr → Prop} {F H : Hp} {p : Addr} {o : HO} (hp : H p = none) (sub : Same F H) : Ext A F H (upd F p o) (upd H p o) where
  f := fun b u e => by
    have nb : b ≠ p := ne_of_none (sub _ _ e) hp
    rw [upd_ne nb]; exact e
  h := fun b u e _ => by rw [upd_ne (ne_of_none e hp)]; exact e
  n := fun b u e => by
    by_cases hb : b = p
    · exact .inr (.inl (hb ▸ hp))
    · rw [upd_ne hb] at e; exact .inl e
  k := fun b e => by
    by_cases hb : b = p
    · rw [hb]; exact hp
    · rw [upd_ne hb] at e; exact e
theorem Same.new {F H : Hp} {p : Addr} {o : HO} (sub : Same F H) : Same (upd F p o) (upd H p o) := fun b u e => by
  by_cases hb : b = p
  · rw [hb, upd_same] at e ⊢; exact e
  · rw [upd_ne hb] at e ⊢; exact sub _ _ e
/-- a new object that may still be changed -/
theorem Ext.newM {A : Addr → Prop} {F H : Hp} {p : Addr} {o : HO} (hp : H p = none) : Ext A F H F (upd H p o) where
  f := Same.refl _
  h := fun b u e _ => by rw [upd_ne (ne_of_none e hp)]; exact e
  n := fun b u e => .inl e
  k := fun b e => by
    by_cases hb : b = p
    · rw [hb]; exact hp
    · rw [upd_ne hb] at e; exact e
theorem Same.newM {F H : Hp} {p : Addr} {o : HO} (sub : Same F H) (hp : H p = none) : Same F (upd H p o) := fun b u e => by
  rw [upd_ne (ne_of_none (sub _ _ e) hp)]; exact sub _ _ e
theorem Rep.ext0 {K : KF} {F H F' H' : Hp} {σ : Sg} {ρ : DE} (R : Rep K F H σ ρ) (e : Ext No F H F' H') (s : Same F' H') : Rep K F' H' σ ρ where
  sub := s
  len := R.len
  slot := fun i x hx => by
    have q := R.slot i x hx
    cases x with
    | un => trivial
    | dat d =>
      obtain ⟨v, h1, h2⟩ := q
      exact ⟨v, h1, dpMono e.f d v h2⟩
    | gro ds =>
      obtain ⟨a, vs, h1, h2, h3, h4⟩ := q
      refine ⟨a, vs, h1, e.h a _ h2 id, ?_, dpAllMono e.f ds vs h4⟩
      cases z : F' a with
      | none => rfl
      | some o =>
        rcases e.n a o z with w | w | w
        · rw [h3] at w; cases w
        · rw [h2] at w; cases w
        · exact w.elim
  apart := R.apart
theorem Rep.mtSome {K : KF} {F H : Hp} {σ : Sg} {ρ : DE} (R : Rep K F H σ ρ) {a : Addr} (h : Mt σ ρ a) : ∃ vs, H a = some (.lst vs) := by
  obtain ⟨i, ⟨ds, h1⟩, h2⟩ := h
  obtain ⟨b, vs, e1, e2, _⟩ := R.slot i _ h1
  rw [e1] at h2
  cases h2
  exact ⟨vs, e2⟩
theorem Rep.mtF {K : KF} {F H : Hp} {σ : Sg} {ρ : DE} (R : Rep K F H σ ρ) {a : Addr} (h : Mt σ ρ a) : F a = none := by
  obtain ⟨i, ⟨ds, h1⟩, h2⟩ := h
  obtain ⟨b, vs, e1, e2, e3, _⟩ := R.slot i _ h1
  rw [e1] at h2
  cases h2
  exact e3
/-- what a value is: H0 the heap at the start -/
def ResOk (K : KF) (F H H0 : Hp) (v : V) : RV → Prop
  | .dat d => Dp K F v d
  | .new ds => ∃ a vs, v = .ref a ∧ H a = some (.lst vs) ∧ F a = none ∧ DpAll K F vs ds ∧ H0 a = none
/-- a list just made is kept as it is from now on -/
theorem frz {K : KF} {A : Addr → Prop} {F0 H0 F H : Hp} {σ : Sg} {ρ : DE} {v : V} {r : RV} (R : Rep K F H σ ρ) (E : Ext A F0 H0 F H) (h : ResOk K F H H0 v r) (m : ∀ a, Mt σ ρ a → H0 a ≠ none) :
    ∃ F2, Rep K F2 H σ ρ ∧ Ext A F0 H0 F2 H ∧ Dp K F2 v r.d := by
  cases r with
  | dat d => exact ⟨F, R, E, h⟩
  | new ds =>
    obtain ⟨a, vs, rfl, h1, h2, h3, h4⟩ := h
    have s1 : Same F (upd F a (.lst vs)) := fun b o e => by
      have nb : b ≠ a := ne_of_none e h2
      rw [upd_ne nb]; exact e
    have s2 : Same (upd F a (.lst vs)) H := fun b o e => by
      by_cases hb : b = a
      · rw [hb, upd_same] at e; rw [hb, h1]; exact e
      · rw [upd_ne hb] at e; exact R.sub _ _ e
    refine ⟨upd F a (.lst vs), ⟨s2, R.len, fun i x hx => ?_, R.apart⟩, ⟨E.f.trans s1, E.h, fun b o e => ?_, E.k⟩, .lst (SqL.of upd_same) (dpAllMono s1 ds vs h3)⟩
    · have q := R.slot i x hx
      cases x with
      | un => trivial
      | dat d =>
        obtain ⟨v, q1, q2⟩ := q
        exact ⟨v, q1, dpMono s1 d v q2⟩
      | gro es =>
        obtain ⟨b, ws, q1, q2, q3, q4⟩ := q
        have nb : b ≠ a := fun z => by
          subst z
          exact m b ⟨i, ⟨es, hx⟩, q1⟩ h4
        exact ⟨b, ws, q1, q2, by rw [upd_ne nb]; exact q3, dpAllMono s1 es ws q4⟩
    · by_cases hb : b = a
      · subst hb; exact .inr (.inl h4)
      · rw [upd_ne hb] at e; exact E.n b o e

/-! ### expressions -/
abbrev ED := DE → Option (RV × DE)
structure PostE (K : KF) (F0 H0 : Hp) (σ : Sg) (ρ0 : DE) (F H : Hp) (ρ : DE) : Prop where
  rep : Rep K F H σ ρ
  ext : Ext (Mt σ ρ0) F0 H0 F H
  mt : ∀ a, Mt σ ρ a → Mt σ ρ0 a
theorem PostE.refl {K : KF} {F H : Hp} {σ : Sg} {ρ : DE} (R : Rep K F H σ ρ) : PostE K F H σ ρ F H ρ := ⟨R, Ext.refl, fun _ h => h⟩
theorem PostE.trans {K : KF} {F H F1 H1 F2 H2 : Hp} {σ : Sg} {ρ ρ1 ρ2 : DE} (a : PostE K F H σ ρ F1 H1 ρ1) (b : PostE K F1 H1 σ ρ1 F2 H2 ρ2) : PostE K F H σ ρ F2 H2 ρ2 :=
  ⟨b.rep, a.ext.trans b.ext fun x z => .inl (a.mt x z), fun x z => a.mt x (b.mt x z)⟩
theorem PostE.ext0 {K : KF} {F H F1 H1 F2 H2 : Hp} {σ : Sg} {ρ ρ1 : DE} (a : PostE K F H σ ρ F1 H1 ρ1) (e : Ext No F1 H1 F2 H2) (s : Same F2 H2) : PostE K F H σ ρ F2 H2 ρ1 :=
  ⟨a.rep.ext0 e s, a.ext.trans e fun _ z => z.elim, a.mt⟩
theorem PostE.frz {K : KF} {F H F1 H1 : Hp} {σ : Sg} {ρ ρ1 : DE} {v : V} {r : RV} (R : Rep K F H σ ρ) (a : PostE K F H σ ρ F1 H1 ρ1) (h : ResOk K F1 H1 H v r) : ∃ F2, PostE K F H σ ρ F2 H1 ρ1 ∧ Same F1 F2 ∧ Dp K F2 v r.d := by
  cases r with
  | dat d => exact ⟨F1, a, Same.refl _, h⟩
  | new ds =>
    have m : ∀ x, Mt σ ρ1 x → H x ≠ none := fun x z e => by
      obtain ⟨vs, q⟩ := R.mtSome (a.mt x z)
      rw [e] at q; cases q
    obtain ⟨b, vs, rfl, h1, h2, h3, h4⟩ := id h
    obtain ⟨F2, r2, e2, d2⟩ := DL.frz a.rep a.ext h m
    have k2 : ∃ F2, PostE K F H σ ρ F2 H1 ρ1 ∧ Same F1 F2 ∧ Dp K F2 (.ref b) (RV.new ds).d := by
      have s1 : Same F1 (upd F1 b (.lst vs)) := fun c o e => by
        have nb : c ≠ b := ne_of_none e h2
        rw [upd_ne nb]; exact e
      have s2 : Same (upd F1 b (.lst vs)) H1 := fun c o e => by
        by_cases hb : c = b
        · rw [hb, upd_same] at e; rw [hb, h1]; exact e
        · rw [upd_ne hb] at e; exact a.rep.sub _ _ e
      refine ⟨upd F1 b (.lst vs), ⟨⟨s2, a.rep.len, fun i x hx => ?_, a.rep.apart⟩, ⟨a.ext.f.trans s1, a.ext.h, fun c o e => ?_, a.ext.k⟩, a.mt⟩, s1, .lst (SqL.of upd_same) (dpAllMono s1 ds vs h3)⟩
      · have q := a.rep.slot i x hx
        cases x with
        | un => trivial
        | dat d =>
          obtain ⟨v, q1, q2⟩ := q
          exact ⟨v, q1, dpMono s1 d v q2⟩
        | gro es =>
          obtain ⟨c, ws, q1, q2, q3, q4⟩ := q
          have nb : c ≠ b := fun z => by
            subst z
            exact m c ⟨i, ⟨es, hx⟩, q1⟩ h4
          exact ⟨c, ws, q1, q2, by rw [upd_ne nb]; exact q3, dpAllMono s1 es ws q4⟩
      · by_cases hb : c = b
        · subst hb; exact .inr (.inl h4)
        · rw [upd_ne hb] at e; exact a.ext.n c o e
    exact k2
def Serves (K : KF) (t : TE) (f : ED) : Prop := ∀ (F H : Hp) (σ : Sg) (ρ ρ' : DE) (r : RV) (Q : VK), Rep K F H σ ρ → f ρ = some (r, ρ') →
  (∀ v F' H', PostE K F H σ ρ F' H' ρ' → ResOk K F' H' H v r → Q v H') → t σ H Q
theorem Serves.d {K : KF} {t : TE} {f : ED} (h : Serves K t f) {F H : Hp} {σ : Sg} {ρ ρ' : DE} {r : RV} {Q : VK} (R : Rep K F H σ ρ) (e : f ρ = some (r, ρ'))
    (q : ∀ v F' H', PostE K F H σ ρ F' H' ρ' → Dp K F' v r.d → Q v H') : t σ H Q :=
  h F H σ ρ ρ' r Q R e fun v F' H' p ro => by
    obtain ⟨F2, p2, _, d2⟩ := p.frz R ro
    exact q v F2 H' p2 d2

/-- a family of contexts: a def's body at each of its entries, a comprehension's block likewise -/
structure Fm (K : KF) (k : Nat) where
  ι : Type
  X : ι → Cx
  N : List Str
  sc : Scope
  hN : ∀ i, (X i).N = N
  hsc : ∀ i, (X i).env.scope = sc
  hK : ∀ i, (X i).K = K
  calm : ∀ i, (X i).calm = true
  nd : ∀ i, (X i).N.Nodup
  room : ∀ i, Room k (X i).A
  gd : ∀ i, (X i).A.guards = some []
  own : ∀ i, PassesOwn (model (X i).prog (X i).w) (X i).A (X i).env (X i).xe
/-- the family of a comprehension's blocks -/
def Fm.blk {K : KF} {k : Nat} (Y : Fm K k) (scope : Scope) : Fm K k where
  ι := Y.ι × Shared × Hp × Addr × List (Str × Addr) × List Addr
  X := fun j => (Y.X j.1).blk j.2.1 j.2.2.1 scope (compEnvC scope j.2.2.2.2.1 j.2.2.2.1 (Y.X j.1).env) j.2.2.2.2.2
  N := Y.N
  sc := relS scope Y.sc
  hN := fun j => Y.hN j.1
  hsc := fun j => by
    show relS scope (Y.X j.1).env.scope = relS scope Y.sc
    rw [Y.hsc]
  hK := fun j => Y.hK j.1
  calm := fun j => Y.calm j.1
  nd := fun j => Y.nd j.1
  room := fun j => Y.room j.1
  gd := fun j => Y.gd j.1
  own := fun j => PassesOwn.never
/-- the family of a def's bodies -/
def fmOf (P : Program) (w : World) (K : KF) (mg : Str → Option Value) (base : Heap) (N : List Str) (qual : Str) (sc : Scope) (f : Addr) (k : Nat) (hN : N.Nodup) : Fm K k where
  ι := { q : Value × Around × List Env × Shared × Hp × XK // Room k (q.2.1.deeper (envOfC qual sc q.2.2.2.1.heap.objs.size f q.1)) ∧ q.2.1.guards = some [] }
  X := fun q => (cxOf CX0 P w K mg base N qual sc f q.1.1 q.1.2.1 q.1.2.2.1 q.1.2.2.2.1 q.1.2.2.2.2.1 q.1.2.2.2.2.2).nox
  N := N
  sc := sc
  hN := fun _ => rfl
  hsc := fun _ => rfl
  hK := fun _ => rfl
  calm := fun _ => rfl
  nd := fun _ => hN
  room := fun q => q.2.1
  gd := fun q => q.2.2
  own := fun _ => PassesOwn.never
section
variable {K : KF} {k : Nat} (Y : Fm K k)
def PEd (e : Expr) (f : ED) : Prop := ∃ t, (∀ i, PE (Y.X i) e t) ∧ Serves K t f
end
section
variable {K : KF} {k : Nat} {Y : Fm K k}
/-! ### names and constants -/
def eC (d : PyData) : ED := fun ρ => some (.dat d, ρ)
theorem serves_c {v : V} {d : PyData} (h : ∀ F, Dp K F v d) : Serves K (tC v) (eC d) := fun F H σ ρ ρ' r Q R e q => by
  cases e
  exact q v F H (PostE.refl R) (h F)
theorem d_int {i : Int} {j pos} : PEd Y (.Constant (.int i) j pos) (eC (.int i)) := ⟨_, fun _ => pe_int, serves_c fun _ => .int i⟩
theorem d_bl {b j pos} : PEd Y (.Constant (.bool b) j pos) (eC (.bool b)) := ⟨_, fun _ => pe_bl, serves_c fun _ => .bl b⟩
theorem d_non {j pos} : PEd Y (.Constant .none j pos) (eC .none) := ⟨_, fun _ => pe_non, serves_c fun _ => .non⟩
theorem d_str {x j pos} : PEd Y (.Constant (.str x) j pos) (eC (.str x)) := ⟨_, fun _ => pe_str, serves_c fun _ => .str x⟩
/-- a constant of the module -/
theorem d_glob {x : Str} {v : V} {d : PyData} {u : Value} {pos : Pos} (hm : ∀ i, (Y.X i).mg x = some u) (r : RelV v u) (h : ∀ F, Dp K F v d) (hg : ∀ i, Gl (Y.X i) x := by intro _; rfl) (hd : (x == ("__debug__" : Str)) = false := by decide) : PEd Y (.Name x pos) (eC d) :=
  ⟨_, fun i => pe_glob (hg i) (hm i) r hd, serves_c h⟩
/-- a slot that is read; a list that may still be changed is kept as it is from now on -/
def eVar (i : Nat) : ED := fun ρ => match ρ[i]? with
  | some (.dat d) => some (.dat d, ρ)
  | some (.gro ds) => some (.dat (.list ds), ρ.set i (.dat (.list ds)))
  | _ => none
theorem mt_set_dat {σ : Sg} {ρ : DE} {i : Nat} {d : PyData} {a : Addr} (h : Mt σ (ρ.set i (.dat d)) a) : Mt σ ρ a ∧ ¬ MutAt σ ρ i a ∨ Mt σ ρ a := by
  obtain ⟨j, ⟨ds, h1⟩, h2⟩ := h
  by_cases hj : i = j
  · subst hj
    rw [List.getElem?_set] at h1
    split at h1
    · split at h1 <;> cases h1
    · contradiction
  · rw [List.getElem?_set_ne hj] at h1
    exact .inr ⟨j, ⟨ds, h1⟩, h2⟩
theorem mutAt_set_dat {σ : Sg} {ρ : DE} {i j : Nat} {d : PyData} {a : Addr} (h : MutAt σ (ρ.set i (.dat d)) j a) : MutAt σ ρ j a ∧ i ≠ j := by
  obtain ⟨⟨ds, h1⟩, h2⟩ := h
  by_cases hj : i = j
  · subst hj
    rw [List.getElem?_set] at h1
    split at h1
    · split at h1 <;> cases h1
    · contradiction
  · rw [List.getElem?_set_ne hj] at h1
    exact ⟨⟨⟨ds, h1⟩, h2⟩, hj⟩
theorem frzSlot {F H : Hp} {σ : Sg} {ρ : DE} {i : Nat} {ds : List PyData} (R : Rep K F H σ ρ) (e : ρ[i]? = some (.gro ds)) :
    ∃ a F', σ[i]? = some (some (.ref a)) ∧ PostE K F H σ ρ F' H (ρ.set i (.dat (.list ds))) ∧ Dp K F' (.ref a) (.list ds) := by
  obtain ⟨a, vs, h1, h2, h3, h4⟩ := R.slot i _ e
  have s1 : Same F (upd F a (.lst vs)) := fun b o e => by
    have nb : b ≠ a := ne_of_none e h3
    rw [upd_ne nb]; exact e
  have s2 : Same (upd F a (.lst vs)) H := fun b o e => by
    by_cases hb : b = a
    · rw [hb, upd_same] at e; rw [hb, h2]; exact e
    · rw [upd_ne hb] at e; exact R.sub _ _ e
  have hd : Dp K (upd F a (.lst vs)) (.ref a) (.list ds) := .lst (SqL.of upd_same) (dpAllMono s1 ds vs h4)
  refine ⟨a, upd F a (.lst vs), h1, ⟨⟨s2, by rw [List.length_set]; exact R.len, fun j x hx => ?_, fun j l b p q => R.apart j l b (mutAt_set_dat p).1 (mutAt_set_dat q).1⟩, ⟨s1, fun _ _ h _ => h, fun b o e' => ?_, fun _ h => h⟩, fun b z => ?_⟩, hd⟩
  · by_cases hj : i = j
    · subst hj
      rw [List.getElem?_set_self (List.getElem?_eq_some_iff.mp e).1] at hx
      cases hx
      exact ⟨_, h1, hd⟩
    · rw [List.getElem?_set_ne hj] at hx
      have q := R.slot j x hx
      cases x with
      | un => trivial
      | dat d =>
        obtain ⟨v, q1, q2⟩ := q
        exact ⟨v, q1, dpMono s1 d v q2⟩
      | gro es =>
        obtain ⟨c, ws, q1, q2, q3, q4⟩ := q
        have nb : c ≠ a := fun z => by
          subst z
          exact hj (R.apart i j c ⟨⟨ds, e⟩, h1⟩ ⟨⟨es, hx⟩, q1⟩)
        exact ⟨c, ws, q1, q2, by rw [upd_ne nb]; exact q3, dpAllMono s1 es ws q4⟩
  · by_cases hb : b = a
    · subst hb; exact .inr (.inr ⟨i, ⟨ds, e⟩, h1⟩)
    · rw [upd_ne hb] at e'; exact .inl e'
  · obtain ⟨j, p⟩ := z
    exact ⟨j, (mutAt_set_dat p).1⟩
theorem serves_var (i : Nat) : Serves K (tVar i) (eVar i) := fun F H σ ρ ρ' r Q R e q => by
  unfold eVar at e
  cases hx : ρ[i]? with
  | none => rw [hx] at e; cases e
  | some s =>
    rw [hx] at e
    cases s with
    | un => cases e
    | dat d =>
      cases e
      obtain ⟨v, h1, h2⟩ := R.slot i _ hx
      exact ⟨v, h1, q v F H (PostE.refl R) h2⟩
    | gro ds =>
      cases e
      obtain ⟨a, F', h1, p, hd⟩ := frzSlot R hx
      exact ⟨.ref a, h1, q _ F' H p hd⟩
theorem d_var (i : Nat) {x : Str} {pos : Pos} (hN : ∀ j, (Y.X j).N[i]? = some x := by intro _; rfl) (hv : ∀ j, Vis (Y.X j).env.scope x := by intro _; first | exact Or.inl rfl | exact Or.inr (Or.inl rfl) | exact Or.inr (Or.inr rfl)) (hd : (x == ("__debug__" : Str)) = false := by decide)
    (hcd : (x == ("__classdict__" : Str)) = false := by decide) : PEd Y (.Name x pos) (eVar i) := ⟨_, fun j => pe_var (hN j) (hv j) hd hcd, serves_var i⟩

/-! ### operators -/
def OpS (K : KF) (r : R2) (op : PyData → PyData → Option RV) : Prop := ∀ (F H : Hp) (x y : V) (d e : PyData) (rv : RV) (Q : VK), Same F H → Dp K F x d → Dp K F y e → op d e = some rv →
  (∀ v F' H', Same F' H' → Ext No F H F' H' → ResOk K F' H' H v rv → Q v H') → r x y H Q
def eOp (op : PyData → PyData → Option RV) (f g : ED) : ED := fun ρ => match f ρ with
  | none => none
  | some (a, ρ1) => match g ρ1 with
    | none => none
    | some (b, ρ2) => match op a.d b.d with
      | none => none
      | some r => some (r, ρ2)
theorem ResOk.back {F H H0 H1 : Hp} {v : V} {r : RV} (h : ResOk K F H H1 v r) (k : ∀ a, H1 a = none → H0 a = none) : ResOk K F H H0 v r := by
  cases r with
  | dat d => exact h
  | new ds =>
    obtain ⟨a, vs, e, h1, h2, h3, h4⟩ := h
    exact ⟨a, vs, e, h1, h2, h3, k a h4⟩
theorem serves_op {r : R2} {op : PyData → PyData → Option RV} {ta tb : TE} {f g : ED} (ho : OpS K r op) (ha : Serves K ta f) (hb : Serves K tb g) : Serves K (tOp r ta tb) (eOp op f g) := fun F H σ ρ ρ' rv Q R e q => by
  unfold eOp at e
  cases h1 : f ρ with
  | none => rw [h1] at e; cases e
  | some p1 =>
    obtain ⟨a, ρ1⟩ := p1
    rw [h1] at e
    simp only at e
    cases h2 : g ρ1 with
    | none => rw [h2] at e; cases e
    | some p2 =>
      obtain ⟨b, ρ2⟩ := p2
      rw [h2] at e
      simp only at e
      cases h3 : op a.d b.d with
      | none => rw [h3] at e; cases e
      | some r3 =>
        rw [h3] at e
        cases e
        refine ha.d R h1 fun x F1 H1 p1 dx => ?_
        refine hb.d p1.rep h2 fun y F2 H2 p2 dy => ?_
        have p := p1.trans p2
        refine ho F2 H2 x y _ _ _ Q p.rep.sub (dpMono p2.ext.f _ _ dx) dy h3 fun v F' H' s3 e3 ro => ?_
        exact q v F' H' (p.ext0 e3 s3) (ro.back p.ext.k)
theorem d_op {op : Operator} {r : R2} {o : PyData → PyData → Option RV} {a b : Expr} {pos : Pos} {f g : ED} (ho : ∀ i, OpR (Y.X i) (binaryOp op) r) (hs : OpS K r o) (ha : PEd Y a f) (hb : PEd Y b g) : PEd Y (.BinOp a op b pos) (eOp o f g) := by
  obtain ⟨ta, a1, a2⟩ := ha
  obtain ⟨tb, b1, b2⟩ := hb
  exact ⟨_, fun i => pe_op (ho i) (a1 i) (b1 i), serves_op hs a2 b2⟩
theorem d_cmp {op : CmpOp} {r : R2} {o : PyData → PyData → Option RV} {a b : Expr} {pos : Pos} {f g : ED} (ho : ∀ i, OpR (Y.X i) (compareOp op) r) (hs : OpS K r o) (ha : PEd Y a f) (hb : PEd Y b g) (hm : behindInMarks op b = false := by first | exact nomark _ | rfl) :
    PEd Y (.Compare a [op] [b] pos) (eOp o f g) := by
  obtain ⟨ta, a1, a2⟩ := ha
  obtain ⟨tb, b1, b2⟩ := hb
  exact ⟨_, fun i => pe_cmpR (ho i) (a1 i) (b1 i) hm, serves_op hs a2 b2⟩
end
end DL
/-! DLb: arguments, displays, calls, tests. -/
namespace DL
open PySem PySem.Spec PyProof.Rows L2
section
variable {K : KF} {k : Nat} {Y : Fm K k}

/-! ### arguments: data, or the very slot -/
inductive Ar where
  | ex (f : ED)
  | mv (i : Nat)
  | st (f : ED)
inductive XV where
  | dat (d : PyData)
  | sl (i : Nat)
def runA : List Ar → DE → Option (List XV × DE)
  | [], ρ => some ([], ρ)
  | .ex f :: as, ρ => match f ρ with
    | none => none
    | some (r, ρ1) => match runA as ρ1 with
      | none => none
      | some (xs, ρ2) => some (.dat r.d :: xs, ρ2)
  | .st f :: as, ρ => match f ρ with
    | none => none
    | some (r, ρ1) => (match r.d with
      | .tuple ds => (match runA as ρ1 with
        | none => none
        | some (xs, ρ2) => some (ds.map .dat ++ xs, ρ2))
      | .list ds => (match runA as ρ1 with
        | none => none
        | some (xs, ρ2) => some (ds.map .dat ++ xs, ρ2))
      | _ => none)
  | .mv i :: as, ρ => match ρ[i]? with
    | some (.dat _) => (match runA as ρ with
      | none => none
      | some (xs, ρ2) => some (.sl i :: xs, ρ2))
    | some (.gro _) => (match runA as ρ with
      | none => none
      | some (xs, ρ2) => some (.sl i :: xs, ρ2))
    | _ => none
def XOk (K : KF) (F : Hp) (σ : Sg) (v : V) : XV → Prop
  | .dat d => Dp K F v d
  | .sl i => σ[i]? = some (some v)
inductive XsOk (K : KF) (F : Hp) (σ : Sg) : List V → List XV → Prop
  | nil : XsOk K F σ [] []
  | cons {v : V} {vs : List V} {x : XV} {xs : List XV} : XOk K F σ v x → XsOk K F σ vs xs → XsOk K F σ (v :: vs) (x :: xs)
theorem XOk.mono {F G : Hp} {σ : Sg} {v : V} {x : XV} (h : XOk K F σ v x) (s : Same F G) : XOk K G σ v x := by
  cases x with
  | dat d => exact dpMono s d v h
  | sl i => exact h
def ServesA (K : KF) (t : TA) (as : List Ar) : Prop := ∀ (F H : Hp) (σ : Sg) (ρ ρ' : DE) (xs : List XV) (Q : List V → Hp → Prop), Rep K F H σ ρ → runA as ρ = some (xs, ρ') →
  (∀ vs F' H', PostE K F H σ ρ F' H' ρ' → XsOk K F' σ vs xs → Q vs H') → t σ H Q
variable (Y) in
def PAd (es : List Expr) (as : List Ar) : Prop := ∃ t, (∀ i, PA (Y.X i) es t) ∧ ServesA K t as
theorem a_nil : PAd Y [] [] := ⟨_, fun _ => pa_nil, fun F H σ ρ ρ' xs Q R e q => by
  cases e
  exact q [] F H (PostE.refl R) .nil⟩
theorem a_cons {e : Expr} {es : List Expr} {f : ED} {as : List Ar} (h1 : PEd Y e f) (h2 : PAd Y es as) (hs : ∀ i, starEach (e :: es) (Y.X i).env = (false, eval e (Y.X i).env) :: starEach es (Y.X i).env := by intro _; rfl) : PAd Y (e :: es) (.ex f :: as) := by
  obtain ⟨t, a1, a2⟩ := h1
  obtain ⟨u, b1, b2⟩ := h2
  refine ⟨_, fun i => pa_cons (a1 i) (b1 i) (hs i), fun F H σ ρ ρ' xs Q R e q => ?_⟩
  unfold runA at e
  cases e1 : f ρ with
  | none => rw [e1] at e; cases e
  | some p1 =>
    obtain ⟨r, ρ1⟩ := p1
    rw [e1] at e
    simp only at e
    cases e2 : runA as ρ1 with
    | none => rw [e2] at e; cases e
    | some p2 =>
      obtain ⟨ys, ρ2⟩ := p2
      rw [e2] at e
      cases e
      refine a2.d R e1 fun v F1 H1 p1 d1 => ?_
      refine b2 F1 H1 σ ρ1 ρ' ys _ p1.rep e2 fun vs F2 H2 p2 d2 => ?_
      exact q (v :: vs) F2 H2 (p1.trans p2) (.cons (dpMono p2.ext.f _ _ d1) d2)
theorem a_mv (i : Nat) {x : Str} {pos : Pos} {es : List Expr} {as : List Ar} (h2 : PAd Y es as) (hN : ∀ j, (Y.X j).N[i]? = some x := by intro _; rfl) (hv : ∀ j, Vis (Y.X j).env.scope x := by intro _; first | exact Or.inl rfl | exact Or.inr (Or.inl rfl) | exact Or.inr (Or.inr rfl)) (hd : (x == ("__debug__" : Str)) = false := by decide)
    (hcd : (x == ("__classdict__" : Str)) = false := by decide) (hs : ∀ j, starEach (.Name x pos :: es) (Y.X j).env = (false, eval (.Name x pos) (Y.X j).env) :: starEach es (Y.X j).env := by intro _; rfl) : PAd Y (.Name x pos :: es) (.mv i :: as) := by
  obtain ⟨u, b1, b2⟩ := h2
  refine ⟨_, fun j => pa_cons (pe_var (hN j) (hv j) hd hcd) (b1 j) (hs j), fun F H σ ρ ρ' xs Q R e q => ?_⟩
  have key : ∀ v, σ[i]? = some (some v) → (match runA as ρ with | none => none | some (xs, ρ2) => some (XV.sl i :: xs, ρ2)) = some (xs, ρ') → tCons (tVar i) u σ H Q := fun v hv e => by
    cases e2 : runA as ρ with
    | none => rw [e2] at e; cases e
    | some p2 =>
      obtain ⟨ys, ρ2⟩ := p2
      rw [e2] at e
      cases e
      refine ⟨v, hv, b2 F H σ ρ ρ' ys _ R e2 fun vs F2 H2 p2 d2 => ?_⟩
      exact q (v :: vs) F2 H2 p2 (.cons hv d2)
  unfold runA at e
  cases hx : ρ[i]? with
  | none => rw [hx] at e; cases e
  | some s =>
    rw [hx] at e
    cases s with
    | un => cases e
    | dat d =>
      obtain ⟨v, h1, _⟩ := R.slot i _ hx
      exact key v h1 e
    | gro ds =>
      obtain ⟨a, vs, h1, _⟩ := R.slot i _ hx
      exact key _ h1 e
theorem xsApp {F : Hp} {σ : Sg} : ∀ {ds : List PyData} {vs ws : List V} {xs : List XV}, DpAll K F vs ds → XsOk K F σ ws xs → XsOk K F σ (vs ++ ws) (ds.map .dat ++ xs)
  | [], _, _, _, h, h2 => by cases h; exact h2
  | _ :: _, _, _, _, h, h2 => by
    cases h with
    | cons a b => exact .cons a (xsApp b h2)
/-- *e among the items -/
theorem a_st {e : Expr} {es : List Expr} {f : ED} {as : List Ar} {p : Pos} (h1 : PEd Y e f) (h2 : PAd Y es as) (hs : ∀ i, starEach (.Starred e p :: es) (Y.X i).env = (true, eval e (Y.X i).env) :: starEach es (Y.X i).env := by intro _; rfl) : PAd Y (.Starred e p :: es) (.st f :: as) := by
  obtain ⟨t, a1, a2⟩ := h1
  obtain ⟨u, b1, b2⟩ := h2
  refine ⟨StX.tStar K t u, fun i => ?_, fun F H σ ρ ρ' xs Q R e q => ?_⟩
  · have z := StX.pa_star (p := p) (a1 i) (b1 i) (hs i)
    rw [Y.hK i] at z
    exact z
  · unfold runA at e
    cases e1 : f ρ with
    | none => rw [e1] at e; cases e
    | some p1 =>
      obtain ⟨r, ρ1⟩ := p1
      rw [e1] at e
      simp only at e
      refine a2.d R e1 fun v F1 H1 p1 d1 => ?_
      split at e
      · rename_i ds er
        rw [er] at d1
        cases e2 : runA as ρ1 with
        | none => rw [e2] at e; cases e
        | some p2 =>
          obtain ⟨ys, ρ2⟩ := p2
          rw [e2] at e
          cases e
          cases d1 with
          | @tup a ws _ g1 g2 =>
            have g1' : SqT K H1 a ws := (g1.same p1.rep.sub).sq
            refine ⟨a, ws, rfl, .inl g1', b2 F1 H1 σ ρ1 ρ' ys _ p1.rep e2 fun vs F2 H2 p2 d2 => ?_⟩
            exact q (ws ++ vs) F2 H2 (p1.trans p2) (xsApp (dpAllMono p2.ext.f _ _ g2) d2)
      · rename_i ds er
        rw [er] at d1
        cases e2 : runA as ρ1 with
        | none => rw [e2] at e; cases e
        | some p2 =>
          obtain ⟨ys, ρ2⟩ := p2
          rw [e2] at e
          cases e
          cases d1 with
          | @lst a ws _ g1 g2 =>
            refine ⟨a, ws, rfl, .inr (p1.rep.sub.seq g1), b2 F1 H1 σ ρ1 ρ' ys _ p1.rep e2 fun vs F2 H2 p2 d2 => ?_⟩
            exact q (ws ++ vs) F2 H2 (p1.trans p2) (xsApp (dpAllMono p2.ext.f _ _ g2) d2)
      · cases e
/-- data alone -/
def allDat : List XV → Option (List PyData)
  | [] => some []
  | .dat d :: xs => (allDat xs).map (d :: ·)
  | .sl _ :: _ => none
theorem allDat_ok {F : Hp} {σ : Sg} : ∀ {vs : List V} {xs : List XV} {ds : List PyData}, XsOk K F σ vs xs → allDat xs = some ds → DpAll K F vs ds
  | _, _, _, .nil, e => by cases e; exact .nil
  | _, _, _, .cons (x := .dat d) h1 h2, e => by
    simp only [allDat, Option.map_eq_some_iff] at e
    obtain ⟨es, e1, rfl⟩ := e
    exact .cons h1 (allDat_ok h2 e1)
  | _, _, _, .cons (x := .sl i) h1 h2, e => by cases e
def runD (as : List Ar) : DE → Option (List PyData × DE) := fun ρ => match runA as ρ with
  | none => none
  | some (xs, ρ1) => match allDat xs with
    | none => none
    | some ds => some (ds, ρ1)
theorem ServesA.d {t : TA} {as : List Ar} (h : ServesA K t as) {F H : Hp} {σ : Sg} {ρ ρ' : DE} {ds : List PyData} {Q : List V → Hp → Prop} (R : Rep K F H σ ρ) (e : runD as ρ = some (ds, ρ'))
    (q : ∀ vs F' H', PostE K F H σ ρ F' H' ρ' → DpAll K F' vs ds → Q vs H') : t σ H Q := by
  unfold runD at e
  cases e1 : runA as ρ with
  | none => rw [e1] at e; cases e
  | some p1 =>
    obtain ⟨xs, ρ1⟩ := p1
    rw [e1] at e
    simp only at e
    cases e2 : allDat xs with
    | none => rw [e2] at e; cases e
    | some es =>
      rw [e2] at e
      cases e
      exact h F H σ ρ ρ' xs Q R e1 fun vs F' H' p x => q vs F' H' p (allDat_ok x e2)

/-! ### displays -/
def eTup (as : List Ar) : ED := fun ρ => match runD as ρ with
  | none => none
  | some (ds, ρ1) => if ds.length ≤ sizeLine then some (.dat (.tuple ds), ρ1) else none
def eLst (as : List Ar) : ED := fun ρ => match runD as ρ with
  | none => none
  | some (ds, ρ1) => if ds.length ≤ sizeLine then some (.new ds, ρ1) else none
theorem d_tup {es : List Expr} {as : List Ar} {x1} {pos : Pos} (h : PAd Y es as) : PEd Y (.Tuple es x1 pos) (eTup as) := by
  obtain ⟨t, a1, a2⟩ := h
  refine ⟨_, fun i => pe_tupF (a1 i), fun F H σ ρ ρ' r Q R e q => ?_⟩
  unfold eTup at e
  cases e1 : runD as ρ with
  | none => rw [e1] at e; cases e
  | some p1 =>
    obtain ⟨ds, ρ1⟩ := p1
    rw [e1] at e
    simp only at e
    split at e
    · rename_i hz
      cases e
      refine a2.d R e1 fun vs F1 H1 p1 d1 => ⟨by rw [dpAllLen d1]; exact hz, fun p o hp ho => ?_⟩
      have e0 : Ext No F1 H1 (upd F1 p (.frz o (.tup vs))) (upd H1 p (.frz o (.tup vs))) := Ext.new hp p1.rep.sub
      exact q _ (upd F1 p (.frz o (.tup vs))) _ (p1.ext0 e0 (Same.new p1.rep.sub)) (.tup (TQ.of ho) (dpAllMono e0.f _ _ d1))
    · cases e
theorem d_lst {es : List Expr} {as : List Ar} {pos : Pos} (h : PAd Y es as) : PEd Y (.List es pos) (eLst as) := by
  obtain ⟨t, a1, a2⟩ := h
  refine ⟨_, fun i => pe_lst (a1 i), fun F H σ ρ ρ' r Q R e q => ?_⟩
  unfold eLst at e
  cases e1 : runD as ρ with
  | none => rw [e1] at e; cases e
  | some p1 =>
    obtain ⟨ds, ρ1⟩ := p1
    rw [e1] at e
    simp only at e
    split at e
    · rename_i hz
      cases e
      refine a2.d R e1 fun vs F1 H1 p1 d1 => ⟨by rw [dpAllLen d1]; exact hz, fun p hp => ?_⟩
      have hf : F1 p = none := by
        cases z : F1 p with
        | none => rfl
        | some o => have w := p1.rep.sub _ _ z; rw [hp] at w; cases w
      exact q _ F1 _ (p1.ext0 (Ext.newM hp) (Same.newM p1.rep.sub hp)) ⟨p, vs, rfl, upd_same, hf, d1, p1.ext.k p hp⟩
    · cases e

/-! ### built-ins called -/
def CallS (K : KF) (r : List V → Hp → VK → Prop) (g : List PyData → Option RV) : Prop := ∀ (F H : Hp) (vs : List V) (ds : List PyData) (rv : RV) (Q : VK), Same F H → DpAll K F vs ds → g ds = some rv →
  (∀ v F' H', Same F' H' → Ext No F H F' H' → ResOk K F' H' H v rv → Q v H') → r vs H Q
def eCall (g : List PyData → Option RV) (as : List Ar) : ED := fun ρ => match runD as ρ with
  | none => none
  | some (ds, ρ1) => match g ds with
    | none => none
    | some r => some (r, ρ1)
theorem serves_call {r : List V → Hp → VK → Prop} {g : List PyData → Option RV} {t : TA} {as : List Ar} (hr : CallS K r g) (ha : ServesA K t as) : Serves K (tCB r t) (eCall g as) := fun F H σ ρ ρ' rv Q R e q => by
  unfold eCall at e
  cases e1 : runD as ρ with
  | none => rw [e1] at e; cases e
  | some p1 =>
    obtain ⟨ds, ρ1⟩ := p1
    rw [e1] at e
    simp only at e
    cases e2 : g ds with
    | none => rw [e2] at e; cases e
    | some r2 =>
      rw [e2] at e
      cases e
      refine ha.d R e1 fun vs F1 H1 p1 d1 => ?_
      exact hr F1 H1 vs ds _ Q p1.rep.sub d1 e2 fun v F' H' s e0 ro => q v F' H' (p1.ext0 e0 s) (ro.back p1.ext.k)
/-- the module's names that are still the built-ins -/
theorem d_callB {id : String} {r : List V → Hp → VK → Prop} {g : List PyData → Option RV} {x : Str} {p pos : Pos} {e : Expr} {es : List Expr} {as : List Ar} (hc : ∀ i, CallR (Y.X i) (.builtin id) r) (hs : CallS K r g) (hm : ∀ i, (Y.X i).mg x = none) (hv : bootBuiltins x = some (.builtin id)) (ha : PAd Y (e :: es) as)
    (hg : ∀ i, Gl (Y.X i) x := by intro _; rfl) (hn : x ≠ "__name__" := by decide) (hdb : (x == ("__debug__" : Str)) = false := by decide) (he : ∀ i, starEach (e :: es) (Y.X i).env = (false, eval e (Y.X i).env) :: starEach es (Y.X i).env := by intro _; rfl)
    (hpl : ∀ i, (backTo pos (starEach es (Y.X i).env)).any (·.1) = false := by intro _; rfl) : PEd Y (.Call (.Name x p) (e :: es) [] pos) (eCall g as) := by
  obtain ⟨t, a1, a2⟩ := ha
  exact ⟨_, fun i => pe_callB (hc i) (hg i) (hm i) hv (a1 i) hn hdb (he i) (hpl i), serves_call hs a2⟩
theorem d_callTy {T : String} {r : List V → Hp → VK → Prop} {g : List PyData → Option RV} {x : Str} {p pos : Pos} {e : Expr} {es : List Expr} {as : List Ar} (hc : ∀ i, CallR (Y.X i) (.type T) r) (hs : CallS K r g) (hm : ∀ i, (Y.X i).mg x = none) (hv : bootBuiltins x = some (.type T)) (ha : PAd Y (e :: es) as)
    (hg : ∀ i, Gl (Y.X i) x := by intro _; rfl) (hn : x ≠ "__name__" := by decide) (hdb : (x == ("__debug__" : Str)) = false := by decide) (he : ∀ i, starEach (e :: es) (Y.X i).env = (false, eval e (Y.X i).env) :: starEach es (Y.X i).env := by intro _; rfl)
    (hpl : ∀ i, (backTo pos (starEach es (Y.X i).env)).any (·.1) = false := by intro _; rfl) : PEd Y (.Call (.Name x p) (e :: es) [] pos) (eCall g as) := by
  obtain ⟨t, a1, a2⟩ := ha
  exact ⟨_, fun i => pe_callTy (hc i) (hg i) (hm i) hv (a1 i) hn hdb (he i) (hpl i), serves_call hs a2⟩

/-! ### subscripts -/
def IxS (K : KF) (r : R2) (op : PyData → PyData → Option RV) : Prop := OpS K r op
theorem d_ix {r : R2} {o : PyData → PyData → Option RV} {a b : Expr} {pos : Pos} {f g : ED} (hr : ∀ i, IxR (Y.X i) r) (hs : OpS K r o) (ha : PEd Y a f) (hb : PEd Y b g) (hp : PlainIx b := by intro _ _; rfl) : PEd Y (.Subscript a b pos) (eOp o f g) := by
  obtain ⟨ta, a1, a2⟩ := ha
  obtain ⟨tb, b1, b2⟩ := hb
  exact ⟨_, fun i => pe_ix (hr i) (a1 i) (b1 i) hp, serves_op hs a2 b2⟩
/-! ### methods of built-in types -/
def MtS (K : KF) (r : V → List V → Hp → VK → Prop) (T : String) (g : PyData → List PyData → Option RV) : Prop := ∀ (F H : Hp) (x : V) (vs : List V) (d : PyData) (ds : List PyData) (rv : RV) (Q : VK), Same F H → Dp K F x d → DpAll K F vs ds → g d ds = some rv →
  tyV K T x H ∧ ((∀ v F' H', Same F' H' → Ext No F H F' H' → ResOk K F' H' H v rv → Q v H') → r x vs H Q)
def eMt (g : PyData → List PyData → Option RV) (f : ED) (as : List Ar) : ED := fun ρ => match f ρ with
  | none => none
  | some (r, ρ1) => match runD as ρ1 with
    | none => none
    | some (ds, ρ2) => match g r.d ds with
      | none => none
      | some r => some (r, ρ2)

/-! ### tests -/
abbrev TD := DE → Option (Bool × DE)
def ServesT (K : KF) (t : TT) (f : TD) : Prop := ∀ (F H : Hp) (σ : Sg) (ρ ρ' : DE) (b : Bool) (Q : Bool → Hp → Prop), Rep K F H σ ρ → f ρ = some (b, ρ') →
  (∀ F' H', PostE K F H σ ρ F' H' ρ' → Q b H') → t σ H Q
variable (Y) in
def PTd (e : Expr) (f : TD) : Prop := ∃ t, (∀ i, PT (Y.X i) e t) ∧ ServesT K t f
variable (Y) in
def PWd (e : Expr) (f : TD) : Prop := ∃ t, (∀ i, PW (Y.X i) e t) ∧ ServesT K t f
/-- a value as a test: only a bool -/
def tV (f : ED) : TD := fun ρ => match f ρ with
  | some (.dat (.bool b), ρ1) => some (b, ρ1)
  | _ => none
theorem servesT_v {t : TE} {f : ED} (h : Serves K t f) : ServesT K (tB t) (tV f) := fun F H σ ρ ρ' b Q R e q => by
  unfold tV at e
  split at e
  · rename_i b1 ρ1 e1
    cases e
    refine h F H σ ρ ρ' _ _ R e1 fun v F1 H1 p d => ?_
    have d : Dp K F1 v (.bool b) := d
    cases d
    exact ⟨b, rfl, q F1 H1 p⟩
  · cases e
theorem t_val {e : Expr} {f : ED} (h : PEd Y e f) (he : ∀ i, ∀ whole, isTrue e (Y.X i).env whole = (do let v ← whole; standAt e.pos; holding [v] (truthy v)) := by intro _ _; rfl) : PTd Y e (tV f) := by
  obtain ⟨t, a1, a2⟩ := h
  exact ⟨_, fun i => pt_val (a1 i) (he i), servesT_v a2⟩
theorem t_cmp {op : CmpOp} {r : R2} {o : PyData → PyData → Option RV} {a b : Expr} {pos : Pos} {f g : ED} (ho : ∀ i, OpR (Y.X i) (compareOp op) r) (hs : OpS K r o) (ha : PEd Y a f) (hb : PEd Y b g) (hm : behindInMarks op b = false := by first | exact nomark _ | rfl) :
    PTd Y (.Compare a [op] [b] pos) (tV (eOp o f g)) := by
  obtain ⟨ta, a1, a2⟩ := ha
  obtain ⟨tb, b1, b2⟩ := hb
  exact ⟨_, fun i => pt_cmpR (ho i) (a1 i) (b1 i) hm, servesT_v (serves_op hs a2 b2)⟩
def tNotD (f : TD) : TD := fun ρ => match f ρ with
  | none => none
  | some (b, ρ1) => some (!b, ρ1)
theorem t_not {a : Expr} {f : TD} {pos : Pos} (h : PTd Y a f) : PTd Y (.UnaryOp .Not a pos) (tNotD f) := by
  obtain ⟨t, a1, a2⟩ := h
  refine ⟨_, fun i => pt_not (a1 i), fun F H σ ρ ρ' b Q R e q => ?_⟩
  unfold tNotD at e
  cases e1 : f ρ with
  | none => rw [e1] at e; cases e
  | some p1 =>
    obtain ⟨c, ρ1⟩ := p1
    rw [e1] at e
    cases e
    exact a2 F H σ ρ ρ' c _ R e1 fun F1 H1 p => q F1 H1 p
def tAndD (f g : TD) : TD := fun ρ => match f ρ with
  | none => none
  | some (true, ρ1) => g ρ1
  | some (false, ρ1) => some (false, ρ1)
def tOrD (f g : TD) : TD := fun ρ => match f ρ with
  | none => none
  | some (true, ρ1) => some (true, ρ1)
  | some (false, ρ1) => g ρ1
theorem PWd.pt {e : Expr} {f : TD} (h : PWd Y e f) : PTd Y e f := by
  obtain ⟨t, a1, a2⟩ := h
  exact ⟨t, fun i => (a1 i).pt, a2⟩
theorem w_and1 {a : Expr} {f : TD} {pos : Pos} (h : PTd Y a f) : PWd Y (.BoolOp .And [a] pos) f := by
  obtain ⟨t, a1, a2⟩ := h
  exact ⟨t, fun i => pw_and1 (a1 i), a2⟩
theorem w_or1 {a : Expr} {f : TD} {pos : Pos} (h : PTd Y a f) : PWd Y (.BoolOp .Or [a] pos) f := by
  obtain ⟨t, a1, a2⟩ := h
  exact ⟨t, fun i => pw_or1 (a1 i), a2⟩
theorem w_and {a b : Expr} {rest : List Expr} {f g : TD} {pos : Pos} (h : PTd Y a f) (h2 : PWd Y (.BoolOp .And (b :: rest) pos) g) : PWd Y (.BoolOp .And (a :: b :: rest) pos) (tAndD f g) := by
  obtain ⟨t, a1, a2⟩ := h
  obtain ⟨u, b1, b2⟩ := h2
  refine ⟨_, fun i => pw_and (a1 i) (b1 i), fun F H σ ρ ρ' b Q R e q => ?_⟩
  unfold tAndD at e
  cases e1 : f ρ with
  | none => rw [e1] at e; cases e
  | some p1 =>
    obtain ⟨c, ρ1⟩ := p1
    rw [e1] at e
    refine a2 F H σ ρ ρ1 c _ R e1 fun F1 H1 p => ?_
    cases c with
    | true =>
      refine iteT (b2 F1 H1 σ ρ1 ρ' b _ p.rep e fun F2 H2 p2 => q F2 H2 (p.trans p2))
    | false =>
      cases e
      exact iteF (q F1 H1 p)
theorem w_or {a b : Expr} {rest : List Expr} {f g : TD} {pos : Pos} (h : PTd Y a f) (h2 : PWd Y (.BoolOp .Or (b :: rest) pos) g) : PWd Y (.BoolOp .Or (a :: b :: rest) pos) (tOrD f g) := by
  obtain ⟨t, a1, a2⟩ := h
  obtain ⟨u, b1, b2⟩ := h2
  refine ⟨_, fun i => pw_or (a1 i) (b1 i), fun F H σ ρ ρ' b Q R e q => ?_⟩
  unfold tOrD at e
  cases e1 : f ρ with
  | none => rw [e1] at e; cases e
  | some p1 =>
    obtain ⟨c, ρ1⟩ := p1
    rw [e1] at e
    refine a2 F H σ ρ ρ1 c _ R e1 fun F1 H1 p => ?_
    cases c with
    | false =>
      refine iteF (b2 F1 H1 σ ρ1 ρ' b _ p.rep e fun F2 H2 p2 => q F2 H2 (p.trans p2))
    | true =>
      cases e
      exact iteT (q F1 H1 p)
/-! ### and, or, not as values (all but the last one bools) -/
def eAnd (f g : ED) : ED := fun ρ => match f ρ with
  | some (.dat (.bool true), ρ1) => g ρ1
  | some (.dat (.bool false), ρ1) => some (.dat (.bool false), ρ1)
  | _ => none
def eOr (f g : ED) : ED := fun ρ => match f ρ with
  | some (.dat (.bool true), ρ1) => some (.dat (.bool true), ρ1)
  | some (.dat (.bool false), ρ1) => g ρ1
  | _ => none
def eNot (f : ED) : ED := fun ρ => match f ρ with
  | some (.dat (.bool b), ρ1) => some (.dat (.bool (!b)), ρ1)
  | _ => none
theorem d_one {op} {a : Expr} {f : ED} {pos : Pos} (h : PEd Y a f) : PEd Y (.BoolOp op [a] pos) f := by
  obtain ⟨t, a1, a2⟩ := h
  exact ⟨t, fun i => pe_one (a1 i), a2⟩
theorem d_and {a b : Expr} {rest : List Expr} {f g : ED} {pos : Pos} (h : PEd Y a f) (h2 : PEd Y (.BoolOp .And (b :: rest) pos) g) : PEd Y (.BoolOp .And (a :: b :: rest) pos) (eAnd f g) := by
  obtain ⟨t, a1, a2⟩ := h
  obtain ⟨u, b1, b2⟩ := h2
  refine ⟨_, fun i => pe_and (a1 i) (b1 i), fun F H σ ρ ρ' r Q R e q => ?_⟩
  unfold eAnd at e
  split at e
  · rename_i ρ1 e1
    refine a2 F H σ ρ ρ1 _ _ R e1 fun v F1 H1 p d => ?_
    have d : Dp K F1 v (.bool true) := d
    cases d
    refine ⟨true, rfl, iteT ?_⟩
    exact b2 F1 H1 σ ρ1 ρ' r _ p.rep e fun v F2 H2 p2 ro => q v F2 H2 (p.trans p2) (ro.back p.ext.k)
  · rename_i ρ1 e1
    cases e
    refine a2 F H σ ρ ρ' _ _ R e1 fun v F1 H1 p d => ?_
    have d : Dp K F1 v (.bool false) := d
    cases d
    exact ⟨false, rfl, iteF (q _ F1 H1 p (.bl false))⟩
  · cases e
theorem d_or {a b : Expr} {rest : List Expr} {f g : ED} {pos : Pos} (h : PEd Y a f) (h2 : PEd Y (.BoolOp .Or (b :: rest) pos) g) : PEd Y (.BoolOp .Or (a :: b :: rest) pos) (eOr f g) := by
  obtain ⟨t, a1, a2⟩ := h
  obtain ⟨u, b1, b2⟩ := h2
  refine ⟨_, fun i => pe_or (a1 i) (b1 i), fun F H σ ρ ρ' r Q R e q => ?_⟩
  unfold eOr at e
  split at e
  · rename_i ρ1 e1
    cases e
    refine a2 F H σ ρ ρ' _ _ R e1 fun v F1 H1 p d => ?_
    have d : Dp K F1 v (.bool true) := d
    cases d
    exact ⟨true, rfl, iteT (q _ F1 H1 p (.bl true))⟩
  · rename_i ρ1 e1
    refine a2 F H σ ρ ρ1 _ _ R e1 fun v F1 H1 p d => ?_
    have d : Dp K F1 v (.bool false) := d
    cases d
    refine ⟨false, rfl, iteF ?_⟩
    exact b2 F1 H1 σ ρ1 ρ' r _ p.rep e fun v F2 H2 p2 ro => q v F2 H2 (p.trans p2) (ro.back p.ext.k)
  · cases e
theorem d_not {a : Expr} {f : ED} {pos : Pos} (h : PEd Y a f) : PEd Y (.UnaryOp .Not a pos) (eNot f) := by
  obtain ⟨t, a1, a2⟩ := h
  refine ⟨_, fun i => pe_not (a1 i), fun F H σ ρ ρ' r Q R e q => ?_⟩
  unfold eNot at e
  split at e
  · rename_i b ρ1 e1
    cases e
    refine a2 F H σ ρ ρ' _ _ R e1 fun v F1 H1 p d => ?_
    have d : Dp K F1 v (.bool b) := d
    cases d
    exact ⟨b, rfl, q _ F1 H1 p (.bl _)⟩
  · cases e
/-- a if t else b -/
def eIf (t : TD) (f g : ED) : ED := fun ρ => match t ρ with
  | none => none
  | some (true, ρ1) => f ρ1
  | some (false, ρ1) => g ρ1
theorem d_if {c a b : Expr} {t : TD} {f g : ED} {pos : Pos} (h : PTd Y c t) (h1 : PEd Y a f) (h2 : PEd Y b g) : PEd Y (.IfExp c a b pos) (eIf t f g) := by
  obtain ⟨tc, c1, c2⟩ := h
  obtain ⟨ta, a1, a2⟩ := h1
  obtain ⟨tb, b1, b2⟩ := h2
  refine ⟨_, fun i => pe_ifExp (c1 i) (a1 i) (b1 i), fun F H σ ρ ρ' r Q R e q => ?_⟩
  unfold eIf at e
  cases e1 : t ρ with
  | none => rw [e1] at e; cases e
  | some p1 =>
    obtain ⟨c, ρ1⟩ := p1
    rw [e1] at e
    refine c2 F H σ ρ ρ1 c _ R e1 fun F1 H1 p => ?_
    cases c with
    | true => exact iteT (a2 F1 H1 σ ρ1 ρ' r _ p.rep e fun v F2 H2 p2 ro => q v F2 H2 (p.trans p2) (ro.back p.ext.k))
    | false => exact iteF (b2 F1 H1 σ ρ1 ρ' r _ p.rep e fun v F2 H2 p2 ro => q v F2 H2 (p.trans p2) (ro.back p.ext.k))
/-! ### a chain of two comparisons -/
def eChain (o o' : PyData → PyData → Option RV) (f g h : ED) : ED := fun ρ => match f ρ with
  | none => none
  | some (a, ρ1) => match g ρ1 with
    | none => none
    | some (b, ρ2) => match o a.d b.d with
      | some (.dat (.bool true)) => (match h ρ2 with
        | none => none
        | some (c, ρ3) => match o' b.d c.d with
          | none => none
          | some r => some (r, ρ3))
      | some (.dat (.bool false)) => some (.dat (.bool false), ρ2)
      | _ => none
theorem serves_chain {r r' : R2} {o o' : PyData → PyData → Option RV} {ta tb tc : TE} {f g h : ED} (ho : OpS K r o) (ho' : OpS K r' o') (ha : Serves K ta f) (hb : Serves K tb g) (hc : Serves K tc h) : Serves K (tChain r r' ta tb tc) (eChain o o' f g h) := fun F H σ ρ ρ' rv Q R e q => by
  unfold eChain at e
  cases h1 : f ρ with
  | none => rw [h1] at e; cases e
  | some p1 =>
    obtain ⟨a, ρ1⟩ := p1
    rw [h1] at e
    simp only at e
    cases h2 : g ρ1 with
    | none => rw [h2] at e; cases e
    | some p2 =>
      obtain ⟨b, ρ2⟩ := p2
      rw [h2] at e
      simp only at e
      refine ha.d R h1 fun x F1 H1 p1 dx => ?_
      refine hb.d p1.rep h2 fun y F2 H2 p2 dy => ?_
      have p := p1.trans p2
      split at e
      · rename_i h3
        refine ho F2 H2 x y _ _ _ _ p.rep.sub (dpMono p2.ext.f _ _ dx) dy h3 fun v F3 H3 s3 e3 ro => ?_
        have ro : Dp K F3 v (.bool true) := ro
        cases ro
        refine ⟨true, rfl, iteT ?_⟩
        have p3 := p.ext0 e3 s3
        cases h4 : h ρ2 with
        | none => rw [h4] at e; cases e
        | some p4 =>
          obtain ⟨c, ρ3⟩ := p4
          rw [h4] at e
          simp only at e
          cases h5 : o' b.d c.d with
          | none => rw [h5] at e; cases e
          | some r5 =>
            rw [h5] at e
            cases e
            refine hc.d p3.rep h4 fun z F4 H4 p4 dz => ?_
            have p5 := p3.trans p4
            refine ho' F4 H4 y z _ _ _ Q p5.rep.sub (dpMono (e3.f.trans p4.ext.f) _ _ dy) dz h5 fun v F' H' s6 e6 ro => ?_
            exact q v F' H' (p5.ext0 e6 s6) (ro.back p5.ext.k)
      · rename_i h3
        cases e
        refine ho F2 H2 x y _ _ _ _ p.rep.sub (dpMono p2.ext.f _ _ dx) dy h3 fun v F3 H3 s3 e3 ro => ?_
        have ro : Dp K F3 v (.bool false) := ro
        cases ro
        exact ⟨false, rfl, iteF (q _ F3 H3 (p.ext0 e3 s3) (.bl false))⟩
      · cases e
theorem d_chain {op op' : CmpOp} {r r' : R2} {o o' : PyData → PyData → Option RV} {a b c : Expr} {pos : Pos} {f g h : ED} (ho : ∀ i, OpR (Y.X i) (compareOp op) r) (hs : OpS K r o) (ho' : ∀ i, OpR (Y.X i) (compareOp op') r') (hs' : OpS K r' o') (ha : PEd Y a f) (hb : PEd Y b g) (hc : PEd Y c h)
    (hm : lastMarks [op, op'] [b, c] = false := by with_unfolding_all rfl) : PEd Y (.Compare a [op, op'] [b, c] pos) (eChain o o' f g h) := by
  obtain ⟨ta, a1, a2⟩ := ha
  obtain ⟨tb, b1, b2⟩ := hb
  obtain ⟨tc, c1, c2⟩ := hc
  exact ⟨_, fun i => pe_chain (ho i) (ho' i) (a1 i) (b1 i) (c1 i) hm, serves_chain hs hs' a2 b2 c2⟩
theorem t_chain {op op' : CmpOp} {r r' : R2} {o o' : PyData → PyData → Option RV} {a b c : Expr} {pos : Pos} {f g h : ED} (ho : ∀ i, OpR (Y.X i) (compareOp op) r) (hs : OpS K r o) (ho' : ∀ i, OpR (Y.X i) (compareOp op') r') (hs' : OpS K r' o') (ha : PEd Y a f) (hb : PEd Y b g) (hc : PEd Y c h)
    (hm : lastMarks [op, op'] [b, c] = false := by with_unfolding_all rfl) : PTd Y (.Compare a [op, op'] [b, c] pos) (tV (eChain o o' f g h)) := by
  obtain ⟨ta, a1, a2⟩ := ha
  obtain ⟨tb, b1, b2⟩ := hb
  obtain ⟨tc, c1, c2⟩ := hc
  exact ⟨_, fun i => pt_chain (ho i) (ho' i) (a1 i) (b1 i) (c1 i) hm, servesT_v (serves_chain hs hs' a2 b2 c2)⟩
end
end DL
/-! DLc: statements, targets, loops, comprehensions, defs. -/
namespace DL
open PySem PySem.Spec PyProof.Rows L2
inductive Fl where
  | nx | bk | ct
  | rt (r : RV)
abbrev SD := DE → Option (Fl × DE)
structure PostS (P : List Nat) (K : KF) (F0 H0 : Hp) (σ0 : Sg) (ρ0 : DE) (F H : Hp) (σ : Sg) (ρ : DE) : Prop where
  rep : Rep K F H σ ρ
  ext : Ext (Mt σ0 ρ0) F0 H0 F H
  mt : ∀ a, Mt σ ρ a → Mt σ0 ρ0 a ∨ H0 a = none
  pin : ∀ j, j ∈ P → σ[j]? = σ0[j]?
section
variable {K : KF} {P : List Nat}
theorem PostS.refl {F H : Hp} {σ : Sg} {ρ : DE} (R : Rep K F H σ ρ) : PostS P K F H σ ρ F H σ ρ := ⟨R, Ext.refl, fun _ h => .inl h, fun _ _ => rfl⟩
theorem PostS.trans {F H F1 H1 F2 H2 : Hp} {σ σ1 σ2 : Sg} {ρ ρ1 ρ2 : DE} (a : PostS P K F H σ ρ F1 H1 σ1 ρ1) (b : PostS P K F1 H1 σ1 ρ1 F2 H2 σ2 ρ2) : PostS P K F H σ ρ F2 H2 σ2 ρ2 :=
  ⟨b.rep, a.ext.trans b.ext a.mt, fun x z => (b.mt x z).elim (a.mt x) fun e => .inr (a.ext.k x e), fun j hj => (b.pin j hj).trans (a.pin j hj)⟩
theorem PostE.s {F H F1 H1 : Hp} {σ : Sg} {ρ ρ1 : DE} (a : PostE K F H σ ρ F1 H1 ρ1) : PostS P K F H σ ρ F1 H1 σ ρ1 := ⟨a.rep, a.ext, fun x z => .inl (a.mt x z), fun _ _ => rfl⟩
theorem get_set_self {α : Type} {l : List α} {i : Nat} {x y : α} (h : (l.set i x)[i]? = some y) : y = x := by
  rw [List.getElem?_set] at h
  simp only [if_true] at h
  split at h
  · exact (Option.some.inj h).symm
  · cases h
theorem set_lt {α : Type} {l : List α} {i : Nat} {x y : α} (h : (l.set i x)[i]? = some y) : i < l.length := by
  have z := (List.getElem?_eq_some_iff.mp h).1
  simpa using z
/-- a value is stored -/
theorem store {F H F1 H1 : Hp} {σ : Sg} {ρ ρ1 : DE} {i : Nat} {v : V} {r : RV} (R : Rep K F H σ ρ) (p : PostE K F H σ ρ F1 H1 ρ1) (ro : ResOk K F1 H1 H v r) (hi : i ∉ P) : PostS P K F H σ ρ F1 H1 (σ.set i (some v)) (ρ1.set i r.sv) := by
  have hl := p.rep.len
  have old : ∀ j a, j ≠ i → MutAt (σ.set i (some v)) (ρ1.set i r.sv) j a → MutAt σ ρ1 j a := fun j a hj ⟨⟨ds, h1⟩, h2⟩ => by
    rw [List.getElem?_set_ne (Ne.symm hj)] at h1 h2
    exact ⟨⟨ds, h1⟩, h2⟩
  have new : ∀ a, MutAt (σ.set i (some v)) (ρ1.set i r.sv) i a → H a = none := fun a ⟨⟨ds, h1⟩, h2⟩ => by
    have e1 := get_set_self h1
    have e2 := get_set_self h2
    cases r with
    | dat d => cases e1
    | new es =>
      obtain ⟨b, vs, e3, _, _, _, h5⟩ := ro
      rw [e3] at e2
      cases e2
      exact h5
  have was : ∀ a, Mt σ ρ1 a → H a ≠ none := fun a z e => by
    obtain ⟨vs, q⟩ := R.mtSome (p.mt a z)
    rw [e] at q; cases q
  refine ⟨⟨p.rep.sub, by rw [List.length_set, List.length_set]; exact hl, fun j s hs => ?_, fun j l a x y => ?_⟩, p.ext, fun a ⟨j, z⟩ => ?_, fun j hj => ?_⟩
  · by_cases hj : j = i
    · subst hj
      have e1 := get_set_self hs
      have hlt := set_lt hs
      subst e1
      rw [List.getElem?_set_self (by omega)]
      cases r with
      | dat d => exact ⟨v, rfl, ro⟩
      | new ds =>
        obtain ⟨a, vs, rfl, h1, h2, h3, h4⟩ := ro
        exact ⟨a, vs, rfl, h1, h2, h3⟩
    · rw [List.getElem?_set_ne (Ne.symm hj)] at hs ⊢
      exact p.rep.slot j s hs
  · by_cases hj : j = i
    · by_cases hl2 : l = i
      · rw [hj, hl2]
      · subst hj
        exact absurd (new a x) (was a ⟨l, old l a hl2 y⟩)
    · by_cases hl2 : l = i
      · subst hl2
        exact absurd (new a y) (was a ⟨j, old j a hj x⟩)
      · exact p.rep.apart j l a (old j a hj x) (old l a hl2 y)
  · by_cases hj : j = i
    · subst hj; exact .inr (new a z)
    · exact .inl (p.mt a ⟨j, old j a hj z⟩)
  · rw [List.getElem?_set_ne (fun e => hi (by rw [e]; exact hj))]
theorem storeD {F H : Hp} {σ : Sg} {ρ : DE} {i : Nat} {v : V} {d : PyData} (R : Rep K F H σ ρ) (h : Dp K F v d) (hi : i ∉ P) : PostS P K F H σ ρ F H (σ.set i (some v)) (ρ.set i (.dat d)) :=
  store (r := .dat d) R (PostE.refl R) h hi

/-! ### statements -/
def FlOk (K : KF) (F H H0 : Hp) (D : Ends) (σ : Sg) : Fl → Prop
  | .nx => D.nx σ H
  | .bk => D.bk σ H
  | .ct => D.ct σ H
  | .rt r => ∀ v, ResOk K F H H0 v r → D.rt v H
def ServesS (P : List Nat) (K : KF) (t : TS) (g : SD) : Prop := ∀ (F H : Hp) (σ : Sg) (ρ ρ' : DE) (fl : Fl) (D : Ends), Rep K F H σ ρ → g ρ = some (fl, ρ') →
  (∀ σ' F' H', PostS P K F H σ ρ F' H' σ' ρ' → match fl with
    | .nx => D.nx σ' H'
    | .bk => D.bk σ' H'
    | .ct => D.ct σ' H'
    | .rt r => ∀ v, ResOk K F' H' H v r → D.rt v H') → t D σ H
end
section
variable {K : KF} {k : Nat} (P : List Nat) (Y : Fm K k)
def PSd (st : Stmt) (g : SD) : Prop := ∃ t, (∀ i, PS (Y.X i) st t) ∧ ServesS P K t g
def PSsd (st : List Stmt) (g : SD) : Prop := ∃ t, (∀ i, PSs (Y.X i) st t) ∧ ServesS P K t g
end
section
variable {K : KF} {k : Nat} {P : List Nat} {Y : Fm K k}
def sNx : SD := fun ρ => some (.nx, ρ)
def sSeq (g h : SD) : SD := fun ρ => match g ρ with
  | none => none
  | some (.nx, ρ1) => h ρ1
  | some (.bk, ρ1) => some (.bk, ρ1)
  | some (.ct, ρ1) => some (.ct, ρ1)
  | some (.rt r, ρ1) => some (.rt r, ρ1)
theorem serves_nx : ServesS P K tNext sNx := fun F H σ ρ ρ' fl D R e q => by
  cases e
  exact q σ F H (PostS.refl R)
theorem ss_nil : PSsd P Y [] sNx := ⟨_, fun _ => pss_nil, serves_nx⟩
theorem ss_one {st : Stmt} {g : SD} (h : PSd P Y st g) : PSsd P Y [st] g := by
  obtain ⟨t, a1, a2⟩ := h
  exact ⟨t, fun i => pss_one (a1 i), a2⟩
theorem ss_cons {st : Stmt} {rest : List Stmt} {g h : SD} (h1 : PSd P Y st g) (h2 : PSsd P Y rest h) : PSsd P Y (st :: rest) (sSeq g h) := by
  obtain ⟨t, a1, a2⟩ := h1
  obtain ⟨u, b1, b2⟩ := h2
  refine ⟨_, fun i => pss_cons (a1 i) (b1 i), fun F H σ ρ ρ' fl D R e q => ?_⟩
  unfold sSeq at e
  show t { D with nx := u D } σ H
  cases e1 : g ρ with
  | none => rw [e1] at e; cases e
  | some p1 =>
    obtain ⟨f1, ρ1⟩ := p1
    rw [e1] at e
    refine a2 F H σ ρ ρ1 f1 { D with nx := u D } R e1 fun σ1 F1 H1 p1 => ?_
    cases f1 with
    | nx =>
      refine b2 F1 H1 σ1 ρ1 ρ' fl D p1.rep e fun σ2 F2 H2 p2 => ?_
      have z := q σ2 F2 H2 (p1.trans p2)
      cases fl with
      | rt r => exact fun v ro => z v (ro.back p1.ext.k)
      | nx => exact z
      | bk => exact z
      | ct => exact z
    | bk => cases e; exact q σ1 F1 H1 p1
    | ct => cases e; exact q σ1 F1 H1 p1
    | rt r => cases e; exact q σ1 F1 H1 p1
/-- name = value -/
def sSet (i : Nat) (f : ED) : SD := fun ρ => match f ρ with
  | none => none
  | some (r, ρ1) => some (.nx, ρ1.set i r.sv)
theorem serves_set {i : Nat} {t : TE} {f : ED} (hi : i ∉ P) (h : Serves K t f) : ServesS P K (tAsg t (gName i)) (sSet i f) := fun F H σ ρ ρ' fl D R e q => by
  unfold sSet at e
  cases e1 : f ρ with
  | none => rw [e1] at e; cases e
  | some p1 =>
    obtain ⟨r, ρ1⟩ := p1
    rw [e1] at e
    cases e
    exact h F H σ ρ ρ1 r _ R e1 fun v F1 H1 p ro => q _ F1 H1 (store R p ro hi)
theorem s_set (i : Nat) {x : Str} {e : Expr} {f : ED} {pos pos' : Pos} (he : PEd Y e f) (hi : i ∉ P := by decide) (hN : ∀ j, (Y.X j).N[i]? = some x := by intro _; rfl) (hx : ∀ j, Loc (Y.X j).env.scope x := by intro _; first | exact Or.inl rfl | exact Or.inr rfl)
    (hs : ∀ j, swapsWith e (some (.Name x pos')) pos.line (Y.X j).env = pure false := by intro _; rfl) (hf : ∀ j, (Y.X j).fn x = true ∨ (Y.X j).env.scope.names.lookup x = some .local := by intro _; first | exact .inl rfl | exact .inr rfl) : PSd P Y (.Assign [.Name x pos'] e pos) (sSet i f) := by
  obtain ⟨t, a1, a2⟩ := he
  exact ⟨_, fun j => ps_set (Y.nd j) (hN j) (hx j) (a1 j) (hs j) (hf j), serves_set hi a2⟩
def sExpr (f : ED) : SD := fun ρ => match f ρ with
  | none => none
  | some (_, ρ1) => some (.nx, ρ1)
theorem s_expr {e : Expr} {f : ED} {pos : Pos} (he : PEd Y e f) (hs : ∀ i, swapsWith e none pos.line (Y.X i).env = pure false := by intro _; rfl) : PSd P Y (.Expr e pos) (sExpr f) := by
  obtain ⟨t, a1, a2⟩ := he
  refine ⟨_, fun i => ps_expr (a1 i) (hs i), fun F H σ ρ ρ' fl D R e q => ?_⟩
  unfold sExpr at e
  cases e1 : f ρ with
  | none => rw [e1] at e; cases e
  | some p1 =>
    obtain ⟨r, ρ1⟩ := p1
    rw [e1] at e
    cases e
    exact a2 F H σ ρ _ r _ R e1 fun v F1 H1 p ro => q σ F1 H1 p.s
def sRet (f : ED) : SD := fun ρ => match f ρ with
  | none => none
  | some (r, ρ1) => some (.rt r, ρ1)
theorem s_ret {e : Expr} {f : ED} {pos : Pos} (he : PEd Y e f) : PSd P Y (.Return (some e) pos) (sRet f) := by
  obtain ⟨t, a1, a2⟩ := he
  refine ⟨_, fun i => ps_ret (a1 i), fun F H σ ρ ρ' fl D R e q => ?_⟩
  unfold sRet at e
  cases e1 : f ρ with
  | none => rw [e1] at e; cases e
  | some p1 =>
    obtain ⟨r, ρ1⟩ := p1
    rw [e1] at e
    cases e
    exact a2 F H σ ρ _ r _ R e1 fun v F1 H1 p ro => q σ F1 H1 p.s v ro
def sIf (t : TD) (g h : SD) : SD := fun ρ => match t ρ with
  | none => none
  | some (true, ρ1) => g ρ1
  | some (false, ρ1) => h ρ1
theorem s_if {c : Expr} {a b : List Stmt} {t : TD} {g h : SD} {pos : Pos} (hc : PTd Y c t) (h1 : PSsd P Y a g) (h2 : PSsd P Y b h) : PSd P Y (.If c a b pos) (sIf t g h) := by
  obtain ⟨tc, c1, c2⟩ := hc
  obtain ⟨ta, a1, a2⟩ := h1
  obtain ⟨tb, b1, b2⟩ := h2
  refine ⟨_, fun i => ps_if (c1 i) (a1 i) (b1 i), fun F H σ ρ ρ' fl D R e q => ?_⟩
  unfold sIf at e
  cases e1 : t ρ with
  | none => rw [e1] at e; cases e
  | some p1 =>
    obtain ⟨c, ρ1⟩ := p1
    rw [e1] at e
    refine c2 F H σ ρ ρ1 c _ R e1 fun F1 H1 p => ?_
    have fin : ∀ {σ2 : Sg} {F2 H2 : Hp}, PostS P K F1 H1 σ ρ1 F2 H2 σ2 ρ' → _ := fun {σ2 F2 H2} p2 => q σ2 F2 H2 (p.s.trans p2)
    cases c with
    | true =>
      refine iteT (a2 F1 H1 σ ρ1 ρ' fl D p.rep e fun σ2 F2 H2 p2 => ?_)
      have z := fin p2
      cases fl with
      | rt r => exact fun v ro => z v (ro.back p.ext.k)
      | nx => exact z
      | bk => exact z
      | ct => exact z
    | false =>
      refine iteF (b2 F1 H1 σ ρ1 ρ' fl D p.rep e fun σ2 F2 H2 p2 => ?_)
      have z := fin p2
      cases fl with
      | rt r => exact fun v ro => z v (ro.back p.ext.k)
      | nx => exact z
      | bk => exact z
      | ct => exact z
def sNo : SD := fun _ => none
/-- what is never come to -/
theorem s_no {st : Stmt} : PSd P Y st sNo := ⟨_, fun _ => ps_never, fun F H σ ρ ρ' fl D R e q => by cases e⟩
theorem s_pass {pos : Pos} : PSd P Y (.Pass pos) sNx := ⟨_, fun _ => ps_pass, serves_nx⟩
def sBk : SD := fun ρ => some (.bk, ρ)
def sCt : SD := fun ρ => some (.ct, ρ)
theorem s_break {pos : Pos} : PSd P Y (.Break pos) sBk := ⟨_, fun _ => ps_break, fun F H σ ρ ρ' fl D R e q => by cases e; exact q σ F H (PostS.refl R)⟩
theorem s_continue {pos : Pos} : PSd P Y (.Continue pos) sCt := ⟨_, fun _ => ps_continue, fun F H σ ρ ρ' fl D R e q => by cases e; exact q σ F H (PostS.refl R)⟩

/-! ### targets -/
abbrev GD := PyData → DE → Option DE
abbrev GsD := List PyData → DE → Option DE
def GServes (P : List Nat) (K : KF) (g : TG) (a : GD) : Prop := ∀ (F H : Hp) (σ : Sg) (ρ ρ' : DE) (v : V) (d : PyData) (Q : Sg → Hp → Prop), Rep K F H σ ρ → Dp K F v d → a d ρ = some ρ' → (∀ σ' F' H', PostS P K F H σ ρ F' H' σ' ρ' → Q σ' H') → g v σ H Q
def GsServes (P : List Nat) (K : KF) (g : TGs) (a : GsD) : Prop := ∀ (F H : Hp) (σ : Sg) (ρ ρ' : DE) (vs : List V) (ds : List PyData) (Q : Sg → Hp → Prop), Rep K F H σ ρ → DpAll K F vs ds → a ds ρ = some ρ' → (∀ σ' F' H', PostS P K F H σ ρ F' H' σ' ρ' → Q σ' H') → g vs σ H Q
variable (P Y) in
def PGd (e : Expr) (a : GD) : Prop := ∃ g, (∀ i, PG (Y.X i) e g) ∧ GServes P K g a
variable (P Y) in
def PGsd (es : List Expr) (a : GsD) : Prop := ∃ g, (∀ i, PGs (Y.X i) es g) ∧ GsServes P K g a
def gNm (i : Nat) : GD := fun d ρ => some (ρ.set i (.dat d))
theorem g_name (i : Nat) {x : Str} {pos : Pos} (hi : i ∉ P := by decide) (hN : ∀ j, (Y.X j).N[i]? = some x := by intro _; rfl) (hx : ∀ j, Loc (Y.X j).env.scope x := by intro _; first | exact Or.inl rfl | exact Or.inr rfl)
    (hf : ∀ j, (Y.X j).fn x = true ∨ (Y.X j).env.scope.names.lookup x = some .local := by intro _; first | exact .inl rfl | exact .inr rfl) : PGd P Y (.Name x pos) (gNm i) :=
  ⟨_, fun j => pg_name (Y.nd j) (hN j) (hx j) (hf j), fun F H σ ρ ρ' v d Q R h e q => by
    cases e
    exact q _ F H (storeD R h hi)⟩
def gsNil : GsD := fun ds ρ => match ds with
  | [] => some ρ
  | _ :: _ => none
def gsCons (a : GD) (b : GsD) : GsD := fun ds ρ => match ds with
  | [] => none
  | d :: ds => match a d ρ with
    | none => none
    | some ρ1 => b ds ρ1
theorem gs_nil : PGsd P Y [] gsNil := ⟨_, fun _ => pgs_nil, fun F H σ ρ ρ' vs ds Q R h e q => by
  cases ds with
  | nil =>
    cases e
    cases h
    exact ⟨rfl, q σ F H (PostS.refl R)⟩
  | cons d ds => cases e⟩
theorem gs_cons {e : Expr} {es : List Expr} {a : GD} {b : GsD} (h1 : PGd P Y e a) (h2 : PGsd P Y es b) (hs : ∀ i, (assignEach (e :: es) (Y.X i).env).map (·.2) = assign e (Y.X i).env :: (assignEach es (Y.X i).env).map (·.2) := by intro _; rfl) : PGsd P Y (e :: es) (gsCons a b) := by
  obtain ⟨g, a1, a2⟩ := h1
  obtain ⟨gs, b1, b2⟩ := h2
  refine ⟨_, fun i => pgs_cons (a1 i) (b1 i) (hs i), fun F H σ ρ ρ' vs ds Q R h e q => ?_⟩
  cases h with
  | nil => cases e
  | @cons v vs d ds hd ht =>
    simp only [gsCons] at e
    cases e1 : a d ρ with
    | none => rw [e1] at e; cases e
    | some ρ1 =>
      rw [e1] at e
      refine ⟨v, vs, rfl, a2 F H σ ρ ρ1 v d _ R hd e1 fun σ1 F1 H1 p1 => ?_⟩
      exact b2 F1 H1 σ1 ρ1 ρ' vs ds Q p1.rep (dpAllMono p1.ext.f _ _ ht) e fun σ2 F2 H2 p2 => q σ2 F2 H2 (p1.trans p2)
def gTupD (n : Nat) (b : GsD) : GD := fun d ρ => match d with
  | .tuple ds => if ds.length = n then b ds ρ else none
  | _ => none
theorem g_tup {es : List Expr} {kk : Nat} {pos : Pos} {b : GsD} (n : Nat) (h : PGsd P Y es b) (hn : ∀ i, (assignEach es (Y.X i).env).length = n := by intro _; rfl) (hst : ∀ i, (assignEach es (Y.X i).env).findIdx? (·.1) = none := by intro _; rfl) : PGd P Y (.Tuple es kk pos) (gTupD n b) := by
  obtain ⟨g, a1, a2⟩ := h
  refine ⟨gTup K n g, fun i => ?_, fun F H σ ρ ρ' v d Q R h e q => ?_⟩
  · have z := pg_tup (pos := pos) (k := kk) (Y.calm i) (a1 i) (hn i) (hst i)
    rw [Y.hK i] at z
    exact z
  · cases d with
    | tuple ds =>
      simp only [gTupD] at e
      split at e
      · rename_i hl
        cases h with
        | @tup a xs _ hs ha =>
          exact ⟨a, xs, rfl, (hs.same R.sub).sq, (dpAllLen ha).trans hl, a2 F H σ ρ ρ' xs ds Q R ha e q⟩
      · cases e
    | none => cases e
    | bool b => cases e
    | int b => cases e
    | str b => cases e
    | list b => cases e
    | dict b => cases e
/-- target = value, the target a tuple -/
def sAsg (f : ED) (a : GD) : SD := fun ρ => match f ρ with
  | none => none
  | some (r, ρ1) => match a r.d ρ1 with
    | none => none
    | some ρ2 => some (.nx, ρ2)
theorem s_asg {tg e : Expr} {f : ED} {a : GD} {pos : Pos} (he : PEd Y e f) (hg : PGd P Y tg a) (hs : ∀ i, swapsWithSole [tg] e pos.line (Y.X i).env = pure false := by intro _; rfl) (hw : ∀ i, swappedStores [tg] e (Y.X i).env = pure none := by intro _; rfl)
    (h1 : ∀ i, (assignEach [tg] (Y.X i).env).map (·.2) = [assign tg (Y.X i).env] := by intro _; rfl) : PSd P Y (.Assign [tg] e pos) (sAsg f a) := by
  obtain ⟨t, a1, a2⟩ := he
  obtain ⟨g, b1, b2⟩ := hg
  refine ⟨_, fun i => ps_asg (a1 i) (b1 i) (hs i) (hw i) (h1 i), fun F H σ ρ ρ' fl D R e q => ?_⟩
  unfold sAsg at e
  cases e1 : f ρ with
  | none => rw [e1] at e; cases e
  | some p1 =>
    obtain ⟨r, ρ1⟩ := p1
    rw [e1] at e
    simp only at e
    cases e2 : a r.d ρ1 with
    | none => rw [e2] at e; cases e
    | some ρ2 =>
      rw [e2] at e
      cases e
      refine a2.d R e1 fun v F1 H1 p d => ?_
      exact b2 F1 H1 σ ρ1 ρ' v _ _ p.rep d e2 fun σ2 F2 H2 p2 => q σ2 F2 H2 (p.s.trans p2)
/-- a, b = x, y: two plain local names -/
def sPar (i j : Nat) (as : List Ar) : SD := fun ρ => match runD as ρ with
  | some ([d, e], ρ1) => some (.nx, (ρ1.set i (.dat d)).set j (.dat e))
  | _ => none
theorem s_par (i j : Nat) {x y : Str} {a b : Expr} {as : List Ar} {px py pt pos : Pos} {kt k2 pt2} (ha : PAd Y [a, b] as) (hiP : i ∉ P := by decide) (hjP : j ∉ P := by decide) (hi : ∀ l, (Y.X l).N[i]? = some x := by intro _; rfl) (hj : ∀ l, (Y.X l).N[j]? = some y := by intro _; rfl) (hij : i ≠ j := by decide)
    (hx : ∀ l, (Y.X l).env.scope.names.lookup x = some .local := by intro _; rfl) (hy : ∀ l, (Y.X l).env.scope.names.lookup y = some .local := by intro _; rfl)
    (hw : ∀ l, swappedStores [.Tuple [.Name x px, .Name y py] kt pt] (.Tuple [a, b] k2 pt2) (Y.X l).env = pure (some [x, y]) := by intro _; rfl)
    (hs : ∀ l, swapsWithSole [.Tuple [.Name x px, .Name y py] kt pt] (.Tuple [a, b] k2 pt2) pos.line (Y.X l).env = pure false := by intro _; rfl) :
    PSd P Y (.Assign [.Tuple [.Name x px, .Name y py] kt pt] (.Tuple [a, b] k2 pt2) pos) (sPar i j as) := by
  obtain ⟨t, a1, a2⟩ := ha
  refine ⟨_, fun l => ps_par (Y.calm l) (Y.nd l) (hi l) (hj l) hij (hx l) (hy l) (a1 l) (hw l) (hs l), fun F H σ ρ ρ' fl D R e q => ?_⟩
  unfold sPar at e
  split at e
  · rename_i d1 d2 ρ1 e1
    cases e
    refine a2.d R e1 fun vs F1 H1 p dd => ?_
    cases dd with
    | @cons v _ _ _ h1 h2 =>
      cases h2 with
      | @cons w _ _ _ h2 h3 =>
        cases h3
        have s1 := storeD (P := P) p.rep h1 hiP
        have s2 := storeD (P := P) s1.rep h2 hjP
        exact ⟨v, w, rfl, q _ F1 H1 (p.s.trans (s1.trans s2))⟩
  · cases e

/-! ### what is walked -/
def JOk (K : KF) (J : It) (F0 : Hp) (ds : List PyData) : Prop := ∀ (F H : Hp) (i : Nat), Same F0 F → Same F H → (ds.length ≤ i → J.stop i H) ∧ ∀ d, ds[i]? = some d → J.go i H ∧ ∀ x H', J.yld i H x H' → ∃ F', Same F' H' ∧ Ext No F H F' H' ∧ Dp K F' x d
abbrev ID := DE → Option (List PyData × DE)
def ItServes (K : KF) (wi : TI) (f : ID) : Prop := ∀ (F H : Hp) (σ : Sg) (ρ ρ' : DE) (ds : List PyData) (R : It → Hp → Prop), Rep K F H σ ρ → f ρ = some (ds, ρ') → (∀ J F' H', PostE K F H σ ρ F' H' ρ' → JOk K J F' ds → R J H') → wi σ H R
variable (Y) in
def PId (tg e : Expr) (f : ID) : Prop := ∃ wi, (∀ i, PI (Y.X i) tg e wi) ∧ ItServes K wi f
/-! ### for -/
def loopD (a : GD) (body : SD) : List PyData → SD
  | [], ρ => some (.nx, ρ)
  | d :: ds, ρ => match a d ρ with
    | none => none
    | some ρ1 => match body ρ1 with
      | none => none
      | some (.nx, ρ2) => loopD a body ds ρ2
      | some (.ct, ρ2) => loopD a body ds ρ2
      | some (.bk, ρ2) => some (.nx, ρ2)
      | some (.rt r, ρ2) => some (.rt r, ρ2)
def sFor (it : ID) (a : GD) (body : SD) : SD := fun ρ => match it ρ with
  | none => none
  | some (ds, ρ1) => loopD a body ds ρ1
theorem s_for {tg iter : Expr} {body : List Stmt} {it : ID} {a : GD} {g : SD} {pos : Pos} (hi : PId Y tg iter it) (hg : PGd P Y tg a) (hb : PSsd P Y body g) (hs : ∀ i, ∀ x, foldedSetIterable iter (Y.X i).env x = pure x := by intro _ _; rfl) : PSd P Y (.For tg iter body [] pos) (sFor it a g) := by
  obtain ⟨wi, i1, i2⟩ := hi
  obtain ⟨gg, g1, g2⟩ := hg
  obtain ⟨tb, b1, b2⟩ := hb
  refine ⟨_, fun i => ps_for (Y.own i) (Y.calm i) (i1 i) (g1 i) (b1 i) (hs i), fun F H σ ρ ρ' fl D R e q => ?_⟩
  unfold sFor at e
  cases e1 : it ρ with
  | none => rw [e1] at e; cases e
  | some p1 =>
    obtain ⟨ds, ρ1⟩ := p1
    rw [e1] at e
    refine i2 F H σ ρ ρ1 ds _ R e1 fun J F1 H1 p hJ => ?_
    refine ⟨fun i m σ' H' => m = ds.length - i ∧ i ≤ ds.length ∧ ∃ F' ρi, PostS P K F1 H1 σ ρ1 F' H' σ' ρi ∧ loopD a g (ds.drop i) ρi = some (fl, ρ'), ⟨ds.length, by simp, Nat.zero_le _, F1, ρ1, PostS.refl p.rep, by simpa using e⟩, ?_⟩
    rintro i m σ' H' ⟨rfl, hi, F', ρi, pi, ei⟩
    obtain ⟨stop, go⟩ := hJ F' H' i pi.ext.f pi.rep.sub
    by_cases hlt : i < ds.length
    · obtain ⟨go, yl⟩ := go ds[i] (by simp [hlt])
      refine .inr ⟨go, fun σ2 H2 => i + 1 ≤ ds.length ∧ ∃ F2 ρ2, PostS P K F1 H1 σ ρ1 F2 H2 σ2 ρ2 ∧ loopD a g (ds.drop (i + 1)) ρ2 = some (fl, ρ'), fun σ2 H2 z => ⟨ds.length - (i + 1), by omega, rfl, z.1, z.2⟩, fun x H2 y => ?_⟩
      obtain ⟨F2, s2, x2, d2⟩ := yl x H2 y
      have ed : ds.drop i = ds[i] :: ds.drop (i + 1) := List.drop_eq_getElem_cons hlt
      rw [ed] at ei
      simp only [loopD] at ei
      cases ea : a ds[i] ρi with
      | none => rw [ea] at ei; cases ei
      | some ρ2 =>
        rw [ea] at ei
        simp only at ei
        have R2 := pi.rep.ext0 x2 s2
        have pi2 : PostS P K F1 H1 σ ρ1 F2 H2 σ' ρi := ⟨R2, pi.ext.trans x2 fun _ z => z.elim, pi.mt, pi.pin⟩
        refine g2 F2 H2 σ' ρi ρ2 x ds[i] _ R2 d2 ea fun σ3 F3 H3 p3 => ?_
        have p13 := pi2.trans p3
        cases eb : g ρ2 with
        | none => rw [eb] at ei; cases ei
        | some pb =>
          obtain ⟨fb, ρ3⟩ := pb
          rw [eb] at ei
          refine b2 F3 H3 σ3 ρ2 ρ3 fb _ p3.rep eb fun σ4 F4 H4 p4 => ?_
          have p14 := p13.trans p4
          cases fb with
          | nx => exact ⟨hlt, F4, ρ3, p14, ei⟩
          | ct => exact ⟨hlt, F4, ρ3, p14, ei⟩
          | bk => cases ei; exact q σ4 F4 H4 (p.s.trans p14)
          | rt r =>
            cases ei
            exact fun v ro => q σ4 F4 H4 (p.s.trans p14) v (ro.back fun a z => (p.s.trans p13).ext.k a z)
    · have ei2 : i = ds.length := by omega
      subst ei2
      refine .inl ⟨stop (Nat.le_refl _), ?_⟩
      rw [List.drop_length] at ei
      cases ei
      exact q σ' F' H' (p.s.trans pi)
/-! ### while -/
def whileD (t : TD) (body : SD) : Nat → SD
  | 0, _ => none
  | n + 1, ρ => match t ρ with
    | none => none
    | some (false, ρ1) => some (.nx, ρ1)
    | some (true, ρ1) => match body ρ1 with
      | none => none
      | some (.nx, ρ2) => whileD t body n ρ2
      | some (.ct, ρ2) => whileD t body n ρ2
      | some (.bk, ρ2) => some (.nx, ρ2)
      | some (.rt r, ρ2) => some (.rt r, ρ2)
open Classical in
noncomputable def sWhile (t : TD) (body : SD) : SD := fun ρ => if h : ∃ n x, whileD t body n ρ = some x then some (Classical.choose (Classical.choose_spec h)) else none
theorem whileD_more {t : TD} {body : SD} : ∀ {n : Nat} {ρ : DE} {x}, whileD t body n ρ = some x → whileD t body (n + 1) ρ = some x
  | 0, _, _, h => by cases h
  | n + 1, ρ, x, h => by
    unfold whileD at h ⊢
    split at h
    · cases h
    · exact h
    · split at h
      · cases h
      · rename_i e; exact whileD_more h
      · exact whileD_more h
      · exact h
      · exact h
theorem whileD_le {t : TD} {body : SD} {n : Nat} {ρ : DE} {x} (h : whileD t body n ρ = some x) : ∀ m, n ≤ m → whileD t body m ρ = some x
  | 0, hm => by
    have e : n = 0 := by omega
    subst e; exact h
  | m + 1, hm => by
    by_cases e : n = m + 1
    · subst e; exact h
    · exact whileD_more (whileD_le h m (by omega))
theorem sWhile_some {t : TD} {body : SD} {ρ : DE} {x} (h : sWhile t body ρ = some x) : ∃ n, whileD t body n ρ = some x := by
  unfold sWhile at h
  split at h
  · rename_i hz
    cases h
    exact ⟨_, Classical.choose_spec (Classical.choose_spec hz)⟩
  · cases h
theorem sWhile_of {t : TD} {body : SD} {ρ : DE} {x} {n : Nat} (h : whileD t body n ρ = some x) : sWhile t body ρ = some x := by
  have hz : ∃ n x, whileD t body n ρ = some x := ⟨n, x, h⟩
  unfold sWhile
  rw [dif_pos hz]
  have e := Classical.choose_spec (Classical.choose_spec hz)
  have e1 := whileD_le e (Classical.choose hz + n) (by omega)
  have e2 := whileD_le h (Classical.choose hz + n) (by omega)
  rw [e2] at e1
  exact e1.symm
theorem s_while {c : Expr} {body : List Stmt} {t : TD} {g : SD} {pos : Pos} (hc : PTd Y c t) (hb : PSsd P Y body g) : PSd P Y (.While c body [] pos) (sWhile t g) := by
  obtain ⟨tc, c1, c2⟩ := hc
  obtain ⟨tb, b1, b2⟩ := hb
  refine ⟨_, fun i => ps_while (Y.own i) (c1 i) (b1 i), fun F H σ ρ ρ' fl D R e q => ?_⟩
  obtain ⟨n, en⟩ := sWhile_some e
  refine ⟨fun m σ' H' => ∃ F' ρi, PostS P K F H σ ρ F' H' σ' ρi ∧ whileD t g m ρi = some (fl, ρ'), ⟨n, F, ρ, PostS.refl R, en⟩, ?_⟩
  rintro m σ' H' ⟨F', ρi, pi, ei⟩
  cases m with
  | zero => cases ei
  | succ m =>
    simp only [whileD] at ei
    cases et : t ρi with
    | none => rw [et] at ei; cases ei
    | some pt =>
      obtain ⟨b, ρ1⟩ := pt
      rw [et] at ei
      refine c2 F' H' σ' ρi ρ1 b _ pi.rep et fun F1 H1 p1 => ?_
      have pi1 := pi.trans (p1.s (P := P))
      cases b with
      | false =>
        refine iteF ?_
        cases ei
        exact q σ' F1 H1 pi1
      | true =>
        refine iteT ⟨fun σ2 H2 => ∃ F2 ρ2, PostS P K F H σ ρ F2 H2 σ2 ρ2 ∧ whileD t g m ρ2 = some (fl, ρ'), fun σ2 H2 z => ⟨m, Nat.lt_succ_self m, z⟩, ?_⟩
        simp only at ei
        cases eb : g ρ1 with
        | none => rw [eb] at ei; cases ei
        | some pb =>
          obtain ⟨fb, ρ3⟩ := pb
          rw [eb] at ei
          refine b2 F1 H1 σ' ρ1 ρ3 fb _ p1.rep eb fun σ4 F4 H4 p4 => ?_
          have p14 := pi1.trans p4
          cases fb with
          | nx => exact ⟨F4, ρ3, p14, ei⟩
          | ct => exact ⟨F4, ρ3, p14, ei⟩
          | bk => cases ei; exact q σ4 F4 H4 p14
          | rt r =>
            cases ei
            exact fun v ro => q σ4 F4 H4 p14 v (ro.back pi1.ext.k)
end
end DL
/-! DLd: comprehensions, defs and their calls, lists that grow. -/
namespace DL
open PySem PySem.Spec PyProof.Rows L2
section
variable {K : KF} {k : Nat} {P : List Nat} {Y : Fm K k}
/-! ### comprehensions -/
def wipeD (ρ : DE) : List Nat → DE
  | [] => ρ
  | v :: vs => (wipeD ρ vs).set v .un
theorem wipeD_len (ρ : DE) : ∀ vs, (wipeD ρ vs).length = ρ.length
  | [] => rfl
  | v :: vs => by unfold wipeD; rw [List.length_set, wipeD_len ρ vs]
theorem wipe_out {σ : Sg} {i : Nat} : ∀ {vs : List Nat}, i ∉ vs → (wipe σ vs)[i]? = σ[i]?
  | [], _ => rfl
  | v :: vs, h => by
    unfold wipe
    rw [List.getElem?_set_ne (fun e => h (by simp [e]))]
    exact wipe_out fun z => h (List.mem_cons_of_mem _ z)
theorem wipeD_out {ρ : DE} {i : Nat} : ∀ {vs : List Nat}, i ∉ vs → (wipeD ρ vs)[i]? = ρ[i]?
  | [], _ => rfl
  | v :: vs, h => by
    unfold wipeD
    rw [List.getElem?_set_ne (fun e => h (by simp [e]))]
    exact wipeD_out fun z => h (List.mem_cons_of_mem _ z)
theorem wipeD_in {ρ : DE} {i : Nat} {s : SV} : ∀ {vs : List Nat}, i ∈ vs → (wipeD ρ vs)[i]? = some s → s = .un
  | [], h, _ => by cases h
  | v :: vs, h, e => by
    unfold wipeD at e
    by_cases hi : v = i
    · subst hi; exact get_set_self e
    · rw [List.getElem?_set_ne hi] at e
      rcases List.mem_cons.mp h with z | z
      · exact absurd z.symm hi
      · exact wipeD_in z e
theorem mutAt_wipe {σ : Sg} {ρ : DE} {vs : List Nat} {i : Nat} {a : Addr} (h : MutAt (wipe σ vs) (wipeD ρ vs) i a) : MutAt σ ρ i a ∧ i ∉ vs := by
  obtain ⟨⟨ds, h1⟩, h2⟩ := h
  by_cases hi : i ∈ vs
  · have z := wipeD_in hi h1
    cases z
  · rw [wipeD_out hi] at h1
    rw [wipe_out hi] at h2
    exact ⟨⟨⟨ds, h1⟩, h2⟩, hi⟩
theorem Rep.wipe {F H : Hp} {σ : Sg} {ρ : DE} (R : Rep K F H σ ρ) (vs : List Nat) : Rep K F H (L2.wipe σ vs) (wipeD ρ vs) where
  sub := R.sub
  len := by rw [wipeD_len, wipe_length]; exact R.len
  slot := fun i s hs => by
    by_cases hi : i ∈ vs
    · have z := wipeD_in hi hs
      subst z; trivial
    · rw [wipeD_out hi] at hs
      rw [wipe_out hi]
      exact R.slot i s hs
  apart := fun i j a x y => R.apart i j a (mutAt_wipe x).1 (mutAt_wipe y).1
/-- the block's own slots as they were -/
def restD (ρ0 : DE) (ρ : DE) : List Nat → DE
  | [] => ρ
  | v :: vs => (restD ρ0 ρ vs).set v (ρ0.getD v .un)
theorem restD_len (ρ0 ρ : DE) : ∀ vs, (restD ρ0 ρ vs).length = ρ.length
  | [] => rfl
  | v :: vs => by unfold restD; rw [List.length_set, restD_len ρ0 ρ vs]
theorem restD_out {ρ0 ρ : DE} {i : Nat} : ∀ {vs : List Nat}, i ∉ vs → (restD ρ0 ρ vs)[i]? = ρ[i]?
  | [], _ => rfl
  | v :: vs, h => by
    unfold restD
    rw [List.getElem?_set_ne (fun e => h (by simp [e]))]
    exact restD_out fun z => h (List.mem_cons_of_mem _ z)
theorem restD_in {ρ0 ρ : DE} {i : Nat} {s : SV} : ∀ {vs : List Nat}, i ∈ vs → (restD ρ0 ρ vs)[i]? = some s → s = ρ0.getD i .un
  | [], h, _ => by cases h
  | v :: vs, h, e => by
    unfold restD at e
    by_cases hi : v = i
    · subst hi; exact get_set_self e
    · rw [List.getElem?_set_ne hi] at e
      rcases List.mem_cons.mp h with z | z
      · exact absurd z.symm hi
      · exact restD_in z e
def noGro (ρ : DE) (vs : List Nat) : Bool := vs.all fun v => match ρ[v]? with
  | some (.gro _) => false
  | _ => true
def lcLoop (own : List Nat) (a : GD) (c : TD) (f : ED) : List PyData → List PyData → DE → Option (List PyData × DE)
  | [], acc, ρ => some (acc, ρ)
  | d :: ds, acc, ρ => match a d ρ with
    | none => none
    | some ρ1 => match c ρ1 with
      | none => none
      | some (false, ρ2) => lcLoop own a c f ds acc (wipeD ρ2 own)
      | some (true, ρ2) => match f ρ2 with
        | none => none
        | some (r, ρ3) => if acc.length < sizeLine then lcLoop own a c f ds (acc ++ [r.d]) (wipeD ρ3 own) else none
def eLc (own : List Nat) (it : ID) (a : GD) (c : TD) (f : ED) : ED := fun ρ => match it ρ with
  | none => none
  | some (ds, ρ1) => if noGro ρ1 own then (match lcLoop own a c f ds [] (wipeD ρ1 own) with
      | none => none
      | some (acc, ρ2) => some (.new acc, restD ρ1 ρ2 own)) else none
def tYesD : TD := fun ρ => some (true, ρ)
variable (Y) in
def PTsd (ifs : List Expr) (t : TD) : Prop := ∃ tt, (∀ i, PTs (Y.X i) ifs tt) ∧ ServesT K tt t
theorem c_nil : PTsd Y [] tYesD := ⟨_, fun _ => pts_nil, fun F H σ ρ ρ' b Q R e q => by cases e; exact q F H (PostE.refl R)⟩
theorem c_one {c : Expr} {t : TD} (h : PTd Y c t) : PTsd Y [c] t := by
  obtain ⟨tt, a1, a2⟩ := h
  exact ⟨tt, fun i => pts_one (a1 i), a2⟩
/-- a target that stores in own slots alone -/
def OwnG (own : List Nat) (g : TG) : Prop := ∀ (v : V) (σ : Sg) (H : Hp) (Q : Sg → Hp → Prop), g v σ H Q → g v σ H fun σ2 H2 => L2.wipe σ2 own = L2.wipe σ own ∧ Q σ2 H2
theorem wipe_set {σ : Sg} {i : Nat} {x : Option V} : ∀ {vs : List Nat}, i ∈ vs → L2.wipe (σ.set i x) vs = L2.wipe σ vs
  | [], h => by cases h
  | v :: vs, h => by
    unfold L2.wipe
    by_cases hi : i ∈ vs
    · rw [wipe_set hi]
    · have e : i = v := by
        rcases List.mem_cons.mp h with z | z
        · exact z
        · exact absurd z hi
      subst e
      have key : ∀ (ws : List Nat), L2.wipe (σ.set i x) ws = (L2.wipe σ ws).set i x ∨ True := fun _ => .inr trivial
      apply List.ext_getElem?
      intro j
      by_cases hj : i = j
      · subst hj
        by_cases hl : i < σ.length
        · rw [List.getElem?_set_self (by rw [wipe_length, List.length_set]; exact hl), List.getElem?_set_self (by rw [wipe_length]; exact hl)]
        · rw [List.getElem?_eq_none (by rw [List.length_set, wipe_length, List.length_set]; omega), List.getElem?_eq_none (by rw [List.length_set, wipe_length]; omega)]
      · rw [List.getElem?_set_ne hj, List.getElem?_set_ne hj]
        have key : ∀ (ws : List Nat), (L2.wipe (σ.set i x) ws)[j]? = (L2.wipe σ ws)[j]? := by
          intro ws
          induction ws with
          | nil => show (σ.set i x)[j]? = σ[j]?; rw [List.getElem?_set_ne hj]
          | cons w ws ih =>
            unfold L2.wipe
            by_cases hw : w = j
            · subst hw
              by_cases hl : w < σ.length
              · rw [List.getElem?_set_self (by rw [wipe_length, List.length_set]; exact hl), List.getElem?_set_self (by rw [wipe_length]; exact hl)]
              · rw [List.getElem?_eq_none (by rw [List.length_set, wipe_length, List.length_set]; omega), List.getElem?_eq_none (by rw [List.length_set, wipe_length]; omega)]
            · rw [List.getElem?_set_ne hw, List.getElem?_set_ne hw]; exact ih
        exact key vs
/-- the target's slots are the block's own -/
def OGServes (own : List Nat) (K : KF) (g : TG) (a : GD) : Prop := ∀ (F H : Hp) (σ : Sg) (ρ ρ' : DE) (v : V) (d : PyData) (Q : Sg → Hp → Prop), Rep K F H σ ρ → Dp K F v d → a d ρ = some ρ' →
  (∀ σ' F' H', PostS [] K F H σ ρ F' H' σ' ρ' → (∀ a, Mt σ' ρ' a → Mt σ ρ a) → L2.wipe σ' own = L2.wipe σ own → Q σ' H') → g v σ H Q
def OGsServes (own : List Nat) (K : KF) (g : TGs) (a : GsD) : Prop := ∀ (F H : Hp) (σ : Sg) (ρ ρ' : DE) (vs : List V) (ds : List PyData) (Q : Sg → Hp → Prop), Rep K F H σ ρ → DpAll K F vs ds → a ds ρ = some ρ' →
  (∀ σ' F' H', PostS [] K F H σ ρ F' H' σ' ρ' → (∀ a, Mt σ' ρ' a → Mt σ ρ a) → L2.wipe σ' own = L2.wipe σ own → Q σ' H') → g vs σ H Q
variable (Y) in
def POd (own : List Nat) (e : Expr) (a : GD) : Prop := ∃ g, (∀ i, PG (Y.X i) e g) ∧ OGServes own K g a
variable (Y) in
def POsd (own : List Nat) (es : List Expr) (a : GsD) : Prop := ∃ g, (∀ i, PGs (Y.X i) es g) ∧ OGsServes own K g a
theorem o_name {own : List Nat} (i : Nat) {x : Str} {pos : Pos} (hi : i ∈ own := by decide) (hN : ∀ j, (Y.X j).N[i]? = some x := by intro _; rfl) (hx : ∀ j, Loc (Y.X j).env.scope x := by intro _; first | exact Or.inl rfl | exact Or.inr rfl)
    (hf : ∀ j, (Y.X j).fn x = true ∨ (Y.X j).env.scope.names.lookup x = some .local := by intro _; first | exact .inl rfl | exact .inr rfl) : POd Y own (.Name x pos) (gNm i) :=
  ⟨_, fun j => pg_name (Y.nd j) (hN j) (hx j) (hf j), fun F H σ ρ ρ' v d Q R h e q => by
    cases e
    refine q _ F H (storeD R h (by simp)) (fun a ⟨j, ⟨ds, h1⟩, h2⟩ => ?_) (wipe_set hi)
    by_cases hj : i = j
    · subst hj
      have z := get_set_self h1
      cases z
    · rw [List.getElem?_set_ne hj] at h1 h2
      exact ⟨j, ⟨ds, h1⟩, h2⟩⟩
theorem os_nil {own : List Nat} : POsd Y own [] gsNil := ⟨_, fun _ => pgs_nil, fun F H σ ρ ρ' vs ds Q R h e q => by
  cases ds with
  | nil =>
    cases e
    cases h
    exact ⟨rfl, q σ F H (PostS.refl R) (fun _ z => z) rfl⟩
  | cons d ds => cases e⟩
theorem os_cons {own : List Nat} {e : Expr} {es : List Expr} {a : GD} {b : GsD} (h1 : POd Y own e a) (h2 : POsd Y own es b) (hs : ∀ i, (assignEach (e :: es) (Y.X i).env).map (·.2) = assign e (Y.X i).env :: (assignEach es (Y.X i).env).map (·.2) := by intro _; rfl) : POsd Y own (e :: es) (gsCons a b) := by
  obtain ⟨g, a1, a2⟩ := h1
  obtain ⟨gs, b1, b2⟩ := h2
  refine ⟨_, fun i => pgs_cons (a1 i) (b1 i) (hs i), fun F H σ ρ ρ' vs ds Q R h e q => ?_⟩
  cases h with
  | nil => cases e
  | @cons v vs d ds hd ht =>
    simp only [gsCons] at e
    cases e1 : a d ρ with
    | none => rw [e1] at e; cases e
    | some ρ1 =>
      rw [e1] at e
      refine ⟨v, vs, rfl, a2 F H σ ρ ρ1 v d _ R hd e1 fun σ1 F1 H1 p1 m1 w1 => ?_⟩
      exact b2 F1 H1 σ1 ρ1 ρ' vs ds Q p1.rep (dpAllMono p1.ext.f _ _ ht) e fun σ2 F2 H2 p2 m2 w2 => q σ2 F2 H2 (p1.trans p2) (fun a z => m1 a (m2 a z)) (w2.trans w1)
theorem o_tup {own : List Nat} {es : List Expr} {kk : Nat} {pos : Pos} {b : GsD} (n : Nat) (h : POsd Y own es b) (hn : ∀ i, (assignEach es (Y.X i).env).length = n := by intro _; rfl) (hst : ∀ i, (assignEach es (Y.X i).env).findIdx? (·.1) = none := by intro _; rfl) : POd Y own (.Tuple es kk pos) (gTupD n b) := by
  obtain ⟨g, a1, a2⟩ := h
  refine ⟨gTup K n g, fun i => ?_, fun F H σ ρ ρ' v d Q R h e q => ?_⟩
  · have z := pg_tup (pos := pos) (k := kk) (Y.calm i) (a1 i) (hn i) (hst i)
    rw [Y.hK i] at z
    exact z
  · cases d with
    | tuple ds =>
      simp only [gTupD] at e
      split at e
      · rename_i hl
        cases h with
        | @tup a xs _ hs ha =>
          exact ⟨a, xs, rfl, (hs.same R.sub).sq, (dpAllLen ha).trans hl, a2 F H σ ρ ρ' xs ds Q R ha e q⟩
      · cases e
    | none => cases e
    | bool b => cases e
    | int b => cases e
    | str b => cases e
    | list b => cases e
    | dict b => cases e
theorem wipe_wipe {σ : Sg} {own : List Nat} : L2.wipe (L2.wipe σ own) own = L2.wipe σ own := by
  apply List.ext_getElem?
  intro j
  by_cases hj : j ∈ own
  · have l1 : ∀ (τ : Sg), j < τ.length → (L2.wipe τ own)[j]? = some none := fun τ hl => by
      cases z : (L2.wipe τ own)[j]? with
      | none => have w := List.getElem?_eq_none_iff.mp z; rw [wipe_length] at w; omega
      | some o =>
        cases o with
        | none => rfl
        | some v => exact absurd hj (wipe_some z).2
    by_cases hl : j < σ.length
    · rw [l1 σ hl, l1 _ (by rw [wipe_length]; exact hl)]
    · rw [List.getElem?_eq_none (by rw [wipe_length, wipe_length]; omega), List.getElem?_eq_none (by rw [wipe_length]; omega)]
  · rw [wipe_out hj]
theorem mutAt_to_wipe {σ : Sg} {ρ : DE} {vs : List Nat} {i : Nat} {a : Addr} (h : MutAt σ ρ i a) (hi : i ∉ vs) : MutAt (L2.wipe σ vs) (wipeD ρ vs) i a := by
  obtain ⟨⟨ds, h1⟩, h2⟩ := h
  exact ⟨⟨ds, by rw [wipeD_out hi]; exact h1⟩, by rw [wipe_out hi]; exact h2⟩
/-- an untracked part of the heap that is not the step's own stays -/
theorem keepAt {F4 H4 F5 H5 : Hp} {A : Addr → Prop} {D : Addr} {vs : List V} (h4 : H4 D = some (.lst vs)) (f4 : F4 D = none) (x4 : Ext A F4 H4 F5 H5) (nm : ¬ A D) : H5 D = some (.lst vs) ∧ F5 D = none := by
  refine ⟨x4.h D _ h4 nm, ?_⟩
  cases z : F5 D with
  | none => rfl
  | some o =>
    rcases x4.n D o z with w | w | w
    · rw [f4] at w; cases w
    · rw [h4] at w; cases w
    · exact absurd w nm
theorem Rep.unwipe {F H F' H' : Hp} {σ : Sg} {ρ ρ' : DE} {own : List Nat} (R : Rep K F H σ ρ) (hno : noGro ρ own = true) (s : Same F F') (R' : Rep K F' H' (L2.wipe σ own) ρ') (hw : wipeD ρ' own = ρ') : Rep K F' H' σ (restD ρ ρ' own) ∧ ∀ a, Mt σ (restD ρ ρ' own) a → Mt (L2.wipe σ own) ρ' a := by
  have key : ∀ j a, MutAt σ (restD ρ ρ' own) j a → MutAt (L2.wipe σ own) ρ' j a := fun j a ⟨⟨ds, h1⟩, h2⟩ => by
    by_cases hj : j ∈ own
    · have z := restD_in hj h1
      have n := (List.all_eq_true.mp hno) j hj
      rw [List.getD_eq_getElem?_getD] at z
      cases e : ρ[j]? with
      | none => rw [e] at z; cases z
      | some s =>
        rw [e] at z n
        simp only [Option.getD_some] at z
        subst z
        cases n
    · rw [restD_out hj] at h1
      exact ⟨⟨ds, h1⟩, by rw [wipe_out hj]; exact h2⟩
  refine ⟨⟨R'.sub, by rw [restD_len]; have z := R'.len; rw [wipe_length] at z; exact z, fun j s hs => ?_, fun i j a x y => R'.apart i j a (key i a x) (key j a y)⟩, fun a ⟨j, z⟩ => ⟨j, key j a z⟩⟩
  by_cases hj : j ∈ own
  · have z := restD_in hj hs
    have n := (List.all_eq_true.mp hno) j hj
    rw [List.getD_eq_getElem?_getD] at z
    cases e : ρ[j]? with
    | none => rw [e] at z; subst z; trivial
    | some s' =>
      rw [e] at z n
      simp only [Option.getD_some] at z
      subst z
      have q := R.slot j s e
      cases s with
      | un => trivial
      | dat d =>
        obtain ⟨v, q1, q2⟩ := q
        exact ⟨v, q1, dpMono (by assumption) d v q2⟩
      | gro ds => cases n
  · rw [restD_out hj] at hs
    have q := R'.slot j s hs
    rw [wipe_out hj] at q
    exact q
theorem lcLoop_wiped {own : List Nat} {a : GD} {c : TD} {f : ED} : ∀ {ds acc : List PyData} {ρ : DE} {x}, wipeD ρ own = ρ → lcLoop own a c f ds acc ρ = some x → wipeD x.2 own = x.2
  | [], acc, ρ, x, h, e => by
    cases e
    exact h
  | d :: ds, acc, ρ, x, h, e => by
    unfold lcLoop at e
    split at e
    · cases e
    · split at e
      · cases e
      · exact lcLoop_wiped wipeD_wipeD e
      · split at e
        · cases e
        · split at e
          · exact lcLoop_wiped wipeD_wipeD e
          · cases e
where
  wipeD_wipeD {ρ : DE} {own : List Nat} : wipeD (wipeD ρ own) own = wipeD ρ own := by
    apply List.ext_getElem?
    intro j
    by_cases hj : j ∈ own
    · cases z : (wipeD (wipeD ρ own) own)[j]? with
      | none =>
        have w := List.getElem?_eq_none_iff.mp z
        rw [wipeD_len, wipeD_len] at w
        rw [List.getElem?_eq_none (by rw [wipeD_len]; exact w)]
      | some s =>
        have w := wipeD_in hj z
        have l := (List.getElem?_eq_some_iff.mp z).1
        rw [wipeD_len, wipeD_len] at l
        cases y : (wipeD ρ own)[j]? with
        | none => have u := List.getElem?_eq_none_iff.mp y; rw [wipeD_len] at u; omega
        | some t => have u := wipeD_in hj y; rw [w, u]
    · rw [wipeD_out hj]
theorem wipeD2 {ρ : DE} {own : List Nat} : wipeD (wipeD ρ own) own = wipeD ρ own := lcLoop_wiped.wipeD_wipeD
theorem serves_lc {wi : TI} {g : TG} {tt : TT} {te : TE} {it : ID} {a : GD} {c : TD} {f : ED} {own : List Nat} (hi : ItServes K wi it) (hg : OGServes own K g a) (hc : ServesT K tt c) (he : Serves K te f) : Serves K (tLc wi g tt te own) (eLc own it a c f) := fun F H σ ρ ρ' r Q R e q => by
  unfold eLc at e
  cases e1 : it ρ with
  | none => rw [e1] at e; cases e
  | some p1 =>
    obtain ⟨ds, ρ1⟩ := p1
    rw [e1] at e
    simp only at e
    split at e
    · rename_i hno
      cases e2 : lcLoop own a c f ds [] (wipeD ρ1 own) with
      | none => rw [e2] at e; cases e
      | some p2 =>
        obtain ⟨accF, ρ2⟩ := p2
        rw [e2] at e
        cases e
        refine hi F H σ ρ ρ1 ds _ R e1 fun J F1 H1 p hJ => ?_
        intro D hD
        have fD : F1 D = none := by
          cases z : F1 D with
          | none => rfl
          | some o => have w := p.rep.sub _ _ z; rw [hD] at w; cases w
        have nmW : ¬ Mt (L2.wipe σ own) (wipeD ρ1 own) D := fun ⟨j, z⟩ => by
          obtain ⟨vs', z4⟩ := p.rep.mtSome ⟨j, (mutAt_wipe z).1⟩
          rw [hD] at z4; cases z4
        have R0 : PostE K F1 H1 (L2.wipe σ own) (wipeD ρ1 own) F1 (upd H1 D (.lst [])) (wipeD ρ1 own) := (PostE.refl (p.rep.wipe own)).ext0 (Ext.newM hD) (Same.newM p.rep.sub hD)
        refine ⟨fun i m H' => m = ds.length - i ∧ i ≤ ds.length ∧ ∃ F' ρi acc vs, PostE K F1 H1 (L2.wipe σ own) (wipeD ρ1 own) F' H' ρi ∧ H' D = some (.lst vs) ∧ F' D = none ∧ DpAll K F' vs acc ∧ wipeD ρi own = ρi ∧ lcLoop own a c f (ds.drop i) acc ρi = some (accF, ρ2),
          ⟨ds.length, by simp, Nat.zero_le _, F1, wipeD ρ1 own, [], [], R0, upd_same, fD, .nil, wipeD2, by simpa using e2⟩, ?_⟩
        rintro i m H' ⟨rfl, hi', F', ρi, acc, vs, pi, hvs, fD', hda, hwi, ei⟩
        obtain ⟨stop, go⟩ := hJ F' H' i pi.ext.f pi.rep.sub
        have nmi : ¬ Mt (L2.wipe σ own) ρi D := fun z => nmW (pi.mt D z)
        by_cases hlt : i < ds.length
        · obtain ⟨go, yl⟩ := go ds[i] (by simp [hlt])
          refine .inr ⟨go, fun H2 => i + 1 ≤ ds.length ∧ ∃ F' ρi acc vs, PostE K F1 H1 (L2.wipe σ own) (wipeD ρ1 own) F' H2 ρi ∧ H2 D = some (.lst vs) ∧ F' D = none ∧ DpAll K F' vs acc ∧ wipeD ρi own = ρi ∧ lcLoop own a c f (ds.drop (i + 1)) acc ρi = some (accF, ρ2),
            fun H2 z => ⟨ds.length - (i + 1), by omega, rfl, z.1, z.2⟩, fun x H2 y => ?_⟩
          obtain ⟨F2, s2, x2, d2⟩ := yl x H2 y
          have ed : ds.drop i = ds[i] :: ds.drop (i + 1) := List.drop_eq_getElem_cons hlt
          rw [ed] at ei
          simp only [lcLoop] at ei
          cases ea : a ds[i] ρi with
          | none => rw [ea] at ei; cases ei
          | some ρ3 =>
            rw [ea] at ei
            simp only at ei
            have pi2 := pi.ext0 x2 s2
            obtain ⟨D2, fD2⟩ := keepAt hvs fD' x2 id
            refine hg F2 H2 (L2.wipe σ own) ρi ρ3 x ds[i] _ pi2.rep d2 ea fun σ3 F3 H3 p3 m3 w3 => ?_
            refine ⟨w3.trans wipe_wipe, ?_⟩
            obtain ⟨D3, fD3⟩ := keepAt D2 fD2 p3.ext nmi
            have nm3 : ¬ Mt σ3 ρ3 D := fun z => nmi (m3 D z)
            have ew : L2.wipe σ3 own = L2.wipe σ own := w3.trans wipe_wipe
            have back : ∀ {F5 H5 : Hp} {ρ5 : DE}, PostE K F3 H3 σ3 ρ3 F5 H5 ρ5 → PostE K F1 H1 (L2.wipe σ own) (wipeD ρ1 own) F5 H5 (wipeD ρ5 own) := fun {F5 H5 ρ5} p5 => by
              have R5 : Rep K F5 H5 (L2.wipe σ own) (wipeD ρ5 own) := by
                have z := p5.rep.wipe own
                rw [ew] at z
                exact z
              refine ⟨R5, pi2.ext.trans (p3.ext.trans p5.ext fun z hz => .inl (m3 z hz)) fun z hz => .inl (pi.mt z hz), fun z ⟨j, hz⟩ => ?_⟩
              rw [← ew] at hz
              exact pi.mt z (m3 z (p5.mt z ⟨j, (mutAt_wipe hz).1⟩))
            cases ec : c ρ3 with
            | none => rw [ec] at ei; cases ei
            | some pc =>
              obtain ⟨b, ρ4⟩ := pc
              rw [ec] at ei
              refine hc F3 H3 σ3 ρ3 ρ4 b _ p3.rep ec fun F4 H4 p4 => ?_
              obtain ⟨D4, fD4⟩ := keepAt D3 fD3 p4.ext nm3
              have nm4 : ¬ Mt σ3 ρ4 D := fun z => nm3 (p4.mt D z)
              cases b with
              | false =>
                exact iteF ⟨hlt, F4, wipeD ρ4 own, acc, vs, back p4, D4, fD4, dpAllMono (x2.f.trans (p3.ext.f.trans p4.ext.f)) _ _ hda, wipeD2, ei⟩
              | true =>
                simp only at ei
                cases ef : f ρ4 with
                | none => rw [ef] at ei; cases ei
                | some pf =>
                  obtain ⟨rr, ρ5⟩ := pf
                  rw [ef] at ei
                  simp only at ei
                  split at ei
                  · rename_i hz
                    refine iteT (he.d p4.rep ef fun y F5 H5 p5 d5 => ?_)
                    obtain ⟨D5, fD5⟩ := keepAt D4 fD4 p5.ext nm4
                    have s15 := x2.f.trans (p3.ext.f.trans (p4.ext.f.trans p5.ext.f))
                    refine ⟨vs, D5, by rw [dpAllLen hda]; exact hz, hlt, F5, wipeD ρ5 own, acc ++ [rr.d], vs ++ [y], ?_, upd_same, fD5, dpAllApp (dpAllMono s15 _ _ hda) (.cons d5 .nil), wipeD2, ei⟩
                    have pb := back (p4.trans p5)
                    have nmb : ¬ Mt (L2.wipe σ own) (wipeD ρ5 own) D := fun z => nmW (pb.mt D z)
                    -- the list at D has grown
                    refine ⟨⟨fun b o e => ?_, pb.rep.len, fun j s hs => ?_, pb.rep.apart⟩, ⟨pb.ext.f, fun b o e n => ?_, pb.ext.n, fun b e => ?_⟩, pb.mt⟩
                    · have nb : b ≠ D := ne_of_none e fD5
                      rw [upd_ne nb]
                      exact pb.rep.sub _ _ e
                    · have q := pb.rep.slot j s hs
                      cases s with
                      | un => trivial
                      | dat d => exact q
                      | gro es =>
                        obtain ⟨b, ws, q1, q2, q3, q4⟩ := q
                        have nb : b ≠ D := fun z => by
                          subst z
                          exact nmb ⟨j, ⟨es, hs⟩, q1⟩
                        exact ⟨b, ws, q1, by rw [upd_ne nb]; exact q2, q3, q4⟩
                    · rw [upd_ne (ne_of_none e hD)]
                      exact pb.ext.h b o e n
                    · by_cases hb : b = D
                      · subst hb; rw [upd_same] at e; cases e
                      · rw [upd_ne hb] at e; exact pb.ext.k b e
                  · cases ei
        · have ei2 : i = ds.length := by omega
          subst ei2
          refine .inl ⟨stop (Nat.le_refl _), ?_⟩
          rw [List.drop_length] at ei
          cases ei
          obtain ⟨Ru, mu⟩ := p.rep.unwipe hno pi.ext.f pi.rep hwi
          have mw : ∀ z, Mt (L2.wipe σ own) (wipeD ρ1 own) z → Mt σ ρ1 z := fun z ⟨j, hz⟩ => ⟨j, (mutAt_wipe hz).1⟩
          refine q (.ref D) F' H' ⟨Ru, p.ext.trans pi.ext fun z hz => .inl (p.mt z (mw z hz)), fun z hz => p.mt z (mw z (pi.mt z (mu z hz)))⟩ ⟨D, vs, rfl, hvs, fD', hda, p.ext.k D hD⟩
    · cases e
theorem d_lc {own : List (Str × Nat)} {elt tg iter : Expr} {ifs : List Expr} {scope : Scope} {pos : Pos} {it : ID} {a : GD} {c : TD} {f : ED} (hi : PId Y tg iter it) (ok : blkC Y.N Y.sc scope own = true) (hg : POd (Y.blk scope) (own.map (·.2)) tg a) (hc : PTsd (Y.blk scope) ifs c) (he : PEd (Y.blk scope) elt f)
    (hs : ∀ i, ∀ x, foldedSetIterable iter (Y.X i).env x = pure x := by intro _ _; rfl) : PEd Y (.ListComp elt [⟨tg, iter, ifs, 0⟩] scope pos) (eLc (own.map (·.2)) it a c f) := by
  obtain ⟨wi, i1, i2⟩ := hi
  obtain ⟨g, g1, g2⟩ := hg
  obtain ⟨tt, c1, c2⟩ := hc
  obtain ⟨te, e1, e2⟩ := he
  refine ⟨_, fun i => pe_lc (Y.calm i) (Y.nd i) (i1 i) ?_ (fun s H C cl fp => g1 (i, s, H, C, cl, fp)) (fun s H C cl fp => c1 (i, s, H, C, cl, fp)) (fun s H C cl fp => e1 (i, s, H, C, cl, fp)) (hs i), serves_lc i2 g2 c2 e2⟩
  have z := blkOk_by ok
  rw [← Y.hN i, ← Y.hsc i] at z
  exact z
/-- name = [..], the name a local -/
theorem s_setLc (j : Nat) {own : List (Str × Nat)} {y : Str} {py : Pos} {elt tg iter : Expr} {ifs : List Expr} {scope : Scope} {pos spos : Pos} {it : ID} {a : GD} {c : TD} {f : ED} (hi : PId Y tg iter it) (ok : blkC Y.N Y.sc scope own = true) (hg : POd (Y.blk scope) (own.map (·.2)) tg a) (hc : PTsd (Y.blk scope) ifs c) (he : PEd (Y.blk scope) elt f)
    (hj : j ∉ P := by decide) (hy : ∀ i, (Y.X i).N[j]? = some y := by intro _; rfl) (hyl : ∀ i, (Y.X i).env.scope.names.lookup y = some .local := by intro _; rfl)
    (hsw : ∀ i, swapsWith (.ListComp elt [⟨tg, iter, ifs, 0⟩] scope pos) (some (.Name y py)) spos.line (Y.X i).env = pure true := by intro _; exact sw_true rfl rfl rfl (by decide +kernel))
    (hs : ∀ i, ∀ x, foldedSetIterable iter (Y.X i).env x = pure x := by intro _ _; rfl) : PSd P Y (.Assign [.Name y py] (.ListComp elt [⟨tg, iter, ifs, 0⟩] scope pos) spos) (sSet j (eLc (own.map (·.2)) it a c f)) := by
  obtain ⟨wi, i1, i2⟩ := hi
  obtain ⟨g, g1, g2⟩ := hg
  obtain ⟨tt, c1, c2⟩ := hc
  obtain ⟨te, e1, e2⟩ := he
  refine ⟨_, fun i => ps_setLc (Y.calm i) (Y.nd i) (hy i) (hyl i) (hsw i) (i1 i) ?_ (fun s H C cl fp => g1 (i, s, H, C, cl, fp)) (fun s H C cl fp => c1 (i, s, H, C, cl, fp)) (fun s H C cl fp => e1 (i, s, H, C, cl, fp)) (hs i), serves_set hj (serves_lc i2 g2 c2 e2)⟩
  have z := blkOk_by ok
  rw [← Y.hN i, ← Y.hsc i] at z
  exact z
end

/-! ### defs -/
abbrev FD := List SV → Option (RV × List SV)
/-- behind the call each list that was handed in stands at its place as told -/
def spD (K : KF) (n : Nat) (g : FD) : Sp := fun vs H Q _ => vs.length = n ∧ ∃ (F : Hp) (args args' : List SV) (r : RV), Rep K F H (vs.map some) args ∧ g args = some (r, args') ∧
  ∀ v F' H', Ext (Mt (vs.map some) args) F H F' H' → Same F' H' → (∀ (j : Nat) (ds : List PyData), args[j]? = some (SV.gro ds) → ∃ s, args'[j]? = some s ∧ s ≠ SV.un ∧ SlotOk K F' H' (vs.map some)[j]? s) → ResOk K F' H' H v r → Q v H'
/-- lists that may be changed stand at the places P alone -/
def okG (P : List Nat) : Nat → List SV → Bool
  | _, [] => true
  | j, .gro _ :: ss => P.contains j && okG P (j + 1) ss
  | j, .dat _ :: ss => okG P (j + 1) ss
  | j, .un :: ss => okG P (j + 1) ss
def okB : List SV → List SV → Bool
  | [], _ => true
  | .gro _ :: ss, .gro _ :: ts => okB ss ts
  | .gro _ :: ss, .dat _ :: ts => okB ss ts
  | .gro _ :: _, .un :: _ => false
  | .gro _ :: _, [] => false
  | .dat _ :: ss, ts => okB ss ts.tail
  | .un :: ss, ts => okB ss ts.tail
theorem okG_at {P : List Nat} {ds : List PyData} : ∀ {ss : List SV} {m j : Nat}, okG P m ss = true → ss[j]? = some (SV.gro ds) → m + j ∈ P
  | [], _, _, _, e => by simp at e
  | .gro _ :: ss, m, 0, h, _ => by
    simp only [okG, Bool.and_eq_true, List.contains_iff_mem] at h
    simpa using h.1
  | .dat _ :: ss, m, 0, _, e => by simp at e
  | .un :: ss, m, 0, _, e => by simp at e
  | .gro _ :: ss, m, j + 1, h, e => by
    simp only [okG, Bool.and_eq_true] at h
    have z := okG_at (m := m + 1) (j := j) h.2 (by simpa using e)
    rw [show m + (j + 1) = m + 1 + j by omega]; exact z
  | .dat _ :: ss, m, j + 1, h, e => by
    simp only [okG] at h
    have z := okG_at (m := m + 1) (j := j) h (by simpa using e)
    rw [show m + (j + 1) = m + 1 + j by omega]; exact z
  | .un :: ss, m, j + 1, h, e => by
    simp only [okG] at h
    have z := okG_at (m := m + 1) (j := j) h (by simpa using e)
    rw [show m + (j + 1) = m + 1 + j by omega]; exact z
theorem okB_at {ds : List PyData} : ∀ {ss ts : List SV} {j : Nat}, okB ss ts = true → ss[j]? = some (SV.gro ds) → ∃ s, ts[j]? = some s ∧ s ≠ SV.un
  | [], _, _, _, e => by simp at e
  | .gro _ :: ss, .gro _ :: ts, 0, _, _ => ⟨_, rfl, by simp⟩
  | .gro _ :: ss, .dat _ :: ts, 0, _, _ => ⟨_, rfl, by simp⟩
  | .gro _ :: _, .un :: _, _, h, _ => by simp [okB] at h
  | .gro _ :: _, [], _, h, _ => by simp [okB] at h
  | .dat _ :: ss, ts, 0, _, e => by simp at e
  | .un :: ss, ts, 0, _, e => by simp at e
  | .gro _ :: ss, .gro _ :: ts, j + 1, h, e => by
    obtain ⟨s, z⟩ := okB_at (j := j) (by simpa [okB] using h) (by simpa using e)
    exact ⟨s, by simpa using z⟩
  | .gro _ :: ss, .dat _ :: ts, j + 1, h, e => by
    obtain ⟨s, z⟩ := okB_at (j := j) (by simpa [okB] using h) (by simpa using e)
    exact ⟨s, by simpa using z⟩
  | .dat _ :: ss, ts, j + 1, h, e => by
    obtain ⟨s, z1, z2⟩ := okB_at (ts := ts.tail) (j := j) (by simpa [okB] using h) (by simpa using e)
    refine ⟨s, ?_, z2⟩
    cases ts with
    | nil => simp at z1
    | cons t ts => simpa using z1
  | .un :: ss, ts, j + 1, h, e => by
    obtain ⟨s, z1, z2⟩ := okB_at (ts := ts.tail) (j := j) (by simpa [okB] using h) (by simpa using e)
    refine ⟨s, ?_, z2⟩
    cases ts with
    | nil => simp at z1
    | cons t ts => simpa using z1
/-- a def by its body: names beyond the parameters are unset at first -/
def fnEnd (n : Nat) (args : List SV) : Option (Fl × DE) → Option (RV × List SV)
  | some (.rt r, ρ) => if okB args (ρ.take n) then some (r, ρ.take n) else none
  | some (.nx, ρ) => if okB args (ρ.take n) then some (.dat .none, ρ.take n) else none
  | _ => none
def fnD (P : List Nat) (n N : Nat) (body : SD) : FD := fun args => if args.length = n ∧ okG P 0 args = true then fnEnd n args (body (args ++ List.replicate (N - n) .un)) else none
section
variable {Pr : Program} {w : World} {K : KF} {mg : Str → Option Value} {base : Heap}
theorem rep_start {F H : Hp} {N : List Str} {vs : List V} {args : List SV} (R : Rep K F H (vs.map some) args) : Rep K F H (L2.start N vs) (args ++ List.replicate (N.length - vs.length) .un) := by
  have hl : args.length = vs.length := by rw [R.len, List.length_map]
  have un : ∀ (j : Nat) (s : SV), args.length ≤ j → (args ++ List.replicate (N.length - vs.length) SV.un)[j]? = some s → s = .un := fun j s hj e => by
    rw [List.getElem?_append_right hj, List.getElem?_replicate] at e
    split at e
    · exact (Option.some.inj e).symm
    · cases e
  have lo : ∀ (j : Nat), j < args.length → (L2.start N vs)[j]? = (vs.map some)[j]? := fun j hj => by
    unfold L2.start
    rw [List.getElem?_append_left (by rw [List.length_map]; omega)]
  have mo : ∀ (j : Nat) (a : Addr), MutAt (L2.start N vs) (args ++ List.replicate (N.length - vs.length) .un) j a → MutAt (vs.map some) args j a := fun j a ⟨⟨ds, h1⟩, h2⟩ => by
    by_cases hj : j < args.length
    · rw [List.getElem?_append_left hj] at h1
      rw [lo j hj] at h2
      exact ⟨⟨ds, h1⟩, h2⟩
    · have z := un j _ (by omega) h1
      cases z
  refine ⟨R.sub, ?_, fun j s hs => ?_, fun i j a x y => R.apart i j a (mo i a x) (mo j a y)⟩
  · unfold L2.start
    simp only [List.length_append, List.length_replicate, List.length_map]
    omega
  · by_cases hj : j < args.length
    · rw [List.getElem?_append_left hj] at hs
      rw [lo j hj]
      exact R.slot j s hs
    · have z := un j s (by omega) hs
      subst z; trivial
theorem mt_start {N : List Str} {vs : List V} {args : List SV} {a : Addr} (hl : args.length = vs.length) (h : Mt (L2.start N vs) (args ++ List.replicate (N.length - vs.length) .un) a) : Mt (vs.map some) args a := by
  obtain ⟨j, ⟨ds, h1⟩, h2⟩ := h
  by_cases hj : j < args.length
  · rw [List.getElem?_append_left hj] at h1
    unfold L2.start at h2
    rw [List.getElem?_append_left (by rw [List.length_map]; omega)] at h2
    exact ⟨j, ⟨ds, h1⟩, h2⟩
  · rw [List.getElem?_append_right (by omega), List.getElem?_replicate] at h1
    split at h1 <;> cases h1
/-- a def that is called where no repr is under way: it holds its promise -/
structure FnG (Pr : Program) (w : World) (K : KF) (mg : Str → Option Value) (base : Heap) (k : Nat) (f : Addr) (fd : FuncData) (ps : List Str) (sp : Sp) : Prop where
  len : ∀ vs H Q, sp vs H Q E0 → vs.length = ps.length
  go : ∀ (A : Around) (outer : List Env) (s : Shared) (H : Hp) (args : Args) (us : List Value) (vs : List V) (Q : VK), Room k A → A.guards = some [] → Env0 Pr w K mg base A outer s H →
    BindsTo s fd args (ps.zip us) → Vals vs us → sp vs H Q E0 → codeAny (model Pr w) A (.call (.ref f) args) (CR CX0 outer Pr w H s Q E0) s
theorem fnG_by {x qual : Str} {st : Stmt} {f : Addr} {fd : FuncData} {N ps : List Str} {k : Nat} {sp : Sp} (F : Fun K x qual st f fd) (S : FnScope N ps (defScope st)) (hlen : ∀ vs H Q, sp vs H Q E0 → vs.length = ps.length)
    (hb : ∀ (cdv : Value) (A : Around) (outer : List Env) (s : Shared) (H : Hp) (vs : List V) (Q : VK), Room k (A.deeper (envOfC qual (defScope st) s.heap.objs.size f cdv)) → A.guards = some [] → sp vs H Q E0 →
      ∃ t, PSs (cxOf CX0 Pr w K mg base N qual (defScope st) f cdv A outer s H E0).nox (defBody st) t ∧ t { nx := fun _ H' => Q .non H', rt := Q } (L2.start N vs) H) : FnG Pr w K mg base (k + 1) f fd ps sp where
  len := hlen
  go := by
    obtain ⟨oc, od, kV, doc, pm, an, cdv, ct, osl, rfl, lk, hcd⟩ := F.ex
    intro A outer s H args us vs Q hr hgd e0 bt rv hsp
    have there : ∀ a o, base.get? a = some o → s.heap.get? a = some o := fun a o q => (e0.bs a o q).1
    have inK : K.In s.heap := e0.mod.kin.keeps there
    have known : ∀ y ∈ ps.zip us, (defScope st).names.lookup y.1 = some .local ∨ ((defScope st).names.lookup y.1 = some .cell ∧ ((cellsFrom (s.heap.objs.size + 1) (defScope st).names []).lookup y.1).isSome = true) := by
      rintro ⟨n, v⟩ hy
      have par := S.par n (List.of_mem_zip hy).1
      exact par.imp id fun q => ⟨q, PySem.W.cellsFrom_some _ _ _ (.inl q)⟩
    have enter := codeAny_call_function (A := A) (args := args) (prog := Pr) (w := w) hr.depth (inK _ _ lk) rfl S.co S.gen rfl (PySem.W.codeRec_of inK hcd) (R := CR CX0 outer Pr w H s Q E0)
    refine enter (bt _ _ _ _ (wpAny_newFunctionEnv_cells S.kind known fun env he s1 x => ?_))
    subst he
    refine ⟨(e0.mod.nolimit.keeps there).keeps x.toInCall.keep, codeAny_func ?_⟩
    obtain ⟨t, ht, hq⟩ := hb cdv A outer s H vs Q (hr.deeper _) hgd hsp
    have I0 := inv_start (CX := CX0) (f := f) (cd := cdv) (qual := qual) (E := E0) S hr.hd e0 (hlen _ _ _ hsp) rv x
    refine wpAny_mono (ht.nox.run [] s1 _ H _ I0 hq) (fun fl s' hs => ?_) fun _ _ z => z
    cases fl with
    | brk => obtain ⟨_, _, _, z⟩ := hs; exact z.elim
    | cont => obtain ⟨_, _, _, z⟩ := hs; exact z.elim
    | next =>
      obtain ⟨_, H', J, q⟩ := hs
      exact ⟨V.non, H', J.os, J.bare, J.base, J.hok, rfl, q⟩
    | ret u =>
      obtain ⟨v, _, H', J, r', q⟩ := hs
      exact ⟨v, H', J.os, J.bare, J.base, J.hok, r', q⟩
/-- a def holds its promise: P, the places of the parameters that are lists handed in to be changed -/
theorem fn_ok {x qual : Str} {st : Stmt} {f : Addr} {fd : FuncData} {N ps : List Str} {k : Nat} {P : List Nat} {body : SD} (F : Fun K x qual st f fd) (S : FnScope N ps (defScope st))
    (hb : PSsd P (fmOf Pr w K mg base N qual (defScope st) f k S.nd) (defBody st) body) :
    FnG Pr w K mg base (k + 1) f fd ps (spD K ps.length (fnD P ps.length N.length body)) := by
  obtain ⟨t, b1, b2⟩ := hb
  refine fnG_by F S (fun vs H Q h => h.1) fun cdv A outer s H vs Q hr hgd h => ⟨t, b1 ⟨(cdv, A, outer, s, H, E0), hr, hgd⟩, ?_⟩
  obtain ⟨hl, F0, args, args', r, R, e, q⟩ := h
  have hla : args.length = vs.length := by rw [R.len, List.length_map]
  have hN : N.length - ps.length = N.length - vs.length := by rw [hl]
  unfold fnD at e
  split at e
  · rename_i hg
    rw [hN] at e
    have fin : ∀ {ρ : DE} {σ' : Sg} {F' H' : Hp}, PostS P K F0 H (L2.start N vs) (args ++ List.replicate (N.length - vs.length) .un) F' H' σ' ρ → args' = ρ.take ps.length → okB args (ρ.take ps.length) = true →
        Ext (Mt (vs.map some) args) F0 H F' H' ∧ Same F' H' ∧ ∀ (j : Nat) (ds : List PyData), args[j]? = some (SV.gro ds) → ∃ s, args'[j]? = some s ∧ s ≠ SV.un ∧ SlotOk K F' H' (vs.map some)[j]? s := fun {ρ σ' F' H'} p ea hB => by
      refine ⟨p.ext.weak fun a z => mt_start hla z, p.rep.sub, fun j ds hj => ?_⟩
      obtain ⟨s, hs, hn⟩ := okB_at hB hj
      refine ⟨s, by rw [ea]; exact hs, hn, ?_⟩
      have hjl : j < args.length := (List.getElem?_eq_some_iff.mp hj).1
      have hjP : j ∈ P := by have z := okG_at hg.2 hj; rwa [Nat.zero_add] at z
      have e2 : σ'[j]? = (vs.map some)[j]? := by
        rw [p.pin j hjP]
        unfold L2.start
        rw [List.getElem?_append_left (by rw [List.length_map]; omega)]
      rw [← e2]
      refine p.rep.slot j s ?_
      rw [List.getElem?_take_of_lt (by omega)] at hs
      exact hs
    cases eb : body (args ++ List.replicate (N.length - vs.length) .un) with
    | none => rw [eb] at e; cases e
    | some pb =>
      obtain ⟨fl, ρ⟩ := pb
      rw [eb] at e
      refine b2 F0 H (L2.start N vs) _ ρ fl _ (rep_start R) eb fun σ' F' H' p => ?_
      cases fl with
      | bk => cases e
      | ct => cases e
      | nx =>
        simp only [fnEnd] at e
        split at e
        · rename_i hB
          cases e
          obtain ⟨x1, x2, x3⟩ := fin p rfl hB
          exact q .non F' H' x1 x2 x3 .non
        · cases e
      | rt r2 =>
        simp only [fnEnd] at e
        split at e
        · rename_i hB
          cases e
          obtain ⟨x1, x2, x3⟩ := fin p rfl hB
          exact fun v ro => q v F' H' x1 x2 x3 ro
        · cases e
  · cases e
end
section
variable {K : KF} {k : Nat} {P : List Nat} {Y : Fm K k}
/-- the slots that are handed in -/
def toSV (ρ : DE) : XV → SV
  | .dat d => .dat d
  | .sl i => ρ.getD i .un
/-- the lists that are handed in: place among the arguments, slot -/
def groIx (ρ : DE) : List XV → Nat → List (Nat × Nat)
  | [], _ => []
  | .sl i :: xs, j => match ρ[i]? with
    | some (.gro _) => (j, i) :: groIx ρ xs (j + 1)
    | _ => groIx ρ xs (j + 1)
  | .dat _ :: xs, j => groIx ρ xs (j + 1)
def eDefEnd (ρ : DE) : List (Nat × Nat) → Option (RV × List SV) → Option (RV × DE)
  | [], some (r, _) => some (r, ρ)
  | [(j, i)], some (r, args') => some (r, ρ.set i (args'.getD j .un))
  | _, _ => none
def eDef (g : FD) (as : List Ar) : ED := fun ρ => match runA as ρ with
  | none => none
  | some (xs, ρ1) => eDefEnd ρ1 (groIx ρ1 xs 0) (g (xs.map (toSV ρ1)))
theorem groIx_of {ρ : DE} {ds : List PyData} {i : Nat} (h : ρ[i]? = some (SV.gro ds)) : ∀ {xs : List XV} {m j : Nat}, xs[j]? = some (.sl i) → (m + j, i) ∈ groIx ρ xs m
  | [], _, _, e => by simp at e
  | .sl l :: xs, m, 0, e => by
    simp only [List.getElem?_cons_zero, Option.some.injEq, XV.sl.injEq] at e
    subst e
    simp [groIx, h]
  | .dat _ :: xs, m, 0, e => by simp at e
  | .sl l :: xs, m, j + 1, e => by
    have z := groIx_of h (xs := xs) (m := m + 1) (j := j) (by simpa using e)
    rw [show m + (j + 1) = m + 1 + j by omega]
    unfold groIx
    split
    · exact List.mem_cons_of_mem _ z
    · exact z
  | .dat _ :: xs, m, j + 1, e => by
    have z := groIx_of h (xs := xs) (m := m + 1) (j := j) (by simpa using e)
    rw [show m + (j + 1) = m + 1 + j by omega]
    exact z
theorem groIx_is {ρ : DE} : ∀ {xs : List XV} {m j i : Nat}, (j, i) ∈ groIx ρ xs m → m ≤ j ∧ xs[j - m]? = some (.sl i) ∧ ∃ ds, ρ[i]? = some (SV.gro ds)
  | [], _, _, _, h => by simp [groIx] at h
  | .dat _ :: xs, m, j, i, h => by
    obtain ⟨h1, h2, h3⟩ := groIx_is (xs := xs) (m := m + 1) h
    refine ⟨by omega, ?_, h3⟩
    rw [show j - m = (j - (m + 1)) + 1 by omega]
    simpa using h2
  | .sl l :: xs, m, j, i, h => by
    unfold groIx at h
    split at h
    · rename_i ds e
      rcases List.mem_cons.mp h with z | z
      · cases z
        exact ⟨Nat.le_refl _, by simp, ds, e⟩
      · obtain ⟨h1, h2, h3⟩ := groIx_is (xs := xs) (m := m + 1) z
        refine ⟨by omega, ?_, h3⟩
        rw [show j - m = (j - (m + 1)) + 1 by omega]
        simpa using h2
    · obtain ⟨h1, h2, h3⟩ := groIx_is (xs := xs) (m := m + 1) h
      refine ⟨by omega, ?_, h3⟩
      rw [show j - m = (j - (m + 1)) + 1 by omega]
      simpa using h2
theorem xsGet {F : Hp} {σ : Sg} : ∀ {vs : List V} {xs : List XV} {j : Nat} {x : XV}, XsOk K F σ vs xs → xs[j]? = some x → ∃ v, vs[j]? = some v ∧ XOk K F σ v x
  | _, _, _, _, .nil, e => by simp at e
  | _, _, 0, _, .cons h _, e => by simp at e; subst e; exact ⟨_, rfl, h⟩
  | _, _, j + 1, x, .cons _ h, e => by
    obtain ⟨v, a, b⟩ := xsGet (j := j) (x := x) h (by simpa using e)
    exact ⟨v, by simpa using a, b⟩
theorem xsLen {F : Hp} {σ : Sg} : ∀ {vs : List V} {xs : List XV}, XsOk K F σ vs xs → vs.length = xs.length
  | _, _, .nil => rfl
  | _, _, .cons _ h => by simp [xsLen h]
theorem getD_of {ρ : DE} {i : Nat} {ds : List PyData} (h : ρ.getD i .un = .gro ds) : ρ[i]? = some (.gro ds) := by
  rw [List.getD_eq_getElem?_getD] at h
  cases e : ρ[i]? with
  | none => rw [e] at h; cases h
  | some s => rw [e] at h; rw [show s = SV.gro ds from h]
theorem eDefEnd_some {ρ ρ' : DE} {l : List (Nat × Nat)} {o : Option (RV × List SV)} {r : RV} (h : eDefEnd ρ l o = some (r, ρ')) : ∃ args', o = some (r, args') ∧ ((l = [] ∧ ρ' = ρ) ∨ ∃ j i, l = [(j, i)] ∧ ρ' = ρ.set i (args'.getD j .un)) := by
  unfold eDefEnd at h
  split at h
  · cases h; exact ⟨_, rfl, .inl ⟨rfl, rfl⟩⟩
  · cases h; exact ⟨_, rfl, .inr ⟨_, _, rfl, rfl⟩⟩
  · cases h
theorem serves_def {n : Nat} {g : FD} {t : TA} {as : List Ar} (hn : ∀ args r, g args = some r → args.length = n) (ha : ServesA K t as) : Serves K (tCall (spD K n g) [] E0 t) (eDef g as) := fun F H σ ρ ρ' r Q R e q => by
  unfold eDef at e
  cases e1 : runA as ρ with
  | none => rw [e1] at e; cases e
  | some p1 =>
    obtain ⟨xs, ρ1⟩ := p1
    rw [e1] at e
    simp only at e
    refine ha F H σ ρ ρ1 xs _ R e1 fun vs F1 H1 p hx => ?_
    rw [List.append_nil]
    have hlx := xsLen hx
    -- what is handed in, slot by slot
    have arg : ∀ (j : Nat) (s : SV), (xs.map (toSV ρ1))[j]? = some s → SlotOk K F1 H1 (vs.map some)[j]? s := fun j s hs => by
      rw [List.getElem?_map] at hs
      cases ex : xs[j]? with
      | none => rw [ex] at hs; cases hs
      | some x =>
        rw [ex] at hs
        cases hs
        obtain ⟨v, hv, ho⟩ := xsGet hx ex
        rw [List.getElem?_map, hv]
        cases x with
        | dat d => exact ⟨v, rfl, ho⟩
        | sl i =>
          have ho : σ[i]? = some (some v) := ho
          show SlotOk K F1 H1 (some (some v)) (ρ1.getD i .un)
          rw [List.getD_eq_getElem?_getD]
          cases er : ρ1[i]? with
          | none => trivial
          | some s =>
            have z := p.rep.slot i s er
            rw [ho] at z
            exact z
    have gro : ∀ (j : Nat) (ds : List PyData), (xs.map (toSV ρ1))[j]? = some (SV.gro ds) → ∃ i, xs[j]? = some (.sl i) ∧ ρ1[i]? = some (.gro ds) := fun j ds hs => by
      rw [List.getElem?_map] at hs
      cases ex : xs[j]? with
      | none => rw [ex] at hs; cases hs
      | some x =>
        rw [ex] at hs
        cases x with
        | dat d => cases hs
        | sl i => exact ⟨i, rfl, getD_of (Option.some.inj hs)⟩
    -- an address of a list that is handed in is its slot's
    have mtA : ∀ a, Mt (vs.map some) (xs.map (toSV ρ1)) a → ∃ (j i : Nat), xs[j]? = some (XV.sl i) ∧ MutAt σ ρ1 i a := fun a ⟨j, ⟨ds, h1⟩, h2⟩ => by
      obtain ⟨i, ex, er⟩ := gro j ds h1
      obtain ⟨v, hv, ho⟩ := xsGet hx ex
      rw [List.getElem?_map, hv] at h2
      have h2 : v = .ref a := Option.some.inj (Option.some.inj h2)
      subst h2
      exact ⟨j, i, ex, ⟨ds, er⟩, ho⟩
    have mtS : ∀ a, Mt (vs.map some) (xs.map (toSV ρ1)) a → Mt σ ρ1 a := fun a z => by
      obtain ⟨j, i, _, m⟩ := mtA a z
      exact ⟨i, m⟩
    obtain ⟨args', eg, ee⟩ := eDefEnd_some e
    have hlen := hn _ _ eg
    rw [List.length_map] at hlen
    refine ⟨by omega, F1, xs.map (toSV ρ1), args', r, ⟨p.rep.sub, by rw [List.length_map, List.length_map]; omega, arg, fun i j a x y => ?_⟩, eg, fun v F' H' xe xs' xb ro => ?_⟩
    · obtain ⟨⟨ds1, a1⟩, a2⟩ := x
      obtain ⟨⟨ds2, b1⟩, b2⟩ := y
      obtain ⟨i1, c1, d1⟩ := gro i ds1 a1
      obtain ⟨i2, c2, d2⟩ := gro j ds2 b1
      have m1 := groIx_of d1 (m := 0) c1
      have m2 := groIx_of d2 (m := 0) c2
      simp only [Nat.zero_add] at m1 m2
      rcases ee with ⟨z, _⟩ | ⟨j0, i0, z, _⟩
      · rw [z] at m1; cases m1
      · rw [z] at m1 m2
        simp only [List.mem_singleton] at m1 m2
        rw [← m2] at m1
        exact (Prod.mk.inj m1).1
    · -- behind the call
      have sl : ∀ (l : Nat) (s : SV), ρ1[l]? = some s → (∀ a, MutAt σ ρ1 l a → ¬ Mt (vs.map some) (xs.map (toSV ρ1)) a) → SlotOk K F' H' σ[l]? s := fun l s hs hm => by
        have z := p.rep.slot l s hs
        cases s with
        | un => trivial
        | dat d =>
          obtain ⟨v, q1, q2⟩ := z
          exact ⟨v, q1, dpMono xe.f d v q2⟩
        | gro ds =>
          obtain ⟨b, ws, q1, q2, q3, q4⟩ := z
          have nb := hm b ⟨⟨ds, hs⟩, q1⟩
          refine ⟨b, ws, q1, xe.h b _ q2 nb, ?_, dpAllMono xe.f ds ws q4⟩
          cases y : F' b with
          | none => rfl
          | some o =>
            rcases xe.n b o y with u | u | u
            · rw [q3] at u; cases u
            · rw [q2] at u; cases u
            · exact absurd u nb
      have xw : Ext (Mt σ ρ1) F1 H1 F' H' := xe.weak mtS
      rcases ee with ⟨z1, rfl⟩ | ⟨j, i, z1, rfl⟩
      · have none : ∀ a, ¬ Mt (vs.map some) (xs.map (toSV ρ')) a := fun a ha => by
          obtain ⟨j, ⟨ds, h1⟩, _⟩ := ha
          obtain ⟨i1, c1, d1⟩ := gro j ds h1
          have m1 := groIx_of d1 (m := 0) c1
          rw [z1] at m1; cases m1
        exact q v F' H' (p.trans ⟨⟨xs', p.rep.len, fun l s hs => sl l s hs fun a _ => none a, p.rep.apart⟩, xw, fun _ z => z⟩) (ro.back p.ext.k)
      · have hm : (j, i) ∈ groIx ρ1 xs 0 := by rw [z1]; exact List.mem_singleton.mpr rfl
        obtain ⟨_, ex, ds, er⟩ := groIx_is hm
        rw [Nat.sub_zero] at ex
        obtain ⟨vj, hv, ho⟩ := xsGet hx ex
        have ho : σ[i]? = some (some vj) := ho
        obtain ⟨s, hs, hne, hso⟩ := xb j ds (by rw [List.getElem?_map, ex]; show some (ρ1.getD i .un) = _; rw [List.getD_eq_getElem?_getD, er]; rfl)
        have hd : args'.getD j .un = s := by rw [List.getD_eq_getElem?_getD, hs]; rfl
        rw [hd] at q
        rw [List.getElem?_map, hv] at hso
        have only : ∀ l a, MutAt σ ρ1 l a → Mt (vs.map some) (xs.map (toSV ρ1)) a → l = i := fun l a hl ha => by
          obtain ⟨j2, i2, ex2, m2⟩ := mtA a ha
          obtain ⟨ds2, er2⟩ := m2.1
          have m3 := groIx_of er2 (m := 0) ex2
          rw [z1] at m3
          simp only [List.mem_singleton, Prod.mk.injEq] at m3
          rw [← m3.2]
          exact p.rep.apart l i2 a hl m2
        have old : ∀ l a, MutAt σ (ρ1.set i s) l a → MutAt σ ρ1 l a := fun l a ⟨⟨es, h1⟩, h2⟩ => by
          by_cases hl : i = l
          · subst hl
            exact ⟨⟨ds, er⟩, h2⟩
          · rw [List.getElem?_set_ne hl] at h1
            exact ⟨⟨es, h1⟩, h2⟩
        refine q v F' H' (p.trans ⟨⟨xs', by rw [List.length_set]; exact p.rep.len, fun l s' hs' => ?_, fun l l2 a x y => p.rep.apart l l2 a (old l a x) (old l2 a y)⟩, xw, fun a ⟨l, z⟩ => ⟨l, old l a z⟩⟩) (ro.back p.ext.k)
        by_cases hl : i = l
        · subst hl
          have z := get_set_self hs'
          subst z
          rw [ho]
          exact hso
        · rw [List.getElem?_set_ne hl] at hs'
          exact sl l s' hs' fun a ha hb => hl (only l a ha hb).symm
theorem fnD_len {P : List Nat} {n N : Nat} {body : SD} : ∀ args r, fnD P n N body args = some r → args.length = n := fun args r e => by
  unfold fnD at e
  split at e
  · rename_i h; exact h.1
  · cases e
theorem pe_callG {X : Cx} {f : Addr} {fd : FuncData} {ps : List Str} {kf : Nat} {sp : Sp} {x : Str} {p pos : Pos} {e : Expr} {es : List Expr} {t : TA} (F : FnG X.prog X.w X.K X.mg X.base kf f fd ps sp) (hr : Room kf X.A) (hgd : X.A.guards = some []) (hg : Gl X x) (hm : X.mg x = some (.ref f))
    (hk : PySem.W.keepIn X.K (.ref f) = true) (hb : Binds X.K fd ps []) (ha : PA X (e :: es) t) (hdb : (x == ("__debug__" : Str)) = false) (he : starEach (e :: es) X.env = (false, eval e X.env) :: starEach es X.env) (hpl : (backTo pos (starEach es X.env)).any (·.1) = false) :
    PE X (.Call (.Name x p) (e :: es) [] pos) (tCall sp [] E0 t) := by
  refine ⟨fun pins s σ H Q I h => wpAny_Call_Name_kw (ld_glob I hg hm ?_ hdb)⟩
  have args := thn (ha.run pos pins s σ H _ I h) (Q' := fun us s1 => X.K.In s1.heap ∧ wpAny (model X.prog X.w) X.A (call (.ref f) us) (EP X pins σ Q) X.xe s1) fun us s1 hq => by
    obtain ⟨vs, H1, I1, r, q⟩ := hq
    rw [List.append_nil] at q
    refine ⟨I1.kIn, wpAny_call ?_⟩
    have bt := hb s1 us I1.kIn (by rw [List.append_nil, ← r.length]; exact F.len _ _ _ q)
    rw [List.append_nil] at bt
    refine codeAny_mono (F.go X.A X.stack s1 H1 ⟨us, []⟩ us vs Q hr hgd I1.env0 bt r q) fun o s2 hs => ?_
    cases o with
    | error z => exact (show False from hs).elim
    | ok fl =>
      cases fl with
      | next => exact (show False from hs).elim
      | brk => exact (show False from hs).elim
      | cont => exact (show False from hs).elim
      | ret u => exact I1.after hs
  exact PySem.W.callWith_K (h₀ := X.base) I.ok.mod.kin hk args he hpl
theorem d_def {f : Addr} {fd : FuncData} {ps : List Str} {n kf : Nat} {g : FD} {x : Str} {p pos : Pos} {e : Expr} {es : List Expr} {as : List Ar} (F : ∀ i, FnG (Y.X i).prog (Y.X i).w (Y.X i).K (Y.X i).mg (Y.X i).base kf f fd ps (spD K n g)) (hn : ∀ args r, g args = some r → args.length = n)
    (hm : ∀ i, (Y.X i).mg x = some (.ref f)) (hkp : PySem.W.keepIn K (.ref f) = true) (hb : Binds K fd ps []) (ha : PAd Y (e :: es) as) (hk : kf ≤ k := by decide) (hg : ∀ i, Gl (Y.X i) x := by intro _; rfl) (hdb : (x == ("__debug__" : Str)) = false := by decide)
    (he : ∀ i, starEach (e :: es) (Y.X i).env = (false, eval e (Y.X i).env) :: starEach es (Y.X i).env := by intro _; rfl) (hpl : ∀ i, (backTo pos (starEach es (Y.X i).env)).any (·.1) = false := by intro _; rfl) : PEd Y (.Call (.Name x p) (e :: es) [] pos) (eDef g as) := by
  obtain ⟨t, a1, a2⟩ := ha
  refine ⟨_, fun i => pe_callG (F i) ((Y.room i).mono hk) (Y.gd i) (hg i) (hm i) (by rw [Y.hK i]; exact hkp) (by rw [Y.hK i]; exact hb) (a1 i) hdb (he i) (hpl i), serves_def hn a2⟩
end
end DL
/-! DLe: operators, built-ins, methods, what is walked: each with what it does to data. -/
namespace DL
open PySem PySem.Spec PyProof.Rows L2
section
variable {K : KF}
/-! ### from readings to data -/
theorem OpS.or {r r' : R2} {o o' : PyData → PyData → Option RV} (h : OpS K r o) (h' : OpS K r' o') : OpS K (fun x y H Q => r x y H Q ∨ r' x y H Q) (fun d e => match o d e with | some x => some x | none => o' d e) := fun F H x y d e rv Q s a b q k => by
  simp only at q
  split at q
  · rename_i z ez
    exact .inl (h F H x y d e rv Q s a b (by rw [ez]; exact q) k)
  · exact .inr (h' F H x y d e rv Q s a b q k)
theorem CallS.or {r r' : List V → Hp → VK → Prop} {o o' : List PyData → Option RV} (h : CallS K r o) (h' : CallS K r' o') : CallS K (fun xs H Q => r xs H Q ∨ r' xs H Q) (fun ds => match o ds with | some x => some x | none => o' ds) := fun F H vs ds rv Q s a q k => by
  simp only at q
  split at q
  · rename_i z ez
    exact .inl (h F H vs ds rv Q s a (by rw [ez]; exact q) k)
  · exact .inr (h' F H vs ds rv Q s a q k)
theorem same_sq {F H : Hp} (s : Same F H) {a : Addr} {xs : List V} (h : SqL K F a xs) : SqL K H a xs := Same.seq s h
theorem same_tq {F H : Hp} (s : Same F H) {a : Addr} {xs : List V} (h : TQ K F a xs) : SqT K H a xs := (h.same s).sq
theorem same_none {F H : Hp} (s : Same F H) {p : Addr} (h : H p = none) : F p = none := Same.free s h
/-- the value as it is, nothing laid -/
theorem plain {F H : Hp} {v : V} {d : PyData} {Q : VK} (s : Same F H) (h : Dp K F v d) (k : ∀ v F' H', Same F' H' → Ext No F H F' H' → ResOk K F' H' H v (.dat d) → Q v H') : Q v H := k v F H s Ext.refl h
theorem laidTup {F H : Hp} {vs : List V} {ds : List PyData} {Q : VK} (s : Same F H) (h : DpAll K F vs ds) (k : ∀ v F' H', Same F' H' → Ext No F H F' H' → ResOk K F' H' H v (.dat (.tuple ds)) → Q v H') : LayT H vs Q := fun p o hp ho =>
  k _ (upd F p (.frz o (.tup vs))) _ (Same.new s) (Ext.new hp s) (.tup (TQ.of ho) (dpAllMono (Ext.new (A := No) hp s).f _ _ h))
theorem laidLst {F H : Hp} {vs : List V} {ds : List PyData} {Q : VK} (s : Same F H) (h : DpAll K F vs ds) (k : ∀ v F' H', Same F' H' → Ext No F H F' H' → ResOk K F' H' H v (.new ds) → Q v H') {p : Addr} (hp : H p = none) : Q (.ref p) (upd H p (.lst vs)) :=
  k _ F _ (Same.newM s hp) (Ext.newM hp) ⟨p, vs, rfl, upd_same, same_none s hp, h, hp⟩

/-! ### numbers -/
def opI (C : Int → Int → Bool) (g : Int → Int → PyData) : PyData → PyData → Option RV
  | .int i, .int j => if C i j then some (.dat (g i j)) else none
  | _, _ => none
theorem opS_I {C : Int → Int → Prop} {Cb : Int → Int → Bool} {gv : Int → Int → V} {g : Int → Int → PyData} (hC : ∀ i j, Cb i j = true → C i j) (hg : ∀ F i j, Dp K F (gv i j) (g i j)) : OpS K (rI C gv) (opI Cb g) := fun F H x y d e rv Q s a b q k => by
  unfold opI at q
  split at q
  · rename_i i j
    split at q
    · rename_i hc
      cases q
      cases a
      cases b
      exact ⟨i, j, rfl, rfl, hC i j hc, plain s (hg F i j) k⟩
    · cases q
  · cases q
def opI0 (g : Int → Int → PyData) : PyData → PyData → Option RV
  | .int i, .int j => some (.dat (g i j))
  | _, _ => none
theorem opS_I0 {gv : Int → Int → V} {g : Int → Int → PyData} (hg : ∀ F i j, Dp K F (gv i j) (g i j)) : OpS K (rI0 gv) (opI0 g) := fun F H x y d e rv Q s a b q k => by
  unfold opI0 at q
  split at q
  · rename_i i j
    cases q
    cases a
    cases b
    exact ⟨i, j, rfl, rfl, plain s (hg F i j) k⟩
  · cases q
def subD := opI0 fun i j => .int (i - j)
def ltD := opI0 fun i j => .bool (decide (i < j))
def leD := opI0 fun i j => .bool (decide (i ≤ j))
def gtD := opI0 fun i j => .bool (decide (j < i))
def geD := opI0 fun i j => .bool (decide (j ≤ i))
def bitsOk (i j : Int) : Bool := decide (i.natAbs.log2 + j.natAbs.log2 < 1000000)
def divOk (_ j : Int) : Bool := decide (0 < j) && decide (j.natAbs.log2 < 9000)
def divD := opI divOk fun i j => .int (i / j)
def modD := opI (fun _ j => decide (0 < j)) fun i j => .int (i % j)
theorem s_sub : OpS K (rI0 fun i j => .int (i - j)) subD := opS_I0 fun _ _ _ => .int _
theorem s_lt : OpS K (rI0 fun i j => .bl (decide (i < j))) ltD := opS_I0 fun _ _ _ => .bl _
theorem s_le : OpS K (rI0 fun i j => .bl (decide (i ≤ j))) leD := opS_I0 fun _ _ _ => .bl _
theorem s_gt : OpS K (rI0 fun i j => .bl (decide (j < i))) gtD := opS_I0 fun _ _ _ => .bl _
theorem s_ge : OpS K (rI0 fun i j => .bl (decide (j ≤ i))) geD := opS_I0 fun _ _ _ => .bl _
theorem s_div : OpS K (rI CDivW fun i j => .int (i / j)) divD := opS_I (fun i j h => by
  unfold divOk at h
  simp only [Bool.and_eq_true, decide_eq_true_eq] at h
  exact h) fun _ _ _ => .int _
theorem s_mod : OpS K (rI (fun _ j => 0 < j) fun i j => .int (i % j)) modD := opS_I (fun i j h => by simpa using h) fun _ _ _ => .int _
/-- a power: any size up to the line -/
def powOk (i j : Int) : Bool := decide (0 ≤ j) && decide ((Builtin.Int.intBits i : Int) * j ≤ 2 ^ 27)
def powD := opI powOk fun i j => .int (i ^ j.toNat)
def CPowW (i j : Int) : Prop := 0 ≤ j ∧ (Builtin.Int.intBits i : Int) * j ≤ 2 ^ 27
theorem op_powW {X : Cx} : OpR X (binaryOp .Pow) (rI CPowW fun i j => .int (i ^ j.toNat)) := L2.opI fun _ _ _ _ _ _ _ hc q => pow_int hc.1 hc.2 q
theorem s_pow : OpS K (rI CPowW fun i j => .int (i ^ j.toNat)) powD := opS_I (fun i j h => by
  unfold powOk at h
  simp only [Bool.and_eq_true, decide_eq_true_eq] at h
  exact h) fun _ _ _ => .int _

/-! ### + and * -/
def addD : PyData → PyData → Option RV
  | .int i, .int j => some (.dat (.int (i + j)))
  | .str i, .str j => if i.length + j.length ≤ sizeLine then some (.dat (.str (i ++ j))) else none
  | .tuple xs, .tuple ys => if xs.length + ys.length ≤ sizeLine then some (.dat (.tuple (xs ++ ys))) else none
  | .list xs, .list ys => if xs.length + ys.length ≤ sizeLine then some (.new (xs ++ ys)) else none
  | _, _ => none
def rCatS (K : KF) : R2 := fun x y H Q => ∃ l b xs zs, x = .ref l ∧ y = .ref b ∧ SqL K H l xs ∧ SqL K H b zs ∧ xs.length + zs.length ≤ sizeLine ∧ ∀ p, H p = none → Q (.ref p) (upd H p (.lst (xs ++ zs)))
theorem op_catS {X : Cx} : OpR X (binaryOp .Add) (rCatS X.K) := by
  intro pins s σ H x y v u Q I rx ry h
  obtain ⟨l, b, xs, zs, rfl, rfl, hH, hB, hz, q⟩ := h
  cases rx
  cases ry
  obtain ⟨its, r1, ⟨⟨c1, d1, t1, s1⟩, n1, e1, f1, g1, k1⟩, z1⟩ := I.list hH
  obtain ⟨its2, r2, ⟨⟨c2, d2, t2, s2⟩, n2, e2, f2, g2, k2⟩, z2⟩ := I.list hB
  simp only at f1 k1 f2 k2
  subst f1 k1 f2 k2
  have l1 := r1.length
  have l2 := r2.length
  have ea : its.toArray ++ its2.toArray = (its ++ its2).toArray := by simp
  refine concat_meets ⟨_, e1, rfl⟩ ⟨_, e2, rfl⟩ noFill_list_add seq_list_add PySem.F.slot_list_add PySem.F.entry_list_add (PySem.F.args_list_add_2 _ _) (list_addW l b its.toArray its2.toArray n1 n2 d1 d2 s1 s2 (by simp only [List.size_toArray]; omega)) ⟨e1, e2, ?_⟩
  rw [ea]
  exact ⟨.ref _, _, I.lnew (t' := s.toks) (r1.append r2) (by rw [List.length_append]; omega), rfl, q _ I.fresh⟩
abbrev rAddAny (K : KF) : R2 := fun x y H Q => (∃ i j, x = .int i ∧ y = .int j ∧ Q (.int (i + j)) H) ∨ (∃ i j, x = .str i ∧ y = .str j ∧ i.length + j.length ≤ sizeLine ∧ Q (.str (i ++ j)) H) ∨ rCatF K x y H Q ∨ rCatS K x y H Q
theorem op_addAny {X : Cx} : OpR X (binaryOp .Add) (rAddAny X.K) := op_add.or (op_add_str.or (op_catF.or op_catS))
theorem s_add : OpS K (rAddAny K) addD := fun F H x y d e rv Q s a b q k => by
  unfold addD at q
  split at q
  · cases q; cases a; cases b
    exact .inl ⟨_, _, rfl, rfl, plain s (.int _) k⟩
  · split at q
    · rename_i hz
      cases q; cases a; cases b
      exact .inr (.inl ⟨_, _, rfl, rfl, hz, plain s (.str _) k⟩)
    · cases q
  · rename_i ds es
    split at q
    · rename_i hz
      cases q
      cases a with
      | @tup p xs _ h1 h2 =>
        cases b with
        | @tup p2 ys _ g1 g2 =>
          refine .inr (.inr (.inl ⟨p, p2, xs, ys, rfl, rfl, same_tq s h1, same_tq s g1, by rw [dpAllLen h2, dpAllLen g2]; exact hz, fun e => ?_, fun _ e => ?_, fun _ _ => laidTup s (dpAllApp h2 g2) k⟩))
          · subst e; cases h2; exact plain s (.tup g1 g2) k
          · subst e; cases g2; exact plain s (.tup h1 (by rw [List.append_nil]; exact h2)) k
    · cases q
  · rename_i ds es
    split at q
    · rename_i hz
      cases q
      cases a with
      | @lst p xs _ h1 h2 =>
        cases b with
        | @lst p2 ys _ g1 g2 =>
          exact .inr (.inr (.inr ⟨p, p2, xs, ys, rfl, rfl, same_sq s h1, same_sq s g1, by rw [dpAllLen h2, dpAllLen g2]; exact hz, fun p hp => laidLst s (dpAllApp h2 g2) k hp⟩))
    · cases q
  · cases q
def mulD := opI bitsOk fun i j => .int (i * j)
theorem s_mul : OpS K (rI CMulW fun i j => .int (i * j)) mulD := opS_I (fun i j h => by
  unfold bitsOk at h
  have z : i.natAbs.log2 + j.natAbs.log2 < 1000000 := by simpa using h
  exact z) fun _ _ _ => .int _

/-! ### ==, !=, is None -/
def eqD : PyData → PyData → Option RV
  | .str x, .str y => some (.dat (.bool (decide (x = y))))
  | .int x, .int y => some (.dat (.bool (decide (x = y))))
  | d, e => if SeqAt.shaped d && SeqAt.shaped e then some (.dat (.bool (PyData.eqv d e))) else none
def neD : PyData → PyData → Option RV
  | .str x, .str y => some (.dat (.bool (!decide (x = y))))
  | .int x, .int y => some (.dat (.bool (!decide (x = y))))
  | d, e => if SeqAt.shaped d && SeqAt.shaped e then some (.dat (.bool (!PyData.eqv d e))) else none
abbrev rEqAn (K : KF) : R2 := fun x y H Q => rEq x y H Q ∨ rEqD K x y H Q
abbrev rNeAn (K : KF) : R2 := fun x y H Q => rNe x y H Q ∨ rNeD K x y H Q
theorem s_eq : OpS K (rEqAn K) eqD := fun F H x y d e rv Q s a b q k => by
  unfold eqD at q
  split at q
  · cases q; cases a; cases b
    refine .inl ⟨rfl, ?_⟩
    rw [show ∀ (i j : Str), decide (V.str i = V.str j) = decide (i = j) from fun i j => by simp]
    exact plain s (.bl _) k
  · cases q; cases a; cases b
    refine .inl ⟨rfl, ?_⟩
    rw [show ∀ (i j : Int), decide (V.int i = V.int j) = decide (i = j) from fun i j => by simp]
    exact plain s (.bl _) k
  · split at q
    · rename_i h
      simp only [Bool.and_eq_true] at h
      cases q
      exact .inr ⟨d, e, dpKit _ _ (dpMono s _ _ a), dpKit _ _ (dpMono s _ _ b), h.1, h.2, plain s (.bl _) k⟩
    · cases q
theorem s_ne : OpS K (rNeAn K) neD := fun F H x y d e rv Q s a b q k => by
  unfold neD at q
  split at q
  · cases q; cases a; cases b
    refine .inl ⟨rfl, ?_⟩
    rw [show ∀ (i j : Str), decide (V.str i = V.str j) = decide (i = j) from fun i j => by simp]
    exact plain s (.bl _) k
  · cases q; cases a; cases b
    refine .inl ⟨rfl, ?_⟩
    rw [show ∀ (i j : Int), decide (V.int i = V.int j) = decide (i = j) from fun i j => by simp]
    exact plain s (.bl _) k
  · split at q
    · rename_i h
      simp only [Bool.and_eq_true] at h
      cases q
      exact .inr ⟨d, e, dpKit _ _ (dpMono s _ _ a), dpKit _ _ (dpMono s _ _ b), h.1, h.2, plain s (.bl _) k⟩
    · cases q
def isNone : PyData → Bool
  | .none => true
  | _ => false
def isND : PyData → PyData → Option RV := fun d e => match e with
  | .none => some (.dat (.bool (isNone d)))
  | _ => none
def notND : PyData → PyData → Option RV := fun d e => match e with
  | .none => some (.dat (.bool (!isNone d)))
  | _ => none
theorem none_is {F : Hp} {v : V} {d : PyData} (h : Dp K F v d) : decide (v = .non) = isNone d := by
  cases h <;> first | rfl | exact decide_eq_false (fun z => nomatch z)
theorem s_isN : OpS K (fun x y H Q => y = .non ∧ Q (.bl (decide (x = .non))) H) isND := fun F H x y d e rv Q s a b q k => by
  unfold isND at q
  split at q
  · cases q; cases b
    refine ⟨rfl, ?_⟩
    rw [none_is a]
    exact plain s (.bl _) k
  · cases q
theorem s_notN : OpS K (fun x y H Q => y = .non ∧ Q (.bl (!decide (x = .non))) H) notND := fun F H x y d e rv Q s a b q k => by
  unfold notND at q
  split at q
  · cases q; cases b
    refine ⟨rfl, ?_⟩
    rw [none_is a]
    exact plain s (.bl _) k
  · cases q

/-! ### subscripts, slices -/
def ixD : PyData → PyData → Option RV
  | .list xs, .int i => (atI xs i).map .dat
  | .tuple xs, .int i => (atI xs i).map .dat
  | .str z, .int i => if z.length ≤ sizeLine then (atI z.cps.toList i).map fun c => .dat (.str ⟨#[c]⟩) else none
  | _, _ => none
theorem atI_dp {F : Hp} {vs : List V} {ds : List PyData} {i : Int} {d : PyData} (h : DpAll K F vs ds) (e : atI ds i = some d) : ∃ v, atI vs i = some v ∧ Dp K F v d := by
  unfold atI at e ⊢
  rw [dpAllLen h]
  cases z : ixN ds.length i with
  | none => rw [z] at e; cases e
  | some j =>
    rw [z] at e
    exact dpAllGet h e
theorem s_ix : OpS K (rIx K) ixD := fun F H x y d e rv Q s a b q k => by
  unfold ixD at q
  split at q
  · rename_i ds i
    simp only [Option.map_eq_some_iff] at q
    obtain ⟨d, e, rfl⟩ := q
    cases a with
    | @lst p xs _ h1 h2 =>
      cases b
      obtain ⟨v, ev, dv⟩ := atI_dp h2 e
      exact .inl ⟨p, xs, i, v, rfl, rfl, same_sq s h1, ev, plain s dv k⟩
  · rename_i ds i
    simp only [Option.map_eq_some_iff] at q
    obtain ⟨d, e, rfl⟩ := q
    cases a with
    | @tup p xs _ h1 h2 =>
      cases b
      obtain ⟨v, ev, dv⟩ := atI_dp h2 e
      exact .inr (.inl ⟨p, xs, i, v, rfl, rfl, same_tq s h1, ev, plain s dv k⟩)
  · rename_i z i
    split at q
    · rename_i hz
      simp only [Option.map_eq_some_iff] at q
      obtain ⟨c, e, rfl⟩ := q
      cases a
      cases b
      exact .inr (.inr ⟨z, i, c, rfl, rfl, hz, e, plain s (.str _) k⟩)
    · cases q
  · cases q
def cutL {α : Type} (xs : List α) (lo hi : Option Int) : List α := (xs.drop (HT.sIx xs.length 0 lo)).take (HT.sIx xs.length xs.length hi - HT.sIx xs.length 0 lo)
theorem cutL_dp {F : Hp} {vs : List V} {ds : List PyData} {lo hi : Option Int} (h : DpAll K F vs ds) : DpAll K F (cutV vs lo hi) (cutL ds lo hi) := by
  unfold cutV cutL
  rw [dpAllLen h]
  exact dpAllTake _ (dpAllDrop _ h)
theorem cutL_whole {α : Type} {xs : List α} {lo hi : Option Int} (h : HT.sIx xs.length 0 lo = 0 ∧ HT.sIx xs.length xs.length hi = xs.length) : cutL xs lo hi = xs := by
  unfold cutL
  rw [h.1, h.2]
  simp
def slD : PyData → Option Int → Option Int → Option RV
  | .list xs, lo, hi => some (.new (cutL xs lo hi))
  | .tuple xs, lo, hi => some (.dat (.tuple (cutL xs lo hi)))
  | _, _, _ => none
/-- a part of a slice -/
abbrev PD := DE → Option (Option Int × DE)
def pNo : PD := fun ρ => some (none, ρ)
def pSome (f : ED) : PD := fun ρ => match f ρ with
  | some (.dat (.int i), ρ1) => some (some i, ρ1)
  | _ => none
end
section
variable {K : KF} {k : Nat} {P : List Nat} {Y : Fm K k}
def ServesP (K : KF) (t : TO) (f : PD) : Prop := ∀ (F H : Hp) (σ : Sg) (ρ ρ' : DE) (o : Option Int) (Q : Option Int → Hp → Prop), Rep K F H σ ρ → f ρ = some (o, ρ') → (∀ F' H', PostE K F H σ ρ F' H' ρ' → Q o H') → t σ H Q
variable (Y) in
def POpt (e : Option Expr) (f : PD) : Prop := ∃ t, (∀ i, PO (Y.X i) e t) ∧ ServesP K t f
theorem p_none : POpt Y none pNo := ⟨_, fun _ => po_none, fun F H σ ρ ρ' o Q R e q => by cases e; exact q F H (PostE.refl R)⟩
theorem p_some {e : Expr} {f : ED} (h : PEd Y e f) : POpt Y (some e) (pSome f) := by
  obtain ⟨t, a1, a2⟩ := h
  refine ⟨_, fun i => po_some (a1 i), fun F H σ ρ ρ' o Q R e q => ?_⟩
  unfold pSome at e
  split at e
  · rename_i i ρ1 e1
    cases e
    refine a2 F H σ ρ ρ' _ _ R e1 fun v F1 H1 p d => ?_
    have d : Dp K F1 v (.int i) := d
    cases d
    exact ⟨i, rfl, q F1 H1 p⟩
  · cases e
def eSl (f : ED) (lo hi : PD) : ED := fun ρ => match f ρ with
  | none => none
  | some (r, ρ1) => match lo ρ1 with
    | none => none
    | some (l, ρ2) => match hi ρ2 with
      | none => none
      | some (u, ρ3) => match slD r.d l u with
        | none => none
        | some x => some (x, ρ3)
theorem sl_any {X : Cx} : SlR X (fun x lo hi H Q => rSlL X.K x lo hi H Q ∨ rSlF X.K x lo hi H Q) := sl_list.or sl_tupF
theorem d_slice {e : Expr} {lo hi : Option Expr} {f : ED} {l u : PD} {p2 pos : Pos} (h : PEd Y e f) (h1 : POpt Y lo l) (h2 : POpt Y hi u) : PEd Y (.Subscript e (.Slice lo hi none p2) pos) (eSl f l u) := by
  obtain ⟨t, a1, a2⟩ := h
  obtain ⟨tl, b1, b2⟩ := h1
  obtain ⟨tu, c1, c2⟩ := h2
  refine ⟨tSl (fun x lo hi H Q => rSlL K x lo hi H Q ∨ rSlF K x lo hi H Q) t tl tu, fun i => ?_, fun F H σ ρ ρ' rv Q R e q => ?_⟩
  · have z := pe_slice (pos := pos) (p2 := p2) (sl_any (X := Y.X i)) (a1 i) (b1 i) (c1 i)
    rw [Y.hK i] at z
    exact z
  · unfold eSl at e
    cases e1 : f ρ with
    | none => rw [e1] at e; cases e
    | some q1 =>
      obtain ⟨r, ρ1⟩ := q1
      rw [e1] at e
      simp only at e
      cases e2 : l ρ1 with
      | none => rw [e2] at e; cases e
      | some q2 =>
        obtain ⟨lo, ρ2⟩ := q2
        rw [e2] at e
        simp only at e
        cases e3 : u ρ2 with
        | none => rw [e3] at e; cases e
        | some q3 =>
          obtain ⟨hi, ρ3⟩ := q3
          rw [e3] at e
          simp only at e
          cases e4 : slD r.d lo hi with
          | none => rw [e4] at e; cases e
          | some x =>
            rw [e4] at e
            cases e
            refine a2.d R e1 fun v F1 H1 p1 d1 => ?_
            refine b2 F1 H1 σ ρ1 ρ2 lo _ p1.rep e2 fun F2 H2 p2 => ?_
            refine c2 F2 H2 σ ρ2 _ hi _ p2.rep e3 fun F3 H3 p3 => ?_
            have p := p1.trans (p2.trans p3)
            have d3 := dpMono (p2.ext.f.trans p3.ext.f) _ _ d1
            have fin : ∀ v F' H', Same F' H' → Ext No F3 H3 F' H' → ResOk K F' H' H3 v rv → Q v H' := fun v F' H' s0 e0 ro => q v F' H' (p.ext0 e0 s0) (ro.back p.ext.k)
            unfold slD at e4
            split at e4
            · rename_i ds lo hi hrd
              cases e4
              rw [hrd] at d3
              cases d3 with
              | @lst a xs _ g1 g2 => exact .inl ⟨a, xs, rfl, same_sq p.rep.sub g1, fun z hz => laidLst p.rep.sub (cutL_dp g2) fin hz⟩
            · rename_i ds lo hi hrd
              cases e4
              rw [hrd] at d3
              cases d3 with
              | @tup a xs _ g1 g2 =>
                refine .inr ⟨a, xs, rfl, same_tq p.rep.sub g1, fun hw => ?_, fun _ => laidTup p.rep.sub (cutL_dp g2) fin⟩
                rw [dpAllLen g2] at hw
                rw [cutL_whole hw] at fin
                exact plain p.rep.sub (.tup g1 g2) fin
            · cases e4
/-! ### a list of a slot's own, read without being kept -/
def isSeq : Option SV → Bool
  | some (.gro _) => true
  | some (.dat (.list _)) => true
  | some (.dat (.tuple _)) => true
  | _ => false
theorem isSeq_ref {F H : Hp} {σ : Sg} {ρ : DE} {i : Nat} (R : Rep K F H σ ρ) (h : isSeq ρ[i]? = true) : ∃ a, σ[i]? = some (some (.ref a)) := by
  unfold isSeq at h
  split at h
  · rename_i ds e
    obtain ⟨a, vs, q1, _⟩ := R.slot i _ e
    exact ⟨a, q1⟩
  · rename_i ds e
    obtain ⟨v, q1, q2⟩ := R.slot i _ e
    cases q2
    exact ⟨_, q1⟩
  · rename_i ds e
    obtain ⟨v, q1, q2⟩ := R.slot i _ e
    cases q2
    exact ⟨_, q1⟩
  · cases h
def eIxG (i : Nat) (g : ED) : ED := fun ρ => if isSeq ρ[i]? then (match g ρ with
  | some (.dat (.int j), ρ1) => (match ρ1[i]? with
    | some (.gro ds) => (match atI ds j with
      | some d => some (.dat d, ρ1)
      | none => none)
    | some (.dat (.list ds)) => (match atI ds j with
      | some d => some (.dat d, ρ1)
      | none => none)
    | some (.dat (.tuple ds)) => (match atI ds j with
      | some d => some (.dat d, ρ1)
      | none => none)
    | _ => none)
  | _ => none) else none
theorem d_ixG (i : Nat) {x : Str} {b : Expr} {g : ED} {p1 pos : Pos} (hb : PEd Y b g) (hN : ∀ j, (Y.X j).N[i]? = some x := by intro _; rfl) (hv : ∀ j, Vis (Y.X j).env.scope x := by intro _; first | exact Or.inl rfl | exact Or.inr (Or.inl rfl) | exact Or.inr (Or.inr rfl)) (hd : (x == ("__debug__" : Str)) = false := by decide)
    (hcd : (x == ("__classdict__" : Str)) = false := by decide) (hp : PlainIx b := by intro _ _; rfl) : PEd Y (.Subscript (.Name x p1) b pos) (eIxG i g) := by
  obtain ⟨tb, b1, b2⟩ := hb
  refine ⟨tOp (rIx K) (tVar i) tb, fun j => ?_, fun F H σ ρ ρ' rv Q R e q => ?_⟩
  · have z := pe_ix (pos := pos) (ix_seq (X := Y.X j)) (pe_var (pos := p1) (hN j) (hv j) hd hcd) (b1 j) hp
    rw [Y.hK j] at z
    exact z
  · unfold eIxG at e
    split at e
    · rename_i hs
      obtain ⟨a, ha⟩ := isSeq_ref R hs
      split at e
      · rename_i j ρ1 e1
        refine ⟨.ref a, ha, b2 F H σ ρ ρ1 _ _ R e1 fun v F1 H1 p d => ?_⟩
        have d : Dp K F1 v (.int j) := d
        cases d
        split at e
        · rename_i ds er
          split at e
          · rename_i d ed
            cases e
            obtain ⟨a2, vs, q1, q2, q3, q4⟩ := p.rep.slot i _ er
            rw [ha] at q1
            cases q1
            obtain ⟨v, ev, dv⟩ := atI_dp q4 ed
            exact .inl ⟨a, vs, j, v, rfl, rfl, SqL.of q2, ev, q v F1 H1 p dv⟩
          · cases e
        · rename_i ds er
          split at e
          · rename_i d ed
            cases e
            obtain ⟨v2, q1, q2⟩ := p.rep.slot i _ er
            rw [ha] at q1
            cases q1
            cases q2 with
            | @lst _ xs _ h1 h2 =>
              obtain ⟨v, ev, dv⟩ := atI_dp h2 ed
              exact .inl ⟨a, xs, j, v, rfl, rfl, same_sq p.rep.sub h1, ev, q v F1 H1 p dv⟩
          · cases e
        · rename_i ds er
          split at e
          · rename_i d ed
            cases e
            obtain ⟨v2, q1, q2⟩ := p.rep.slot i _ er
            rw [ha] at q1
            cases q1
            cases q2 with
            | @tup _ xs _ h1 h2 =>
              obtain ⟨v, ev, dv⟩ := atI_dp h2 ed
              exact .inr (.inl ⟨a, xs, j, v, rfl, rfl, same_tq p.rep.sub h1, ev, q v F1 H1 p dv⟩)
          · cases e
        · cases e
      · cases e
    · cases e
/-- a list of a slot's own is written -/
theorem groWrite {F H : Hp} {σ : Sg} {ρ : DE} {i : Nat} {a : Addr} {ds es : List PyData} {ws : List V} (R : Rep K F H σ ρ) (e : ρ[i]? = some (.gro ds)) (ha : σ[i]? = some (some (.ref a))) (hw : DpAll K F ws es) : PostE K F H σ ρ F (upd H a (.lst ws)) (ρ.set i (.gro es)) := by
  obtain ⟨a2, vs, q1, q2, q3, q4⟩ := R.slot i _ e
  rw [ha] at q1
  cases q1
  have old : ∀ j b, MutAt σ (ρ.set i (.gro es)) j b → MutAt σ ρ j b := fun j b ⟨⟨xs, h1⟩, h2⟩ => by
    by_cases hj : i = j
    · subst hj; exact ⟨⟨ds, e⟩, h2⟩
    · rw [List.getElem?_set_ne hj] at h1
      exact ⟨⟨xs, h1⟩, h2⟩
  refine ⟨⟨fun b o z => ?_, by rw [List.length_set]; exact R.len, fun j s hs => ?_, fun j l b x y => R.apart j l b (old j b x) (old l b y)⟩, ⟨Same.refl _, fun b o z n => ?_, fun _ _ z => .inl z, fun b z => ?_⟩, fun b ⟨j, z⟩ => ⟨j, old j b z⟩⟩
  · have nb : b ≠ a := ne_of_none z q3
    rw [upd_ne nb]; exact R.sub _ _ z
  · by_cases hj : i = j
    · subst hj
      have z := get_set_self hs
      subst z
      exact ⟨a, ws, ha, upd_same, q3, hw⟩
    · rw [List.getElem?_set_ne hj] at hs
      have q := R.slot j s hs
      cases s with
      | un => trivial
      | dat d => exact q
      | gro xs =>
        obtain ⟨b, us, p1, p2, p3, p4⟩ := q
        have nb : b ≠ a := fun z => by
          subst z
          exact hj (R.apart i j b ⟨⟨ds, e⟩, ha⟩ ⟨⟨xs, hs⟩, p1⟩)
        exact ⟨b, us, p1, by rw [upd_ne nb]; exact p2, p3, p4⟩
  · have nb : b ≠ a := fun w => by
      subst w
      exact n ⟨i, ⟨ds, e⟩, ha⟩
    rw [upd_ne nb]; exact z
  · by_cases hb : b = a
    · subst hb; rw [upd_same] at z; cases z
    · rw [upd_ne hb] at z; exact z
/-- slot[index] = value -/
def sSetIx (i : Nat) (g f : ED) : SD := fun ρ => match f ρ with
  | none => none
  | some (r, ρ1) => if isSeq ρ1[i]? then (match g ρ1 with
    | some (.dat (.int j), ρ2) => (match ρ2[i]? with
      | some (.gro ds) => (match ixN ds.length j with
        | some n => some (.nx, ρ2.set i (.gro (ds.set n r.d)))
        | none => none)
      | _ => none)
    | _ => none) else none
theorem s_setIx (i : Nat) {x : Str} {b e : Expr} {g f : ED} {p1 p2 pos : Pos} (he : PEd Y e f) (hb : PEd Y b g) (hN : ∀ j, (Y.X j).N[i]? = some x := by intro _; rfl) (hv : ∀ j, Vis (Y.X j).env.scope x := by intro _; first | exact Or.inl rfl | exact Or.inr (Or.inl rfl) | exact Or.inr (Or.inr rfl)) (hd : (x == ("__debug__" : Str)) = false := by decide)
    (hcd : (x == ("__classdict__" : Str)) = false := by decide)
    (ha : ∀ l v, assign (.Subscript (.Name x p1) b p2) (Y.X l).env v = (do
      let ov ← holding [v] (eval (.Name x p1) (Y.X l).env)
      let iv ← holding [v, ov] (eval b (Y.X l).env)
      standAt p2
      holding [v, ov, iv] (setItem ov iv v)
      release [v, ov, iv] []) := by intro _ _; rfl)
    (hs : ∀ l, swapsWithSole [.Subscript (.Name x p1) b p2] e pos.line (Y.X l).env = pure false := by intro _; rfl) (hw : ∀ l, swappedStores [.Subscript (.Name x p1) b p2] e (Y.X l).env = pure none := by intro _; rfl)
    (h1 : ∀ l, (assignEach [.Subscript (.Name x p1) b p2] (Y.X l).env).map (·.2) = [assign (.Subscript (.Name x p1) b p2) (Y.X l).env] := by intro _; rfl) : PSd P Y (.Assign [.Subscript (.Name x p1) b p2] e pos) (sSetIx i g f) := by
  obtain ⟨t, a1, a2⟩ := he
  obtain ⟨tb, b1, b2⟩ := hb
  refine ⟨tAsg t (gSub (tVar i) tb rSetL), fun l => ps_asg (a1 l) (pg_sub (pe_var (hN l) (hv l) hd hcd) (b1 l) set_list (ha l)) (hs l) (hw l) (h1 l), fun F H σ ρ ρ' fl D R e q => ?_⟩
  unfold sSetIx at e
  cases e1 : f ρ with
  | none => rw [e1] at e; cases e
  | some q1 =>
    obtain ⟨r, ρ1⟩ := q1
    rw [e1] at e
    simp only at e
    split at e
    · rename_i hsq
      refine a2.d R e1 fun v F1 H1 p1 d1 => ?_
      obtain ⟨a, hA⟩ := isSeq_ref p1.rep hsq
      split at e
      · rename_i j ρ2 e2
        refine ⟨.ref a, hA, b2 F1 H1 σ ρ1 ρ2 _ _ p1.rep e2 fun w F2 H2 p2 d2 => ?_⟩
        have d2 : Dp K F2 w (.int j) := d2
        cases d2
        split at e
        · rename_i ds er
          split at e
          · rename_i n en
            cases e
            obtain ⟨a2, vs, q1, q2, q3, q4⟩ := p2.rep.slot i _ er
            rw [hA] at q1
            cases q1
            refine ⟨a, vs, j, n, rfl, rfl, q2, by rw [dpAllLen q4]; exact en, ?_⟩
            exact q σ F2 _ ((p1.trans p2).trans (groWrite p2.rep er hA (dpAllSet (dpMono p2.ext.f _ _ d1) n q4))).s
          · cases e
        · cases e
      · cases e
    · cases e
def isGro : Option SV → Bool
  | some (.gro _) => true
  | _ => false
theorem isGro_ref {F H : Hp} {σ : Sg} {ρ : DE} {i : Nat} (R : Rep K F H σ ρ) (h : isGro ρ[i]? = true) : ∃ a vs, σ[i]? = some (some (.ref a)) ∧ H a = some (.lst vs) := by
  unfold isGro at h
  split at h
  · rename_i ds e
    obtain ⟨a, vs, q1, q2, _⟩ := R.slot i _ e
    exact ⟨a, vs, q1, q2⟩
  · cases h
def sApp (i : Nat) (f : ED) : SD := fun ρ => if isGro ρ[i]? then (match f ρ with
  | none => none
  | some (r, ρ1) => match ρ1[i]? with
    | some (.gro ds) => if ds.length < sizeLine then some (.nx, ρ1.set i (.gro (ds ++ [r.d]))) else none
    | _ => none) else none
theorem s_app (i : Nat) {x : Str} {e : Expr} {f : ED} {p1 p2 p3 pos : Pos} (he : PEd Y e f) (hN : ∀ j, (Y.X j).N[i]? = some x := by intro _; rfl) (hv : ∀ j, Vis (Y.X j).env.scope x := by intro _; first | exact Or.inl rfl | exact Or.inr (Or.inl rfl) | exact Or.inr (Or.inr rfl)) (hd : (x == ("__debug__" : Str)) = false := by decide)
    (hcd : (x == ("__classdict__" : Str)) = false := by decide) (hbase : ∀ j, attributeBase (.Name x p1) "append" (Y.X j).env (eval (.Name x p1) (Y.X j).env) = eval (.Name x p1) (Y.X j).env := by intro _; rfl)
    (hfew : ∀ j, ((backTo p3 (starEach [e] (Y.X j).env)).all (fun x => !x.1) && (backToKw p3 (keywordEach [] (Y.X j).env)).all (fun x => x.1.isSome) && decide ([e].length + ([] : List Keyword).length + (if ([] : List Keyword).isEmpty then 0 else 1) < 30)) = true := by intro _; rfl)
    (hline : (p2.endLine == p3.line) = true := by rfl) (hst : ∀ j, starEach [e] (Y.X j).env = (false, eval e (Y.X j).env) :: starEach [] (Y.X j).env := by intro _; rfl) (hpl : ∀ j, (backTo p3 (starEach [] (Y.X j).env)).any (·.1) = false := by intro _; rfl)
    (hs : ∀ l, swapsWith (.Call (.Attribute (.Name x p1) "append" p2) [e] [] p3) none pos.line (Y.X l).env = pure false := by intro _; rfl) :
    PSd P Y (.Expr (.Call (.Attribute (.Name x p1) "append" p2) [e] [] p3) pos) (sApp i f) := by
  obtain ⟨t, b1, b2⟩ := he
  refine ⟨tDrop (tBM K "list" rAppend (tVar i) (tCons t tNil)), fun l => ?_, fun F H σ ρ ρ' fl D R e q => ?_⟩
  · have z := pe_bm (name := "append") (apos := p2) (cpos := p3) PySem.F.plainAttrs_list PySem.F.slot_list_append PySem.F.type_list_append mt_append (pe_var (pos := p1) (hN l) (hv l) hd hcd) (pa_cons (b1 l) pa_nil (hst l)) (hbase l) (hfew l) hline (hst l) (hpl l)
    rw [Y.hK l] at z
    exact ps_expr z (hs l)
  · unfold sApp at e
    split at e
    · rename_i hsq
      obtain ⟨a, vs0, hA, hL⟩ := isGro_ref R hsq
      cases e1 : f ρ with
      | none => rw [e1] at e; cases e
      | some q1 =>
        obtain ⟨r, ρ1⟩ := q1
        rw [e1] at e
        simp only at e
        split at e
        · rename_i ds er
          split at e
          · rename_i hz
            cases e
            refine ⟨.ref a, hA, .inl ⟨rfl, _, SqL.of hL⟩, b2.d R e1 fun v F1 H1 p1 d1 => ?_⟩
            obtain ⟨a2, vs, q1, q2, q3, q4⟩ := p1.rep.slot i _ er
            rw [hA] at q1
            cases q1
            refine ⟨a, vs, v, rfl, rfl, q2, by rw [dpAllLen q4]; exact hz, ?_⟩
            exact q σ F1 _ (p1.trans (groWrite p1.rep er hA (dpAllApp q4 (.cons d1 .nil)))).s
          · cases e
        · cases e
    · cases e
/-- slot.extend(a list just made) -/
def sExt (i : Nat) (f : ED) : SD := fun ρ => if isGro ρ[i]? then (match f ρ with
  | some (.new es, ρ1) => (match ρ1[i]? with
    | some (.gro ds) => if ds.length + es.length ≤ sizeLine then some (.nx, ρ1.set i (.gro (ds ++ es))) else none
    | _ => none)
  | _ => none) else none
theorem s_ext (i : Nat) {x : Str} {e : Expr} {f : ED} {p1 p2 p3 pos : Pos} (he : PEd Y e f) (hN : ∀ j, (Y.X j).N[i]? = some x := by intro _; rfl) (hv : ∀ j, Vis (Y.X j).env.scope x := by intro _; first | exact Or.inl rfl | exact Or.inr (Or.inl rfl) | exact Or.inr (Or.inr rfl)) (hd : (x == ("__debug__" : Str)) = false := by decide)
    (hcd : (x == ("__classdict__" : Str)) = false := by decide) (hbase : ∀ j, attributeBase (.Name x p1) "extend" (Y.X j).env (eval (.Name x p1) (Y.X j).env) = eval (.Name x p1) (Y.X j).env := by intro _; rfl)
    (hfew : ∀ j, ((backTo p3 (starEach [e] (Y.X j).env)).all (fun x => !x.1) && (backToKw p3 (keywordEach [] (Y.X j).env)).all (fun x => x.1.isSome) && decide ([e].length + ([] : List Keyword).length + (if ([] : List Keyword).isEmpty then 0 else 1) < 30)) = true := by intro _; rfl)
    (hline : (p2.endLine == p3.line) = true := by rfl) (hst : ∀ j, starEach [e] (Y.X j).env = (false, eval e (Y.X j).env) :: starEach [] (Y.X j).env := by intro _; rfl) (hpl : ∀ j, (backTo p3 (starEach [] (Y.X j).env)).any (·.1) = false := by intro _; rfl)
    (hs : ∀ l, swapsWith (.Call (.Attribute (.Name x p1) "extend" p2) [e] [] p3) none pos.line (Y.X l).env = pure false := by intro _; rfl) :
    PSd P Y (.Expr (.Call (.Attribute (.Name x p1) "extend" p2) [e] [] p3) pos) (sExt i f) := by
  obtain ⟨t, b1, b2⟩ := he
  refine ⟨tDrop (tBM K "list" rExtend (tVar i) (tCons t tNil)), fun l => ?_, fun F H σ ρ ρ' fl D R e q => ?_⟩
  · have z := pe_bm (name := "extend") (apos := p2) (cpos := p3) PySem.F.plainAttrs_list PySem.F.slot_list_extend PySem.F.type_list_extend mt_extend (pe_var (pos := p1) (hN l) (hv l) hd hcd) (pa_cons (b1 l) pa_nil (hst l)) (hbase l) (hfew l) hline (hst l) (hpl l)
    rw [Y.hK l] at z
    exact ps_expr z (hs l)
  · unfold sExt at e
    split at e
    · rename_i hsq
      obtain ⟨a, vs0, hA, hL⟩ := isGro_ref R hsq
      split at e
      · rename_i es ρ1 e1
        split at e
        · rename_i ds er
          split at e
          · rename_i hz
            cases e
            refine ⟨.ref a, hA, .inl ⟨rfl, _, SqL.of hL⟩, b2 F H σ ρ ρ1 _ _ R e1 fun v F1 H1 p1 ro => ?_⟩
            obtain ⟨b, us, rfl, h1, h2, h3, h4⟩ := ro
            obtain ⟨a2, vs, q1, q2, q3, q4⟩ := p1.rep.slot i _ er
            rw [hA] at q1
            cases q1
            refine ⟨a, b, vs, us, rfl, rfl, q2, h1, by rw [dpAllLen q4, dpAllLen h3]; exact hz, ?_⟩
            exact q σ F1 _ (p1.trans (groWrite p1.rep er hA (dpAllApp q4 h3))).s
          · cases e
        · cases e
      · cases e
    · cases e
end
end DL
/-! DLf: built-ins, methods, what is walked. -/
namespace DL
open PySem PySem.Spec PyProof.Rows L2
section
variable {K : KF}
theorem dp1 {F : Hp} {vs : List V} {d : PyData} (h : DpAll K F vs [d]) : ∃ v, vs = [v] ∧ Dp K F v d := by
  cases h with
  | cons a b => cases b; exact ⟨_, rfl, a⟩
theorem dp2 {F : Hp} {vs : List V} {d e : PyData} (h : DpAll K F vs [d, e]) : ∃ v w, vs = [v, w] ∧ Dp K F v d ∧ Dp K F w e := by
  cases h with
  | cons a b =>
    cases b with
    | cons b c => cases c; exact ⟨_, _, rfl, a, b⟩
def absD : List PyData → Option RV
  | [.int i] => some (.dat (.int (i.natAbs : Int)))
  | _ => none
theorem s_abs : CallS K (fun xs H Q => ∃ i, xs = [.int i] ∧ Q (.int (if i < 0 then -i else i)) H) absD := fun F H vs ds rv Q s h e k => by
  unfold absD at e
  split at e
  · rename_i i
    cases e
    obtain ⟨v, rfl, a⟩ := dp1 h
    cases a
    refine ⟨i, rfl, ?_⟩
    rw [show (if i < 0 then -i else i) = (i.natAbs : Int) by split <;> omega]
    exact plain s (.int _) k
  · cases e
def maxD2 : List PyData → Option RV
  | [.int i, .int j] => some (.dat (.int (max i j)))
  | _ => none
def minD2 : List PyData → Option RV
  | [.int i, .int j] => some (.dat (.int (min i j)))
  | _ => none
theorem s_max2 : CallS K (fun xs H Q => ∃ i j, xs = [.int i, .int j] ∧ Q (.int (if j > i then j else i)) H) maxD2 := fun F H vs ds rv Q s h e k => by
  unfold maxD2 at e
  split at e
  · rename_i i j
    cases e
    obtain ⟨v, w, rfl, a, b⟩ := dp2 h
    cases a
    cases b
    refine ⟨i, j, rfl, ?_⟩
    rw [show (if j > i then j else i) = max i j by split <;> omega]
    exact plain s (.int _) k
  · cases e
theorem s_min2 : CallS K (fun xs H Q => ∃ i j, xs = [.int i, .int j] ∧ Q (.int (if j < i then j else i)) H) minD2 := fun F H vs ds rv Q s h e k => by
  unfold minD2 at e
  split at e
  · rename_i i j
    cases e
    obtain ⟨v, w, rfl, a, b⟩ := dp2 h
    cases a
    cases b
    refine ⟨i, j, rfl, ?_⟩
    rw [show (if j < i then j else i) = min i j by split <;> omega]
    exact plain s (.int _) k
  · cases e
def intD : List PyData → Option RV
  | [.int i] => some (.dat (.int i))
  | [.bool b] => some (.dat (.int (if b then 1 else 0)))
  | _ => none
theorem s_int : CallS K (fun xs H Q => (∃ i, xs = [.int i] ∧ Q (.int i) H) ∨ ∃ k, xs = [.bl k] ∧ Q (.int (if k then 1 else 0)) H) intD := fun F H vs ds rv Q s h e k => by
  unfold intD at e
  split at e
  · cases e
    obtain ⟨v, rfl, a⟩ := dp1 h
    cases a
    exact .inl ⟨_, rfl, plain s (.int _) k⟩
  · cases e
    obtain ⟨v, rfl, a⟩ := dp1 h
    cases a
    exact .inr ⟨_, rfl, plain s (.int _) k⟩
  · cases e
def lenD : List PyData → Option RV
  | [.list xs] => some (.dat (.int xs.length))
  | [.tuple xs] => some (.dat (.int xs.length))
  | [.str z] => if z.length ≤ sizeLine then some (.dat (.int z.length)) else none
  | _ => none
abbrev rLen (K : KF) : List V → Hp → VK → Prop := fun xs H Q => (∃ p ys, xs = [.ref p] ∧ (SqL K H p ys ∨ SqT K H p ys) ∧ Q (.int ys.length) H) ∨ ∃ z, xs = [.str z] ∧ z.length ≤ sizeLine ∧ Q (.int z.length) H
theorem call_lenA {X : Cx} : CallR X (.builtin "len") (rLen X.K) := call_len_seq.or call_len_str
theorem s_len : CallS K (rLen K) lenD := fun F H vs ds rv Q s h e k => by
  unfold lenD at e
  split at e
  · cases e
    obtain ⟨v, rfl, a⟩ := dp1 h
    cases a with
    | @lst p xs _ h1 h2 =>
      refine .inl ⟨p, xs, rfl, .inl (same_sq s h1), ?_⟩
      rw [dpAllLen h2]
      exact plain s (.int _) k
  · cases e
    obtain ⟨v, rfl, a⟩ := dp1 h
    cases a with
    | @tup p xs _ h1 h2 =>
      refine .inl ⟨p, xs, rfl, .inr (same_tq s h1), ?_⟩
      rw [dpAllLen h2]
      exact plain s (.int _) k
  · split at e
    · rename_i hz
      cases e
      obtain ⟨v, rfl, a⟩ := dp1 h
      cases a
      exact .inr ⟨_, rfl, hz, plain s (.int _) k⟩
    · cases e
  · cases e
/-! ### lists of ints, of truth values -/
def intsOf : List PyData → Option (List Int)
  | [] => some []
  | .int i :: ds => (intsOf ds).map (i :: ·)
  | _ :: _ => none
theorem intsOf_eq : ∀ {ds : List PyData} {ns : List Int}, intsOf ds = some ns → ds = ns.map .int
  | [], _, h => by cases h; rfl
  | .int i :: ds, _, h => by
    simp only [intsOf, Option.map_eq_some_iff] at h
    obtain ⟨ms, h1, rfl⟩ := h
    rw [intsOf_eq h1, List.map_cons]
  | .none :: _, _, h => by cases h
  | .bool _ :: _, _, h => by cases h
  | .str _ :: _, _, h => by cases h
  | .list _ :: _, _, h => by cases h
  | .tuple _ :: _, _, h => by cases h
  | .dict _ :: _, _, h => by cases h
theorem intsOf_map : ∀ ns : List Int, intsOf (ns.map .int) = some ns
  | [] => rfl
  | n :: ns => by simp [intsOf, intsOf_map ns]
theorem dpInts {F : Hp} : ∀ {ns : List Int} {vs : List V}, DpAll K F vs (ns.map .int) → vs = ns.map V.int
  | [], _, h => by cases h; rfl
  | n :: ns, _, h => by
    cases h with
    | cons a b => cases a; rw [dpInts b, List.map_cons]
theorem dpIntsOf {F : Hp} : ∀ (ns : List Int), DpAll K F (ns.map V.int) (ns.map .int)
  | [] => .nil
  | n :: ns => .cons (.int n) (dpIntsOf ns)
def boolsOf : List PyData → Option (List Bool)
  | [] => some []
  | .bool i :: ds => (boolsOf ds).map (i :: ·)
  | _ :: _ => none
theorem boolsOf_eq : ∀ {ds : List PyData} {ns : List Bool}, boolsOf ds = some ns → ds = ns.map .bool
  | [], _, h => by cases h; rfl
  | .bool i :: ds, _, h => by
    simp only [boolsOf, Option.map_eq_some_iff] at h
    obtain ⟨ms, h1, rfl⟩ := h
    rw [boolsOf_eq h1, List.map_cons]
  | .none :: _, _, h => by cases h
  | .int _ :: _, _, h => by cases h
  | .str _ :: _, _, h => by cases h
  | .list _ :: _, _, h => by cases h
  | .tuple _ :: _, _, h => by cases h
  | .dict _ :: _, _, h => by cases h
theorem boolsOf_map : ∀ ns : List Bool, boolsOf (ns.map .bool) = some ns
  | [] => rfl
  | n :: ns => by simp [boolsOf, boolsOf_map ns]
theorem dpBools {F : Hp} : ∀ {ns : List Bool} {vs : List V}, DpAll K F vs (ns.map .bool) → vs = ns.map V.bl
  | [], _, h => by cases h; rfl
  | n :: ns, _, h => by
    cases h with
    | cons a b => cases a; rw [dpBools b, List.map_cons]
def sumD : List PyData → Option RV
  | [.list xs] => (intsOf xs).map fun ns => .dat (.int ns.sum)
  | [.tuple xs] => (intsOf xs).map fun ns => .dat (.int ns.sum)
  | _ => none
def rSumT (K : KF) : List V → Hp → VK → Prop := fun vs H Q => ∃ (a : Addr) (ns : List Int), vs = [V.ref a] ∧ SqT K H a (ns.map V.int) ∧ Q (.int ns.sum) H
theorem cr_sumT {X : Cx} (hc : X.calm = true) : CallR X (.builtin "sum") (rSumT X.K) := by
  intro pins s σ H vs us Q I r h
  obtain ⟨a, ns, rfl, hs, q⟩ := h
  obtain ⟨its, rv, ⟨o, ho, hcl, n, hd⟩, _⟩ := I.tuple hs
  rw [Vals.ref1 r]
  have hi := rv.ints
  obtain ⟨xs, hx⟩ := hi.allInts.items
  have hn : numsOf its.toArray.toList = ns := by rw [show its.toArray.toList = its from rfl, hi.numsOf]
  have hl : s.heap.IsTuple a its.toArray := ⟨o, ho, hcl, n, hd⟩
  rw [hx] at hl hn
  rw [nums_intItems] at hn
  refine PySem.W.ktm_sumG (I.ok.hd hc) hl fun h' tk t' hk => ?_
  rw [preSum_eq, List.take_of_length_le (by simp), hn]
  exact ⟨.int _, H, I.kept hk, ⟨_, rfl⟩, q⟩
abbrev rSumA (K : KF) : List V → Hp → VK → Prop := fun xs H Q => rSum K xs H Q ∨ rSumT K xs H Q
theorem call_sumA {X : Cx} (hc : X.calm = true) : CallR X (.builtin "sum") (rSumA X.K) := (cr_sum hc).or (cr_sumT hc)
theorem s_sum : CallS K (rSumA K) sumD := fun F H vs ds rv Q s h e k => by
  unfold sumD at e
  split at e
  · simp only [Option.map_eq_some_iff] at e
    obtain ⟨ns, e, rfl⟩ := e
    obtain ⟨v, rfl, a⟩ := dp1 h
    have e := intsOf_eq e
    subst e
    cases a with
    | @lst p xs _ h1 h2 =>
      have e := dpInts h2
      subst e
      exact .inl ⟨p, ns, rfl, same_sq s h1, plain s (.int _) k⟩
  · simp only [Option.map_eq_some_iff] at e
    obtain ⟨ns, e, rfl⟩ := e
    obtain ⟨v, rfl, a⟩ := dp1 h
    have e := intsOf_eq e
    subst e
    cases a with
    | @tup p xs _ h1 h2 =>
      have e := dpInts h2
      subst e
      exact .inr ⟨p, ns, rfl, same_tq s h1, plain s (.int _) k⟩
  · cases e
def allD : List PyData → Option RV
  | [.list xs] => (boolsOf xs).map fun ns => .dat (.bool (ns.all id))
  | _ => none
def anyD : List PyData → Option RV
  | [.list xs] => (boolsOf xs).map fun ns => .dat (.bool (ns.any id))
  | _ => none
theorem s_all : CallS K (rAll K) allD := fun F H vs ds rv Q s h e k => by
  unfold allD at e
  split at e
  · simp only [Option.map_eq_some_iff] at e
    obtain ⟨ns, e, rfl⟩ := e
    obtain ⟨v, rfl, a⟩ := dp1 h
    have e := boolsOf_eq e
    subst e
    cases a with
    | @lst p xs _ h1 h2 =>
      have e := dpBools h2
      subst e
      exact ⟨p, ns, rfl, same_sq s h1, plain s (.bl _) k⟩
  · cases e
theorem s_any : CallS K (rAny K) anyD := fun F H vs ds rv Q s h e k => by
  unfold anyD at e
  split at e
  · simp only [Option.map_eq_some_iff] at e
    obtain ⟨ns, e, rfl⟩ := e
    obtain ⟨v, rfl, a⟩ := dp1 h
    have e := boolsOf_eq e
    subst e
    cases a with
    | @lst p xs _ h1 h2 =>
      have e := dpBools h2
      subst e
      exact ⟨p, ns, rfl, same_sq s h1, plain s (.bl _) k⟩
  · cases e
def tupleD : List PyData → Option RV
  | [.list xs] => some (.dat (.tuple xs))
  | [.tuple xs] => some (.dat (.tuple xs))
  | _ => none
theorem s_tuple : CallS K (rTupOf K) tupleD := fun F H vs ds rv Q s h e k => by
  unfold tupleD at e
  split at e
  · cases e
    obtain ⟨v, rfl, a⟩ := dp1 h
    cases a with
    | @lst p xs _ h1 h2 => exact ⟨p, xs, rfl, .inl ⟨same_sq s h1, laidTup s h2 k⟩⟩
  · cases e
    obtain ⟨v, rfl, a⟩ := dp1 h
    cases a with
    | @tup p xs _ h1 h2 => exact ⟨p, xs, rfl, .inr ⟨same_tq s h1, plain s (.tup h1 h2) k⟩⟩
  · cases e
def listD : List PyData → Option RV
  | [.list xs] => some (.new xs)
  | [.tuple xs] => some (.new xs)
  | _ => none
theorem s_list : CallS K (fun xs H Q => ∃ p ys, xs = [.ref p] ∧ (SqL K H p ys ∨ SqT K H p ys) ∧ ∀ l, H l = none → Q (.ref l) (upd H l (.lst ys))) listD := fun F H vs ds rv Q s h e k => by
  unfold listD at e
  split at e
  · cases e
    obtain ⟨v, rfl, a⟩ := dp1 h
    cases a with
    | @lst p xs _ h1 h2 => exact ⟨p, xs, rfl, .inl (same_sq s h1), fun l hl => laidLst s h2 k hl⟩
  · cases e
    obtain ⟨v, rfl, a⟩ := dp1 h
    cases a with
    | @tup p xs _ h1 h2 => exact ⟨p, xs, rfl, .inr (same_tq s h1), fun l hl => laidLst s h2 k hl⟩
  · cases e
/-! ### repr -/
def reprOk (d : PyData) : Bool := d.showable && !d.hasDict && decide (d.depth ≤ 60) && decide (d.shown.length ≤ sizeLine)
def reprD : List PyData → Option RV
  | [d] => if reprOk d then some (.dat (.str d.shown)) else none
  | _ => none
def rRepr (K : KF) : List V → Hp → VK → Prop := fun vs H Q => ∃ v d, vs = [v] ∧ Dp K H v d ∧ reprOk d = true ∧ Q (.str d.shown) H
theorem call_repr {X : Cx} (hgd : X.A.guards = some []) (hu : X.A.units + 64 < cLine) : CallR X (.builtin "repr") (rRepr X.K) := by
  intro pins s σ H vs us Q I r h
  obtain ⟨v, d, rfl, hd, ok, q⟩ := h
  unfold reprOk at ok
  simp only [Bool.and_eq_true, Bool.not_eq_true', decide_eq_true_eq] at ok
  obtain ⟨⟨⟨o1, o2⟩, o3⟩, o4⟩ := ok
  obtain ⟨u, rfl, ru⟩ := vals1 r
  have leaf : ∀ (t : Tok), EP X pins σ Q (.str d.shown t) { s with toks := s.toks + 1 } := fun t => ⟨.str d.shown, H, I.tok _, ⟨_, rfl⟩, q⟩
  have deep : ∀ a, u = .ref a → wpAny (model X.prog X.w) X.A (call (.builtin "repr") [u]) (EP X pins σ Q) X.xe s := fun a ea => by
    subst ea
    obtain ⟨as, rd⟩ := L2.Dp.reads I d v _ (dpKit _ _ hd) ru
    exact repr_of_reads' rd o1 (fun z => by rw [o2] at z; cases z) hgd (by omega) (fun _ _ e => e) (fun h' u tk hk => ⟨.str d.shown, H, I.kept (t' := tk) hk, ⟨_, rfl⟩, q⟩) o4
  cases hd with
  | non => cases ru; simp only [PyData.shown] at leaf; exact PySem.P.repr_of_none (leaf _)
  | bl b => cases ru; simp only [PyData.shown] at leaf; exact PySem.P.repr_of_bool (leaf _)
  | int i =>
    obtain ⟨t, rfl⟩ := ru
    simp only [PyData.shown] at leaf
    simp only [PyData.showable, decide_eq_true_eq] at o1
    exact PySem.P.repr_of_int o1 (leaf _)
  | str x =>
    obtain ⟨t, rfl⟩ := ru
    simp only [PyData.shown] at leaf o4
    exact PySem.P.repr_of_str (leaf _) o4
  | lst _ _ => exact deep _ ru
  | tup _ _ => exact deep _ ru
theorem s_repr : CallS K (rRepr K) reprD := fun F H vs ds rv Q s h e k => by
  unfold reprD at e
  split at e
  · split at e
    · rename_i hz
      cases e
      obtain ⟨v, rfl, a⟩ := dp1 h
      exact ⟨v, _, rfl, dpMono s _ _ a, hz, plain s (.str _) k⟩
    · cases e
  · cases e
/-! ### sorted of ints -/
def isSorted (ns ms : List Int) : Prop := ms.Perm ns ∧ ms.Pairwise (· ≤ ·)
def insI (x : Int) : List Int → List Int
  | [] => [x]
  | y :: ys => if x ≤ y then x :: y :: ys else y :: insI x ys
def sortI : List Int → List Int
  | [] => []
  | x :: xs => insI x (sortI xs)
theorem insI_perm (x : Int) : ∀ l : List Int, (insI x l).Perm (x :: l)
  | [] => .refl _
  | y :: ys => by
    unfold insI
    split
    · exact .refl _
    · exact ((insI_perm x ys).cons y).trans (.swap x y ys)
theorem sortI_perm : ∀ l : List Int, (sortI l).Perm l
  | [] => .refl _
  | x :: xs => (insI_perm x _).trans ((sortI_perm xs).cons x)
theorem insI_sorted (x : Int) : ∀ {l : List Int}, l.Pairwise (· ≤ ·) → (insI x l).Pairwise (· ≤ ·)
  | [], _ => by simp [insI]
  | y :: ys, h => by
    unfold insI
    have h' := List.pairwise_cons.mp h
    split
    · rename_i hxy
      refine List.pairwise_cons.mpr ⟨fun z hz => ?_, h⟩
      rcases List.mem_cons.mp hz with rfl | hz
      · exact hxy
      · have := h'.1 z hz; omega
    · rename_i hxy
      refine List.pairwise_cons.mpr ⟨fun z hz => ?_, insI_sorted x h'.2⟩
      have hz := (insI_perm x ys).mem_iff.mp hz
      rcases List.mem_cons.mp hz with rfl | hz
      · omega
      · exact h'.1 z hz
theorem sortI_sorted : ∀ l : List Int, (sortI l).Pairwise (· ≤ ·)
  | [] => .nil
  | x :: xs => insI_sorted x (sortI_sorted xs)
theorem sorted_eq : ∀ {a b : List Int}, a.Perm b → a.Pairwise (· ≤ ·) → b.Pairwise (· ≤ ·) → a = b := fun {a b} p h1 h2 => List.Perm.eq_of_pairwise (fun x y _ _ h h' => by omega) h1 h2 p
def sortedD : List PyData → Option RV
  | [.list xs] => (intsOf xs).map fun ns => .new ((sortI ns).map .int)
  | _ => none
theorem s_sorted : CallS K (rSortedI K) sortedD := fun F H vs ds rv Q s h e k => by
  unfold sortedD at e
  split at e
  · simp only [Option.map_eq_some_iff] at e
    obtain ⟨ns, e, rfl⟩ := e
    obtain ⟨v, rfl, a⟩ := dp1 h
    have e := intsOf_eq e
    subst e
    cases a with
    | @lst p xs _ h1 h2 =>
      have e := dpInts h2
      subst e
      refine ⟨p, ns, rfl, same_sq s h1, fun ns' q hp hs hq => ?_⟩
      have e := sorted_eq (hp.trans (sortI_perm ns).symm) hs (sortI_sorted ns)
      subst e
      exact laidLst s (dpIntsOf _) k hq
  · cases e
end
section
variable {K : KF} {k : Nat} {P : List Nat} {Y : Fm K k}
/-! ### isinstance -/
def tyName : PyData → String
  | .none => "NoneType"
  | .bool _ => "bool"
  | .int _ => "int"
  | .str _ => "str"
  | .list _ => "list"
  | .tuple _ => "tuple"
  | .dict _ => "dict"
def eIsi (T : String) (f : ED) : ED := fun ρ => match f ρ with
  | none => none
  | some (r, ρ1) => match kitB (tyName r.d) T with
    | none => none
    | some b => some (.dat (.bool b), ρ1)
def rIsiD (K : KF) (T : String) : List V → Hp → VK → Prop := fun xs H Q => ∃ x d b, xs = [x, .ty T] ∧ Dp K H x d ∧ kitB (tyName d) T = some b ∧ Q (.bl b) H
theorem call_isiD {X : Cx} {T : String} : CallR X (.builtin "isinstance") (rIsiD X.K T) := by
  intro pins s σ H xs us Q I r h
  obtain ⟨x, d, b, rfl, hd, e, q⟩ := h
  obtain ⟨u1, u2, rfl, r1, r2⟩ := vals2 r
  have e2 : u2 = .type T := r2
  subst e2
  have fin : ∀ (tk : Nat), EP X pins σ Q (.bool b) { s with toks := tk } := fun tk => ⟨.bl b, H, I.tok tk, rfl, q⟩
  have one : ∀ {t : Value} {Pp : Heap → Prop}, PySem.W.KitX X.K u1 t Pp → Pp s.heap → u1 ≠ .builtin "__main__.__loader__#opaque" → PySem.W.kitOne X.K t (.type T) = some b → _ := fun {t Pp} Z p hx ek => PySem.W.kia_one (A := X.A) (E := X.xe) (w := X.w) (prog := X.prog) (Q := EP X pins σ Q) Z I.kIn p ek hx fun tk => fin tk
  cases hd with
  | non => cases r1; exact one PySem.W.kitx_none True.intro (fun z => nomatch z) (kit_ty e)
  | bl y => cases r1; exact one PySem.W.kitx_bool True.intro (fun z => nomatch z) (kit_ty e)
  | int i => obtain ⟨t, rfl⟩ := r1; exact one PySem.W.kitx_int True.intro (fun z => nomatch z) (kit_ty e)
  | str z => obtain ⟨t, rfl⟩ := r1; exact one PySem.W.kitx_str True.intro (fun z => nomatch z) (kit_ty e)
  | lst hs _ =>
    cases r1
    obtain ⟨its, _, ⟨o, n, h1, h2, _, _⟩, _⟩ := I.list hs
    exact one PySem.W.kitx_list ⟨o, h1, h2⟩ (fun z => nomatch z) (kit_ty e)
  | tup hs _ =>
    cases r1
    obtain ⟨its, _, ⟨o, h1, h2, _⟩, _⟩ := I.tuple hs.sq
    exact one PySem.W.kitx_tuple ⟨o, h1, h2⟩ (fun z => nomatch z) (kit_ty e)
theorem d_isi {T : String} {tn : Str} {e : Expr} {f : ED} {p p2 pos : Pos} (he : PEd Y e f) (hm : ∀ i, (Y.X i).mg "isinstance" = none) (hmt : ∀ i, (Y.X i).mg tn = none) (hvt : bootBuiltins tn = some (.type T)) (hv : bootBuiltins "isinstance" = some (.builtin "isinstance") := by decide +kernel)
    (hg : ∀ i, Gl (Y.X i) "isinstance" := by intro _; rfl) (hgt : ∀ i, Gl (Y.X i) tn := by intro _; rfl) (hn : tn ≠ "__name__" := by decide) (hdb : (tn == ("__debug__" : Str)) = false := by decide)
    (he1 : ∀ i, starEach [e, .Name tn p2] (Y.X i).env = (false, eval e (Y.X i).env) :: starEach [.Name tn p2] (Y.X i).env := by intro _; rfl) (he2 : ∀ i, starEach [.Name tn p2] (Y.X i).env = (false, eval (.Name tn p2) (Y.X i).env) :: starEach [] (Y.X i).env := by intro _; rfl)
    (hpl : ∀ i, (backTo pos (starEach [.Name tn p2] (Y.X i).env)).any (·.1) = false := by intro _; rfl) : PEd Y (.Call (.Name "isinstance" p) [e, .Name tn p2] [] pos) (eIsi T f) := by
  obtain ⟨t, a1, a2⟩ := he
  refine ⟨tCB (rIsiD K T) (tCons t (tCons (tC (.ty T)) tNil)), fun i => ?_, fun F H σ ρ ρ' r Q R e q => ?_⟩
  · have z := pe_callB (p := p) (pos := pos) (call_isiD (X := Y.X i) (T := T)) (hg i) (hm i) hv (pa_cons (a1 i) (pa_cons (pe_bltn (v := .ty T) (hgt i) (hmt i) hvt rfl hn hdb) pa_nil (he2 i)) (he1 i)) (by decide) (by decide) (he1 i) (hpl i)
    rw [Y.hK i] at z
    exact z
  · unfold eIsi at e
    cases e1 : f ρ with
    | none => rw [e1] at e; cases e
    | some p1 =>
      obtain ⟨r1, ρ1⟩ := p1
      rw [e1] at e
      simp only at e
      cases e2 : kitB (tyName r1.d) T with
      | none => rw [e2] at e; cases e
      | some b =>
        rw [e2] at e
        cases e
        refine a2.d R e1 fun v F1 H1 p1 d1 => ?_
        exact ⟨v, r1.d, b, rfl, dpMono p1.rep.sub _ _ d1, e2, q _ F1 H1 p1 (.bl b)⟩
/-! ### what is walked -/
theorem pi_of {tg e : Expr} {wi : TI} {f : ID} (h : ∀ i, PI (Y.X i) tg e wi) (h2 : ItServes K wi f) : PId Y tg e f := ⟨wi, h, h2⟩
def iSeq (f : ED) : ID := fun ρ => match f ρ with
  | some (r, ρ1) => (match r.d with
    | .list ds => some (ds, ρ1)
    | _ => none)
  | none => none
def iTupD (f : ED) : ID := fun ρ => match f ρ with
  | some (r, ρ1) => (match r.d with
    | .tuple ds => some (ds, ρ1)
    | _ => none)
  | none => none
theorem sqL_det {F H : Hp} {a : Addr} {xs : List V} (s : Same F H) (h : SqL K F a xs) : SqL K H a xs := same_sq s h
theorem i_list {tg e : Expr} {f : ED} (h : PEd Y e f) : PId Y tg e (iSeq f) := by
  obtain ⟨t, a1, a2⟩ := h
  refine ⟨iList K t, fun i => ?_, fun F H σ ρ ρ' ds R Rp e q => ?_⟩
  · have z := pi_list (tg := tg) (a1 i)
    rw [Y.hK i] at z
    exact z
  · unfold iSeq at e
    split at e
    · rename_i r ρ1 e1
      split at e
      · rename_i ds er
        cases e
        refine a2.d Rp e1 fun v F1 H1 p d => ?_
        rw [er] at d
        cases d with
        | @lst a xs _ h1 h2 =>
          refine ⟨a, rfl, ⟨xs, same_sq p.rep.sub h1⟩, q _ F1 H1 p fun F2 H2 i s1 s2 => ⟨fun hi => ⟨xs, same_sq (s1.trans s2) h1, by rw [dpAllLen h2]; exact hi⟩, fun d hd => ?_⟩⟩
          obtain ⟨v, hv, dv⟩ := dpAllGet h2 hd
          refine ⟨⟨xs, v, same_sq (s1.trans s2) h1, hv⟩, fun x H' y => ?_⟩
          obtain ⟨rfl, y⟩ := y
          have z := y xs (same_sq (s1.trans s2) h1)
          rw [hv] at z
          cases z
          exact ⟨F2, s2, Ext.refl, dpMono s1 _ _ dv⟩
      · cases e
    · cases e
theorem i_tup {tg e : Expr} {f : ED} (h : PEd Y e f) : PId Y tg e (iTupD f) := by
  obtain ⟨t, a1, a2⟩ := h
  refine ⟨iTup K t, fun i => ?_, fun F H σ ρ ρ' ds R Rp e q => ?_⟩
  · have z := pi_tup (tg := tg) (a1 i)
    rw [Y.hK i] at z
    exact z
  · unfold iTupD at e
    split at e
    · rename_i r ρ1 e1
      split at e
      · rename_i ds er
        cases e
        refine a2.d Rp e1 fun v F1 H1 p d => ?_
        rw [er] at d
        cases d with
        | @tup a xs _ h1 h2 =>
          refine ⟨a, rfl, ⟨xs, same_tq p.rep.sub h1⟩, q _ F1 H1 p fun F2 H2 i s1 s2 => ⟨fun hi => ⟨xs, same_tq (s1.trans s2) h1, by rw [dpAllLen h2]; exact hi⟩, fun d hd => ?_⟩⟩
          obtain ⟨v, hv, dv⟩ := dpAllGet h2 hd
          refine ⟨⟨xs, v, same_tq (s1.trans s2) h1, hv⟩, fun x H' y => ?_⟩
          obtain ⟨rfl, y⟩ := y
          have z := y xs (same_tq (s1.trans s2) h1)
          rw [hv] at z
          cases z
          exact ⟨F2, s2, Ext.refl, dpMono s1 _ _ dv⟩
      · cases e
    · cases e
/-- the ints lo, lo + 1, .. (n of them) -/
def rgD (lo : Int) (n : Nat) : List PyData := (List.range n).map fun (i : Nat) => PyData.int (lo + (i : Int))
theorem rgD_len {lo : Int} {n : Nat} : (rgD lo n).length = n := by simp [rgD]
theorem rgD_get {lo : Int} {n i : Nat} {d : PyData} (h : (rgD lo n)[i]? = some d) : i < n ∧ d = .int (lo + i) := by
  unfold rgD at h
  rw [List.getElem?_map] at h
  cases e : (List.range n)[i]? with
  | none => rw [e] at h; cases h
  | some j =>
    rw [e] at h
    cases h
    obtain ⟨h1, h2⟩ := List.getElem?_eq_some_iff.mp e
    simp at h1 h2
    exact ⟨h1, by rw [h2]⟩
theorem j_range {lo : Int} {n : Nat} {F1 : Hp} : JOk K (Itr lo n) F1 (rgD lo n) := fun F2 H2 i s1 s2 => ⟨fun hi => by rw [rgD_len] at hi; exact hi, fun d hd => by
  obtain ⟨h1, rfl⟩ := rgD_get hd
  refine ⟨h1, fun x H' y => ?_⟩
  obtain ⟨rfl, rfl⟩ := y
  exact ⟨F2, s2, Ext.refl, .int _⟩⟩
def small62 (i : Int) : Bool := decide (-(2 ^ 62) ≤ i) && decide (i < 2 ^ 62)
def iRg1 (as : List Ar) : ID := fun ρ => match runD as ρ with
  | some ([.int j], ρ1) => if small62 j then some (rgD 0 j.toNat, ρ1) else none
  | _ => none
def iRg2 (as : List Ar) : ID := fun ρ => match runD as ρ with
  | some ([.int i, .int j], ρ1) => if small62 i && small62 j then some (rgD i (j - i).toNat, ρ1) else none
  | _ => none
theorem i_rg1 {tg a : Expr} {as : List Ar} {p pos : Pos} (hm : ∀ i, (Y.X i).mg "range" = none) (ha : PAd Y [a] as) (hg : ∀ i, Gl (Y.X i) "range" := by intro _; rfl) (hs : ∀ i, starEach [a] (Y.X i).env = [(false, eval a (Y.X i).env)] := by intro _; rfl) : PId Y tg (.Call (.Name "range" p) [a] [] pos) (iRg1 as) := by
  obtain ⟨t, a1, a2⟩ := ha
  refine ⟨_, fun i => pi_range1 (hg i) (hm i) (a1 i) (hs i), fun F H σ ρ ρ' ds R Rp e q => ?_⟩
  unfold iRg1 at e
  split at e
  · rename_i j ρ1 e1
    split at e
    · rename_i hz
      unfold small62 at hz
      simp only [Bool.and_eq_true, decide_eq_true_eq] at hz
      cases e
      refine a2.d Rp e1 fun vs F1 H1 p d => ?_
      obtain ⟨v, ev, dd⟩ := dp1 d
      cases dd with
      | int _ => exact ⟨j, ev, hz.1, hz.2, q _ F1 H1 p j_range⟩
    · cases e
  · cases e
theorem i_rg2 {tg a b : Expr} {as : List Ar} {p pos : Pos} (hm : ∀ i, (Y.X i).mg "range" = none) (ha : PAd Y [a, b] as) (hg : ∀ i, Gl (Y.X i) "range" := by intro _; rfl) (hs : ∀ i, starEach [a, b] (Y.X i).env = [(false, eval a (Y.X i).env), (false, eval b (Y.X i).env)] := by intro _; rfl)
    (hs2 : ∀ i, starEach [b] (Y.X i).env = [(false, eval b (Y.X i).env)] := by intro _; rfl) : PId Y tg (.Call (.Name "range" p) [a, b] [] pos) (iRg2 as) := by
  obtain ⟨t, a1, a2⟩ := ha
  refine ⟨_, fun i => pi_range2 (hg i) (hm i) (a1 i) (hs i) (hs2 i), fun F H σ ρ ρ' ds R Rp e q => ?_⟩
  unfold iRg2 at e
  split at e
  · rename_i i j ρ1 e1
    split at e
    · rename_i hz
      unfold small62 at hz
      simp only [Bool.and_eq_true, decide_eq_true_eq] at hz
      cases e
      refine a2.d Rp e1 fun vs F1 H1 p d => ?_
      obtain ⟨v, w, rfl, d, d2⟩ := dp2 d
      cases d
      cases d2
      exact ⟨i, j, rfl, ⟨hz.1.1, hz.1.2, hz.2.1, hz.2.2⟩, q _ F1 H1 p j_range⟩
    · cases e
  · cases e
/-- range(i, j, -1) -/
def dnD (hi : Int) (n : Nat) : List PyData := (List.range n).map fun (i : Nat) => PyData.int (hi - (i : Int))
def iRgDn (as : List Ar) : ID := fun ρ => match runD as ρ with
  | some ([.int i, .int j, .int c], ρ1) => if small62 i && small62 j && c == -1 then some (dnD i (i - j).toNat, ρ1) else none
  | _ => none
theorem i_rgDn {tg a b c : Expr} {as : List Ar} {p pos : Pos} (hm : ∀ i, (Y.X i).mg "range" = none) (ha : PAd Y [a, b, c] as) (hg : ∀ i, Gl (Y.X i) "range" := by intro _; rfl) (hs : ∀ i, starEach [a, b, c] (Y.X i).env = (false, eval a (Y.X i).env) :: starEach [b, c] (Y.X i).env := by intro _; rfl)
    (hpl : ∀ i, (backTo pos (starEach [b, c] (Y.X i).env)).any (·.1) = false := by intro _; rfl) : PId Y tg (.Call (.Name "range" p) [a, b, c] [] pos) (iRgDn as) := by
  obtain ⟨t, a1, a2⟩ := ha
  refine ⟨_, fun i => pi_range3 (hg i) (hm i) (a1 i) (hs i) (hpl i), fun F H σ ρ ρ' ds R Rp e q => ?_⟩
  unfold iRgDn at e
  split at e
  · rename_i i j c ρ1 e1
    split at e
    · rename_i hz
      unfold small62 at hz
      simp only [Bool.and_eq_true, decide_eq_true_eq, beq_iff_eq] at hz
      obtain ⟨⟨⟨z1, z2⟩, z3, z4⟩, rfl⟩ := hz
      cases e
      refine a2.d Rp e1 fun vs F1 H1 p d => ?_
      cases d with
      | cons d d' =>
        obtain ⟨v, w, rfl, d2, d3⟩ := dp2 d'
        cases d
        cases d2
        cases d3
        refine ⟨i, j, -1, (i - j).toNat, rfl, RgC.neg z1 z2 z3 z4, q _ F1 H1 p fun F2 H2 l s1 s2 => ⟨fun hi => ?_, fun d hd => ?_⟩⟩
        · have : (dnD i (i - j).toNat).length = (i - j).toNat := by simp [dnD]
          rw [this] at hi
          exact hi
        · unfold dnD at hd
          rw [List.getElem?_map] at hd
          cases e : (List.range (i - j).toNat)[l]? with
          | none => rw [e] at hd; cases hd
          | some y =>
            rw [e] at hd
            cases hd
            obtain ⟨h1, h2⟩ := List.getElem?_eq_some_iff.mp e
            simp at h1 h2
            subst h2
            refine ⟨by show l < (i - j).toNat; omega, fun x H' y => ?_⟩
            obtain ⟨rfl, rfl⟩ := y
            refine ⟨F2, s2, Ext.refl, ?_⟩
            rw [show i + (l : Int) * -1 = i - l by omega]
            exact .int _
    · cases e
  · cases e
end
end DL
/-! DLg: enumerate over tuples, sorted of a tuple, [::-1] of a tuple, count. -/
namespace DL
open PySem PySem.Spec PyProof.Rows L2
section
variable {K : KF} {k : Nat} {Y : Fm K k}
def pairsFrom : Nat → List PyData → List PyData
  | _, [] => []
  | i, d :: ds => .tuple [.int (i : Int), d] :: pairsFrom (i + 1) ds
theorem pairsFrom_len : ∀ (ds : List PyData) (i : Nat), (pairsFrom i ds).length = ds.length
  | [], _ => rfl
  | _ :: ds, i => by simp [pairsFrom, pairsFrom_len ds]
theorem pairsFrom_get : ∀ {ds : List PyData} {i j : Nat} {d : PyData}, (pairsFrom i ds)[j]? = some d → ∃ e, ds[j]? = some e ∧ d = .tuple [.int ((i + j : Nat) : Int), e]
  | [], _, _, _, h => by simp [pairsFrom] at h
  | e :: ds, i, 0, d, h => by simp [pairsFrom] at h; exact ⟨e, by simp, h.symm⟩
  | e :: ds, i, j + 1, d, h => by
    simp only [pairsFrom, List.getElem?_cons_succ] at h
    obtain ⟨e', h1, h2⟩ := pairsFrom_get h
    exact ⟨e', by simpa using h1, by rw [h2, show i + 1 + j = i + (j + 1) by omega]⟩
def iEnumD (as : List Ar) : ID := fun ρ => match runD as ρ with
  | some ([.tuple ds], ρ1) => some (pairsFrom 0 ds, ρ1)
  | some ([.list ds], ρ1) => some (pairsFrom 0 ds, ρ1)
  | _ => none
theorem newPair {F H : Hp} {i : Nat} {T : Addr} {o : Obj} {x : V} {d : PyData} (s : Same F H) (hT : H T = none) (ho : OT o) (hx : Dp K F x d) : ∃ F', Same F' (upd H T (.frz o (.tup [.int (i : Int), x]))) ∧ Ext No F H F' (upd H T (.frz o (.tup [.int (i : Int), x]))) ∧ Dp K F' (.ref T) (.tuple [.int (i : Int), d]) :=
  ⟨upd F T (.frz o (.tup [.int (i : Int), x])), Same.new s, Ext.new hT s, .tup (TQ.of ho) (.cons (.int _) (.cons (dpMono (Ext.new (A := No) hT s).f _ _ hx) .nil))⟩
theorem j_enum {S : Hp → List V → Prop} {F1 : Hp} {xs : List V} {ds : List PyData} (h1 : ∀ F2 H2, Same F1 F2 → Same F2 H2 → S H2 xs) (h2 : DpAll K F1 xs ds) : JOk K (IteF S) F1 (pairsFrom 0 ds) := fun F2 H2 i s1 s2 => by
  refine ⟨fun hi => ⟨xs, h1 _ _ s1 s2, by rw [dpAllLen h2]; rw [pairsFrom_len] at hi; exact hi⟩, fun d hd => ?_⟩
  obtain ⟨e, he, rfl⟩ := pairsFrom_get hd
  obtain ⟨v, hv, dv⟩ := dpAllGet h2 he
  refine ⟨⟨xs, v, h1 _ _ s1 s2, hv⟩, fun x H' y => ?_⟩
  obtain ⟨T, x2, o, rfl, hT, ho, rfl, y⟩ := y
  have z := y xs (h1 _ _ s1 s2)
  rw [hv] at z
  cases z
  rw [Nat.zero_add]
  exact newPair s2 hT ho (dpMono s1 _ _ dv)
theorem i_enum {e : Expr} {as : List Ar} {p pos tpos : Pos} {elts : List Expr} {kk : Nat} (hm : ∀ i, (Y.X i).mg "enumerate" = none) (ha : PAd Y [e] as) (hg : ∀ i, Gl (Y.X i) "enumerate" := by intro _; rfl) (hs : ∀ i, starEach [e] (Y.X i).env = [(false, eval e (Y.X i).env)] := by intro _; rfl) :
    PId Y (.Tuple elts kk tpos) (.Call (.Name "enumerate" p) [e] [] pos) (iEnumD as) := by
  obtain ⟨t, a1, a2⟩ := ha
  refine ⟨iEnumF K t, fun i => ?_, fun F H σ ρ ρ' ds R Rp e q => ?_⟩
  · have z := pi_enumF (p := p) (pos := pos) (tpos := tpos) (elts := elts) (kk := kk) (hg i) (hm i) (a1 i) (hs i)
    rw [Y.hK i] at z
    exact z
  · unfold iEnumD at e
    split at e
    · rename_i es ρ1 e1
      cases e
      refine a2.d Rp e1 fun vs F1 H1 p d => ?_
      obtain ⟨v, rfl, dv0⟩ := dp1 d
      cases dv0 with
      | @tup a xs _ h1 h2 => exact ⟨a, xs, rfl, .inl ⟨same_tq p.rep.sub h1, q _ F1 H1 p (j_enum (fun F2 H2 s1 s2 => same_tq (s1.trans s2) h1) h2)⟩⟩
    · rename_i es ρ1 e1
      cases e
      refine a2.d Rp e1 fun vs F1 H1 p d => ?_
      obtain ⟨v, rfl, dv0⟩ := dp1 d
      cases dv0 with
      | @lst a xs _ h1 h2 => exact ⟨a, xs, rfl, .inr ⟨same_sq p.rep.sub h1, q _ F1 H1 p (j_enum (fun F2 H2 s1 s2 => same_sq (s1.trans s2) h1) h2)⟩⟩
    · cases e
end
/-! ### sorted(tuple of ints) -/
section
variable {prog : Program} {w : World} {A : Around} {E : Value → Shared → Prop} {s : Shared}
def gath (h : Heap) (vs : List Value) : Heap := (h.push (seqObj "list" #[] 0)).update h.objs.size (Obj.mapSeq (· ++ vs.toArray))
theorem gath_old {h : Heap} {vs : List Value} {b : Addr} {o : Obj} (q : h.get? b = some o) : (gath h vs).get? b = some o := by
  unfold gath
  rw [Heap.get?_update_ne _ _ _ _ (Nat.ne_of_lt (Heap.lt_size q))]
  exact Heap.get?_push_of_some _ q
theorem gath_size {h : Heap} {vs : List Value} : (gath h vs).objs.size = h.objs.size + 1 := by
  unfold gath
  rw [Heap.size_update, size_push']
theorem collectT {l : Addr} {vs : List Value} {Q : List Value → Shared → Prop} (ht : s.heap.IsTuple l vs.toArray) (hsz : vs.length ≤ sizeLine) (h : Q vs { s with heap := gath s.heap vs }) :
    wpAny (model prog w) A (collect (.ref l)) Q E s := by
  obtain ⟨o, ho, hc, n, hd⟩ := id ht
  unfold collect
  refine wpAny_bind (wpAny_runValue (codeAny_builtin F.entry_proto_collect ?_))
  rw [Around.under_plainId F.plain_proto_collect _]
  show wpAny _ A.in1 (newList [] >>= fun u => again (.builtin "list.__iadd__" ⟨[u, .ref l], []⟩)) _ _ s
  refine wpAny_bind (wpAny_newObj_type ?_)
  refine wpAny_pure ⟨plainId_quiet F.plain_list_iadd _, codeAny_builtin F.entry_list_iadd ?_⟩
  rw [Around.under_plainId F.plain_list_iadd _]
  show wpAny _ A.in1 (Builtin.List.listExtendWith (.ref s.heap.objs.size) (.ref l) (.ref s.heap.objs.size)) _ _ _
  have g0 : (s.heap.push { cls := .type "list", data := .seq ([] : List Value).toArray }).get? s.heap.objs.size = some { cls := .type "list", data := .seq #[] 0 } := Heap.get?_push_size _ rfl
  have g1 := Heap.get?_update_self (Obj.mapSeq (· ++ vs.toArray)) g0 rfl
  have last : wpAny (model prog w) A (match Value.ref s.heap.objs.size with
      | Value.ref p => do
        match (← load p).data with
          | Data.seq ys _ => pure ys.toList
          | _ => unsupported "internal:collect"
      | _ => unsupported "internal:collect") Q E { s with heap := gath s.heap vs } := by
    show wpAny _ A (load s.heap.objs.size >>= _) _ _ _
    refine wpAny_bind (wpAny_load g1 (wpAny_pure ?_))
    show Q ((#[] : Array Value) ++ vs.toArray).toList _
    rw [show ((#[] : Array Value) ++ vs.toArray).toList = vs by simp]
    exact h
  refine wpAny_mono (wpAny_extend_seq (hsz := by simpa using hsz) (A := A) (R := fun r s2 => r = .ok (.ret (.ref s.heap.objs.size)) ∧ s2 = { s with heap := gath s.heap vs })
    (s := { s with heap := s.heap.push { cls := .type "list", data := .seq ([] : List Value).toArray } }) _ l _ 0 (.inr rfl) g0 (Heap.get?_push_of_some _ ho) hc hd ⟨rfl, rfl⟩) (fun fin s2 q => ?_) (fun e s2 q => ?_)
  · cases fin with
    | done f =>
      obtain ⟨e, rfl⟩ := q
      cases e
      exact last
    | again c => exact ⟨q.1, codeAny_mono q.2 fun r s3 hr => by obtain ⟨rfl, rfl⟩ := hr; exact last⟩
  · exact absurd q.1 (by simp)
theorem sortedT {l : Addr} {vs : List Value} {ltv : Value → Value → Bool} {Q : Value → Shared → Prop} (O : SrtO.Swo ltv) (hl : s.heap.IsTuple l vs.toArray) (hz : vs.length ≤ sizeLine)
    (hS : 2 ≤ vs.length → ∀ (h₁ : Heap) (a : Addr), h₁.get? a = some (seqObj "list" vs.toArray 0) → SrtO.SortableO prog w A.in1.in1 { s with heap := h₁ } a vs ltv)
    (h : ∀ out : List Value, SrtO.Srtd ltv out → SrtO.Stb ltv out vs → Q (.ref (s.heap.objs.size + 1)) { s with heap := sortedAll s.heap vs out.toArray }) :
    wpAny (model prog w) A (call (.builtin "sorted") [.ref l]) Q E s := by
  refine Calls.call_function_entry kind_sorted plain_sorted entry_sorted (args_sorted1 _) ?_
  unfold Builtin.«sorted»
  refine wpAny_bind (m := checkCount "sorted" 1 1 _) (wpAny_pure ?_)
  refine wpAny_bind (collectT hl hz ?_)
  refine wpAny_bind (wpAny_newList ?_ hz)
  have hoL : ((gath s.heap vs).push (seqObj "list" vs.toArray 0)).get? (s.heap.objs.size + 1) = some (seqObj "list" vs.toArray 0) := by
    rw [← gath_size (vs := vs)]; exact Heap.get?_push_size _ rfl
  show wpAny _ _ _ _ _ { s with heap := (gath s.heap vs).push (seqObj "list" vs.toArray 0) }
  rw [gath_size]
  refine wpAny_bind (wpAny_holding (wpAny_call_entry slot_list_sort ⟨_, hoL, rfl⟩ entry_list_sort (SrtO.list_sort_ord O hoL hz (fun h2 => hS h2 _ _ hoL) fun out hs hb => ⟨_, rfl, ?_⟩) (args_list_sort _)))
  exact wpAny_pure ⟨_, rfl, h out hs hb⟩
end
def rSortedT (K : KF) : List V → Hp → VK → Prop := fun vs H Q => ∃ (a : Addr) (ns : List Int), vs = [V.ref a] ∧ SqT K H a (ns.map V.int) ∧
  ∀ (ns' : List Int) (p : Addr), ns'.Perm ns → ns'.Pairwise (· ≤ ·) → H p = none → Q (.ref p) (upd H p (.lst (ns'.map V.int)))
theorem cr_sortedT {X : Cx} : CallR X (.builtin "sorted") (rSortedT X.K) := by
  intro pins s σ H vs us Q I r h
  obtain ⟨a, ns, rfl, hs, q⟩ := h
  obtain ⟨its, rv, hl, hz⟩ := I.tuple hs
  rw [Vals.ref1 r]
  have hi := rv.ints
  refine sortedT SrtO.swo_int hl (by rw [← rv.length]; exact hz) (fun h2 h₁ a' _ => SrtO.ints_sortable hi h2) fun out h1 h2 => ?_
  obtain ⟨k1, k2, k3⟩ := SrtO.ints_out hi h1 h2
  obtain ⟨ep, he'⟩ := PyProof.Rows.sortedAll_at s.heap its out.toArray
  have hlen : ((out.map SrtO.iv).map V.int).length ≤ sizeLine := by
    rw [List.length_map, k2.length_eq]
    rw [List.length_map] at hz
    exact hz
  exact ⟨.ref _, upd H (s.heap.objs.size + 1) (.lst ((out.map SrtO.iv).map V.int)), I.laid (t' := s.toks) (fun _ _ => PyProof.Rows.sortedAll_old) (Nat.le_succ _) ⟨hlen, out, ep, vals_of_ints k1, he'⟩, rfl, q _ _ k2 k3 (I.hok.fresh (Nat.le_succ _))⟩
section
variable {K : KF} {k : Nat} {Y : Fm K k}
/-- sorted of a list or a tuple of ints -/
def sortedAD : List PyData → Option RV
  | [.list xs] => (intsOf xs).map fun ns => .new ((sortI ns).map .int)
  | [.tuple xs] => (intsOf xs).map fun ns => .new ((sortI ns).map .int)
  | _ => none
theorem call_sortedA {X : Cx} : CallR X (.builtin "sorted") (fun xs H Q => rSortedI X.K xs H Q ∨ rSortedT X.K xs H Q) := cr_sortedI.or cr_sortedT
theorem s_sortedA : CallS K (fun xs H Q => rSortedI K xs H Q ∨ rSortedT K xs H Q) sortedAD := fun F H vs ds rv Q s h e k => by
  unfold sortedAD at e
  split at e
  · exact .inl (s_sorted F H vs _ rv Q s h (by unfold sortedD; exact e) k)
  · simp only [Option.map_eq_some_iff] at e
    obtain ⟨ns, e, rfl⟩ := e
    obtain ⟨v, rfl, a⟩ := dp1 h
    have e := intsOf_eq e
    subst e
    cases a with
    | @tup p xs _ h1 h2 =>
      have e := dpInts h2
      subst e
      refine .inr ⟨p, ns, rfl, same_tq s h1, fun ns' q hp hs hq => ?_⟩
      have e := sorted_eq (hp.trans (sortI_perm ns).symm) hs (sortI_sorted ns)
      subst e
      exact laidLst s (dpIntsOf _) k hq
  · cases e
end
end DL
/-! DLh: methods of tuples, [::-1], list(range), stores in lists. -/
namespace DL
open PySem PySem.Spec PyProof.Rows L2
/-! ### t[::-1] -/
section
variable {prog : Program} {w : World} {A : Around} {E : Value → Shared → Prop} {s : Shared}
theorem revApplied {sl : Addr} {vl vu vs : Value} {n : Nat} {Q : Int × Int × Nat → Shared → Prop} (hs : s.heap.IsSliceOf sl vl vu vs) (pl : IsPart vl none) (pu : IsPart vu none) (ps : IsPart vs (some (-1)))
    (h : Q ((n : Int) - 1, -1, n) s) : wpAny (model prog w) A (Builtin.Slice.sliceApplied (.ref sl) (pure (n : Int))) Q E s := by
  obtain ⟨os, hos, hcs, hds⟩ := id hs
  unfold Builtin.Slice.sliceApplied Builtin.Slice.sliceFields
  refine wpAny_bind (wpAny_bind (wpAny_field hos hds (x := vl) rfl (wpAny_bind (wpAny_field hos hds (x := vu) rfl (wpAny_bind (wpAny_field hos hds (x := vs) rfl (wpAny_pure ?_)))))))
  refine wpAny_bind (HT.slicePart_ ps ?_)
  show wpAny _ _ (if ((-1 : Int) == 0) = true then _ else _) _ _ s
  rw [if_neg (by decide)]
  refine wpAny_bind (HT.slicePart_ pl (wpAny_bind (HT.slicePart_ pu (wpAny_bind (wpAny_pure ?_)))))
  show wpAny _ _ (match Builtin.Slice.sliceAdjust none none (-1) (n : Int) with | (lo, hi) => pure (lo, (-1 : Int), Builtin.Slice.slicePlaces lo hi (-1))) _ _ s
  have e1 : Builtin.Slice.sliceAdjust none none (-1) (n : Int) = ((n : Int) - 1, -1) := rfl
  have e2 : Builtin.Slice.slicePlaces ((n : Int) - 1) (-1) (-1) = n := by
    unfold Builtin.Slice.slicePlaces
    rw [if_neg (by decide)]
    by_cases h0 : n = 0
    · subst h0; rfl
    · rw [if_pos (by omega)]
      have h1 : (n : Int) - 1 - -1 - 1 = n - 1 := by omega
      have h2 : (- -1 : Int) = 1 := rfl
      rw [h1, h2, Int.ediv_one]
      omega
  rw [e1]
  show wpAny _ _ (pure ((n : Int) - 1, (-1 : Int), Builtin.Slice.slicePlaces ((n : Int) - 1) (-1) (-1))) _ _ s
  rw [e2]
  exact wpAny_pure h
theorem pick_rev (xs : Array Value) : ((List.range xs.size).filterMap fun (m : Nat) => xs[(((xs.size : Int) - 1) + (m : Int) * (-1)).toNat]?).toArray = xs.toList.reverse.toArray := by
  congr 1
  have key : ∀ l : List Value, (List.range l.length).filterMap (fun (m : Nat) => l[(((l.length : Int) - 1) + (m : Int) * (-1)).toNat]?) = l.reverse := fun l => by
    have e : (List.range l.length).filterMap (fun (m : Nat) => l[(((l.length : Int) - 1) + (m : Int) * (-1)).toNat]?) = (List.range l.length).filterMap (fun (m : Nat) => l.reverse[m]?) := by
      have cg : ∀ (r : List Nat) (f g : Nat → Option Value), (∀ m ∈ r, f m = g m) → r.filterMap f = r.filterMap g := fun r f g => by
        induction r with
        | nil => intro _; rfl
        | cons a r ih =>
          intro h
          rw [List.filterMap_cons, List.filterMap_cons, h a (by simp), ih fun m hm => h m (by simp [hm])]
      refine cg _ _ _ fun m hm => ?_
      have hm' : m < l.length := by simpa using hm
      rw [List.getElem?_reverse hm', show (((l.length : Int) - 1) + (m : Int) * (-1)).toNat = l.length - 1 - m by omega]
    rw [e]
    have e2 : l.length = l.reverse.length := by simp
    rw [e2]
    generalize l.reverse = r
    apply List.ext_getElem?
    intro i
    have e3 : (List.range r.length).filterMap (fun m => r[m]?) = r := by
      induction r with
      | nil => rfl
      | cons a r ih =>
        rw [List.length_cons, List.range_succ_eq_map, List.filterMap_cons]
        simp only [List.getElem?_cons_zero]
        rw [List.filterMap_map]
        have e4 : ((fun m => (a :: r)[m]?) ∘ Nat.succ) = fun m => r[m]? := by funext m; simp
        rw [e4, ih]
    rw [e3]
  have z := key xs.toList
  simp only [Array.length_toList, Array.getElem?_toList] at z
  exact z
theorem getItem_tuple_rev {t sl : Addr} {items : Array Value} {vl vu vs : Value} {Q : Value → Shared → Prop} (ht : IsTup s.heap t items) (hs : s.heap.IsSliceOf sl vl vu vs) (pl : IsPart vl none) (pu : IsPart vu none) (ps : IsPart vs (some (-1)))
    (h : Q (.ref s.heap.objs.size) { s with heap := s.heap.push { cls := .type "tuple", data := .seq items.toList.reverse.toArray } }) (hsz : items.size ≤ sizeLine) : wpAny (model prog w) A (getItem (.ref t) (.ref sl)) Q E s := by
  have htake : sizeOk (.seq items.toList.reverse.toArray) := by
    show items.toList.reverse.toArray.size ≤ sizeLine
    simpa using hsz
  obtain ⟨os, hos, hcs, hds⟩ := id hs
  have hTs : s.TypeIs (.ref sl) "slice" := ⟨os, hos, hcs⟩
  unfold getItem
  try with_reducible refine wpAny_holding ?_
  first | refine wpAny_bind (wpAny_pure ?_) | skip
  refine wpAny_bind (wpAny_sequenceKey ht.typeIs (by decide) ?_)
  refine wpAny_bind (wpAny_callSpecial?_slot (name := Str.ofString "__getitem__") ht.typeIs PyProof.Rows.slot_tuple_getitem
    (wpAny_call_entry PyProof.Rows.slot_tuple_getitem ht.typeIs entry_tuple_getitem ?_ (args_tuple_getitem _ _)))
  show wpAny _ _ (Builtin.Tuple.tupleItemsOf (.ref t) >>= _) _ _ s
  refine wpAny_bind (tupleItemsOf_ ht ?_)
  refine wpAny_bind (wpAny_typeOf hTs ?_)
  rw [if_pos (by decide)]
  refine wpAny_bind (revApplied hs pl pu ps ?_)
  have hno : ¬ ((((items.size : Int) - 1) == 0 && (-1 : Int) == 1 && items.size == items.size) = true) := by
    intro q
    simp at q
  show wpAny _ _ (if (((items.size : Int) - 1) == 0 && (-1 : Int) == 1 && items.size == items.size) = true then _ else _) _ _ s
  rw [if_neg hno, pick_rev]
  first
    | exact wpAny_bind (m := Builtin.Tuple.tupleExact _) (wpAny_newObj_type (wpAny_pure ⟨_, rfl, wpAny_pure h⟩) htake)
    | exact wpAny_bind (m := Builtin.Tuple.tupleExact _) (wpAny_newObj_type (wpAny_bind (wpAny_pure (wpAny_pure ⟨_, rfl, wpAny_pure h⟩))) htake)
    | exact wpAny_bind (wpAny_bind (m := Builtin.Tuple.tupleExact _) (wpAny_newObj_type (wpAny_pure (wpAny_pure ⟨_, rfl, wpAny_pure h⟩)) htake))
end
def tRevA (K : KF) (te : TE) : TE := fun σ H Q => te σ H fun x H1 => ∃ a xs, x = .ref a ∧ ((SqL K H1 a xs ∧ ∀ p, H1 p = none → Q (.ref p) (upd H1 p (.lst xs.reverse))) ∨ (SqT K H1 a xs ∧ LayT H1 xs.reverse Q))
theorem pe_revA {X : Cx} {e : Expr} {te : TE} {k : Nat} {p1 p2 p3 pos : Pos} (he : PE X e te) : PE X (.Subscript e (.Slice none none (some (.UnaryOp .USub (.Constant (.int 1) k p1) p2)) p3) pos) (tRevA X.K te) := by
  refine ⟨fun pins s σ H Q I h => ?_⟩
  refine Subscript_ (thn (he.run pins s σ H _ I h) fun v s1 ⟨x, H1, I1, r1, q1⟩ => ?_)
  obtain ⟨a, xs, ex, q⟩ := q1
  subst ex
  cases r1
  have hst : PO X (some (.UnaryOp .USub (.Constant (.int 1) k p1) p2)) (tPart (tUn (rU fun i => .int (-i)) (tC (.int 1)))) := po_some (pe_un un_neg pe_int)
  refine wpAny_Slice (thn (po_none.run pins s1 σ H1 (fun o H2 => o = none ∧ H2 = H1) I1 ⟨rfl, rfl⟩) fun vl s2 ⟨l, H2, I2, pl, el, e2⟩ => ?_)
  subst el e2
  refine thn (po_none.run pins s2 σ H2 (fun o H3 => o = none ∧ H3 = H2) I2 ⟨rfl, rfl⟩) fun vu s3 ⟨u, H3, I3, pu, eu, e3⟩ => ?_
  subst eu e3
  refine thn (hst.run pins s3 σ H3 (fun o H4 => o = some (-1) ∧ H4 = H3) I3 ⟨1, rfl, -1, rfl, rfl, rfl⟩) fun vs s4 ⟨o, H4, I4, ps, eo, e4⟩ => ?_
  subst eo e4
  have I5 : Inv X pins σ H4 { s4 with heap := s4.heap.push { cls := .type "slice", data := .fields #[vl, vu, vs] } } := I4.kept (t' := s4.toks) fun b ob q => Heap.get?_push_of_some _ q
  show wpAny (model X.prog X.w) X.A (subscriptTail e (.Slice none none (some (.UnaryOp .USub (.Constant (.int 1) k p1) p2)) p3) (.ref a) (.ref s4.heap.objs.size)) (EP X pins σ Q) X.xe { s4 with heap := s4.heap.push { cls := .type "slice", data := .fields #[vl, vu, vs] } }
  rcases q with ⟨hx, q⟩ | ⟨hx, q⟩
  · obtain ⟨its, r, ht, hz⟩ := I5.list hx
    have hlen := r.length
    refine tail_any (ops := [.ref a, .ref s4.heap.objs.size]) ht.isList.typeIs (PySem.slot_list_getitem.lookup) ?_ (by with_unfolding_all rfl)
    refine wpAny_getItem_list_slice ht.isList (Heap.IsSliceOf.new _ vl vu vs) pl pu ps (by decide) ?_ (by rw [List.size_toArray]; omega)
    rw [PySem.W.krv_pick]
    refine ⟨.ref _, _, I5.laid (t' := s4.toks) (o := .lst xs.reverse) (fun b ob q => Heap.get?_push_of_some _ q) (Nat.le_refl _) ?_, rfl, q _ (I5.hok.fresh (Nat.le_refl _))⟩
    exact ⟨by rw [List.length_reverse]; exact hz, _, 0, r.reverse, Heap.get?_push_size _ rfl⟩
  · obtain ⟨its, r, ht, hz⟩ := I5.tuple hx
    have hlen := r.length
    refine tail_any (ops := [.ref a, .ref s4.heap.objs.size]) ht.typeIs PyProof.Rows.slot_tuple_getitem.lookup ?_ (by with_unfolding_all rfl)
    refine getItem_tuple_rev ht (Heap.IsSliceOf.new _ vl vu vs) pl pu ps ?_ (by rw [List.size_toArray]; omega)
    exact layT (s := { s4 with heap := s4.heap.push { cls := .type "slice", data := .fields #[vl, vu, vs] } }) (t' := s4.toks) I5 (fun b ob q => Heap.get?_push_of_some _ q) (Nat.le_refl _) (by rw [List.length_reverse]; exact hz) r.reverse (Heap.get?_push_size _ rfl) q
section
variable {K : KF} {k : Nat} {P : List Nat} {Y : Fm K k}
def eRev (f : ED) : ED := fun ρ => match f ρ with
  | none => none
  | some (r, ρ1) => (match r.d with
    | .list ds => some (.new ds.reverse, ρ1)
    | .tuple ds => some (.dat (.tuple ds.reverse), ρ1)
    | _ => none)
theorem d_rev {e : Expr} {f : ED} {kk : Nat} {p1 p2 p3 pos : Pos} (h : PEd Y e f) : PEd Y (.Subscript e (.Slice none none (some (.UnaryOp .USub (.Constant (.int 1) kk p1) p2)) p3) pos) (eRev f) := by
  obtain ⟨t, a1, a2⟩ := h
  refine ⟨tRevA K t, fun i => ?_, fun F H σ ρ ρ' rv Q R e q => ?_⟩
  · have z := pe_revA (k := kk) (p1 := p1) (p2 := p2) (p3 := p3) (pos := pos) (a1 i)
    rw [Y.hK i] at z
    exact z
  · unfold eRev at e
    cases e1 : f ρ with
    | none => rw [e1] at e; cases e
    | some q1 =>
      obtain ⟨r, ρ1⟩ := q1
      rw [e1] at e
      simp only at e
      refine a2.d R e1 fun v F1 H1 p d => ?_
      have fin : ∀ v F' H', Same F' H' → Ext No F1 H1 F' H' → ResOk K F' H' H1 v rv → ρ1 = ρ' → Q v H' := fun v F' H' s0 e0 ro er => by
        subst er
        exact q v F' H' (p.ext0 e0 s0) (ro.back p.ext.k)
      split at e
      · rename_i ds er
        cases e
        rw [er] at d
        cases d with
        | @lst a xs _ h1 h2 => exact ⟨a, xs, rfl, .inl ⟨same_sq p.rep.sub h1, fun z hz => laidLst p.rep.sub (dpAllRev h2) (fun v F' H' a b c => fin v F' H' a b c rfl) hz⟩⟩
      · rename_i ds er
        cases e
        rw [er] at d
        cases d with
        | @tup a xs _ h1 h2 => exact ⟨a, xs, rfl, .inr ⟨same_tq p.rep.sub h1, laidTup p.rep.sub (dpAllRev h2) (fun v F' H' a b c => fin v F' H' a b c rfl)⟩⟩
      · cases e
/-! ### t.count(x) -/
def countOk (ds : List PyData) (d : PyData) : Bool := PyData.plainAll ds && d.plain && decide (min (PyData.depthAll ds) d.depth < 60)
def eCount (f g : ED) : ED := fun ρ => match f ρ with
  | none => none
  | some (r, ρ1) => (match r.d with
    | .tuple ds => (match g ρ1 with
      | none => none
      | some (x, ρ2) => if countOk ds x.d then some (.dat (.int ((ds.countP fun y => PyData.eqv y x.d : Nat) : Int)), ρ2) else none)
    | _ => none)
theorem d_count {o e : Expr} {f g : ED} {apos cpos : Pos} (ho : PEd Y o f) (he : PEd Y e g)
    (hbase : ∀ i, attributeBase o "count" (Y.X i).env (eval o (Y.X i).env) = eval o (Y.X i).env := by intro _; rfl)
    (hfew : ∀ i, ((backTo cpos (starEach [e] (Y.X i).env)).all (fun x => !x.1) && (backToKw cpos (keywordEach [] (Y.X i).env)).all (fun x => x.1.isSome)
      && decide ([e].length + ([] : List Keyword).length + (if ([] : List Keyword).isEmpty then 0 else 1) < 30)) = true := by intro _; rfl)
    (hline : (apos.endLine == cpos.line) = true := by rfl) (hst : ∀ i, starEach [e] (Y.X i).env = (false, eval e (Y.X i).env) :: starEach [] (Y.X i).env := by intro _; rfl) (hpl : ∀ i, (backTo cpos (starEach [] (Y.X i).env)).any (·.1) = false := by intro _; rfl) :
    PEd Y (.Call (.Attribute o "count" apos) [e] [] cpos) (eCount f g) := by
  obtain ⟨to, a1, a2⟩ := ho
  obtain ⟨t, b1, b2⟩ := he
  refine ⟨tTM K (rCntT K) to (tCons t tNil), fun i => ?_, fun F H σ ρ ρ' rv Q R e q => ?_⟩
  · have z := pe_tm (name := "count") (apos := apos) (cpos := cpos) PySem.F.slot_tuple_count PySem.F.type_tuple_count (mt_tcount (X := Y.X i) (Y.room i).units) (a1 i) (pa_cons (b1 i) pa_nil (hst i)) (hbase i) (hfew i) hline (hst i) (hpl i)
    rw [Y.hK i] at z
    exact z
  · unfold eCount at e
    cases e1 : f ρ with
    | none => rw [e1] at e; cases e
    | some q1 =>
      obtain ⟨r, ρ1⟩ := q1
      rw [e1] at e
      simp only at e
      refine a2.d R e1 fun v F1 H1 p1 d1 => ?_
      split at e
      · rename_i ds er
        cases e2 : g ρ1 with
        | none => rw [e2] at e; cases e
        | some q2 =>
          obtain ⟨x, ρ2⟩ := q2
          rw [e2] at e
          simp only at e
          split at e
          · rename_i hc
            cases e
            rw [er] at d1
            cases d1 with
            | @tup a xs _ h1 h2 =>
              refine ⟨⟨a, xs, rfl, h1.same p1.rep.sub⟩, b2.d p1.rep e2 fun y F2 H2 p2 d2 => ?_⟩
              have p := p1.trans p2
              unfold countOk at hc
              simp only [Bool.and_eq_true, decide_eq_true_eq] at hc
              have s2 := p2.ext.f.trans p2.rep.sub
              exact ⟨a, xs, ds, y, x.d, rfl, rfl, h1.same s2, dpKitAll _ _ (dpAllMono s2 _ _ h2), dpKit _ _ (dpMono p2.rep.sub _ _ d2), hc.1.1, hc.1.2, hc.2, q _ F2 H2 p (.int _)⟩
          · cases e
      · cases e
/-! ### list(range(..)) -/
def eLstRg (as : List Ar) : ED := fun ρ => match runD as ρ with
  | some ([.int j], ρ1) => if small62 j && decide (j ≤ 2 ^ 24) then some (.new (rgD 0 j.toNat), ρ1) else none
  | _ => none
def rListRg1 : List V → Hp → VK → Prop := fun _ _ _ => True
theorem dp_rgV {F : Hp} {lo : Int} {n : Nat} : DpAll K F ((List.range n).map fun (i : Nat) => V.int (lo + (i : Int))) (rgD lo n) := by
  unfold rgD
  have key : ∀ l : List Nat, DpAll K F (l.map fun (i : Nat) => V.int (lo + (i : Int))) (l.map fun (i : Nat) => PyData.int (lo + (i : Int))) := fun l => by
    induction l with
    | nil => exact .nil
    | cons a l ih => exact .cons (.int _) ih
  exact key _
theorem d_listRg {f : ED} {a : Expr} {p p2 pos pos2 : Pos} (hm : ∀ i, (Y.X i).mg "list" = none) (hm2 : ∀ i, (Y.X i).mg "range" = none) (ha : PEd Y a f) (hg : ∀ i, Gl (Y.X i) "list" := by intro _; rfl) (hg2 : ∀ i, Gl (Y.X i) "range" := by intro _; rfl)
    (na : ∀ i, starEach [a] (Y.X i).env = (false, eval a (Y.X i).env) :: starEach [] (Y.X i).env := by intro _; rfl)
    (na2 : ∀ i, starEach [.Call (.Name "range" p2) [a] [] pos2] (Y.X i).env = (false, eval (.Call (.Name "range" p2) [a] [] pos2) (Y.X i).env) :: starEach [] (Y.X i).env := by intro _; rfl) :
    PEd Y (.Call (.Name "list" p) [.Call (.Name "range" p2) [a] [] pos2] [] pos) (eLstRg [.ex f]) := by
  obtain ⟨t, a1, a2⟩ := ha
  refine ⟨tLstRg (tRg1 t), fun i => pe_listRg (Y.calm i) (hg i) (hm i) (prg_1 (hg2 i) (hm2 i) (a1 i) (na i)) (na2 i), fun F H σ ρ ρ' rv Q R e q => ?_⟩
  unfold eLstRg at e
  split at e
  · rename_i j ρ1 e1
    split at e
    · rename_i hz
      unfold small62 at hz
      simp only [Bool.and_eq_true, decide_eq_true_eq] at hz
      cases e
      simp only [runD, runA] at e1
      cases e2 : f ρ with
      | none => rw [e2] at e1; cases e1
      | some q2 =>
        obtain ⟨r, ρ2⟩ := q2
        rw [e2] at e1
        simp only [allDat, Option.map_some, Option.some.injEq, Prod.mk.injEq, List.cons.injEq, and_true] at e1
        obtain ⟨er, rfl⟩ := e1
        refine a2.d R e2 fun v F1 H1 p d => ?_
        rw [er] at d
        cases d
        refine ⟨j, rfl, ⟨by decide, by decide, hz.1.1, hz.1.2, by omega⟩, fun z hz2 => ?_⟩
        have e0 : rgV 0 j = (List.range j.toNat).map fun (i : Nat) => V.int (0 + (i : Int)) := by unfold rgV; rw [show (j - 0).toNat = j.toNat by omega]
        rw [e0]
        exact laidLst p.rep.sub dp_rgV (fun v F' H' s0 e0 ro => q v F' H' (p.ext0 e0 s0) (ro.back p.ext.k)) hz2
    · cases e
  · cases e
/-! ### slot[index] as a target -/
def gSetIx (i : Nat) (g : ED) : GD := fun d ρ => if isSeq ρ[i]? then (match g ρ with
    | some (.dat (.int j), ρ2) => (match ρ2[i]? with
      | some (.gro ds) => (match ixN ds.length j with
        | some n => some (ρ2.set i (.gro (ds.set n d)))
        | none => none)
      | _ => none)
    | _ => none) else none
theorem g_sub (i : Nat) {x : Str} {b : Expr} {g : ED} {p1 p2 : Pos} (hb : PEd Y b g) (hN : ∀ j, (Y.X j).N[i]? = some x := by intro _; rfl) (hv : ∀ j, Vis (Y.X j).env.scope x := by intro _; first | exact Or.inl rfl | exact Or.inr (Or.inl rfl) | exact Or.inr (Or.inr rfl)) (hd : (x == ("__debug__" : Str)) = false := by decide)
    (hcd : (x == ("__classdict__" : Str)) = false := by decide)
    (ha : ∀ l v, assign (.Subscript (.Name x p1) b p2) (Y.X l).env v = (do
      let ov ← holding [v] (eval (.Name x p1) (Y.X l).env)
      let iv ← holding [v, ov] (eval b (Y.X l).env)
      standAt p2
      holding [v, ov, iv] (setItem ov iv v)
      release [v, ov, iv] []) := by intro _ _; rfl) : PGd P Y (.Subscript (.Name x p1) b p2) (gSetIx i g) := by
  obtain ⟨tb, b1, b2⟩ := hb
  refine ⟨gSub (tVar i) tb rSetL, fun l => pg_sub (pe_var (hN l) (hv l) hd hcd) (b1 l) set_list (ha l), fun F H σ ρ ρ' v d Q R hd e q => ?_⟩
  unfold gSetIx at e
  split at e
  · rename_i hsq
    obtain ⟨a, hA⟩ := isSeq_ref R hsq
    split at e
    · rename_i j ρ2 e2
      refine ⟨.ref a, hA, b2 F H σ ρ ρ2 _ _ R e2 fun w F2 H2 p2 d2 => ?_⟩
      have d2 : Dp K F2 w (.int j) := d2
      cases d2
      split at e
      · rename_i ds er
        split at e
        · rename_i n en
          cases e
          obtain ⟨a2, vs, q1, q2, q3, q4⟩ := p2.rep.slot i _ er
          rw [hA] at q1
          cases q1
          refine ⟨a, vs, j, n, rfl, rfl, q2, by rw [dpAllLen q4]; exact en, ?_⟩
          exact q σ F2 _ (p2.trans (groWrite p2.rep er hA (dpAllSet (dpMono p2.ext.f _ _ hd) n q4))).s
        · cases e
      · cases e
    · cases e
  · cases e
/-- a, b, c = x, y, z -/
def sPar3 (i j l : Nat) (as : List Ar) : SD := fun ρ => match runD as ρ with
  | some ([d, e, f], ρ1) => some (.nx, ((ρ1.set i (.dat d)).set j (.dat e)).set l (.dat f))
  | _ => none
theorem s_par3 (i j m : Nat) {x y z : Str} {a b c : Expr} {as : List Ar} {px py pz pt pos : Pos} {kt k2 pt2} (ha : PAd Y [a, b, c] as) (hiP : i ∉ P := by decide) (hjP : j ∉ P := by decide) (hmP : m ∉ P := by decide) (hi : ∀ l, (Y.X l).N[i]? = some x := by intro _; rfl) (hj : ∀ l, (Y.X l).N[j]? = some y := by intro _; rfl) (hm : ∀ l, (Y.X l).N[m]? = some z := by intro _; rfl)
    (hij : i ≠ j := by decide) (him : i ≠ m := by decide) (hjm : j ≠ m := by decide)
    (hx : ∀ l, (Y.X l).env.scope.names.lookup x = some .local := by intro _; rfl) (hy : ∀ l, (Y.X l).env.scope.names.lookup y = some .local := by intro _; rfl) (hz : ∀ l, (Y.X l).env.scope.names.lookup z = some .local := by intro _; rfl)
    (hw : ∀ l, swappedStores [.Tuple [.Name x px, .Name y py, .Name z pz] kt pt] (.Tuple [a, b, c] k2 pt2) (Y.X l).env = pure (some [x, y, z]) := by intro _; rfl)
    (hs : ∀ l, swapsWithSole [.Tuple [.Name x px, .Name y py, .Name z pz] kt pt] (.Tuple [a, b, c] k2 pt2) pos.line (Y.X l).env = pure false := by intro _; rfl) :
    PSd P Y (.Assign [.Tuple [.Name x px, .Name y py, .Name z pz] kt pt] (.Tuple [a, b, c] k2 pt2) pos) (sPar3 i j m as) := by
  obtain ⟨t, a1, a2⟩ := ha
  refine ⟨_, fun l => ps_par3 (Y.calm l) (Y.nd l) (hi l) (hj l) (hm l) hij him hjm (hx l) (hy l) (hz l) (a1 l) (hw l) (hs l), fun F H σ ρ ρ' fl D R e q => ?_⟩
  unfold sPar3 at e
  split at e
  · rename_i d1 d2 d3 ρ1 e1
    cases e
    refine a2.d R e1 fun vs F1 H1 p dd => ?_
    cases dd with
    | @cons u _ _ _ h1 h2 =>
      obtain ⟨v, w, rfl, h2, h3⟩ := dp2 h2
      have s1 := storeD (P := P) p.rep h1 hiP
      have s2 := storeD (P := P) s1.rep h2 hjP
      have s3 := storeD (P := P) s2.rep h3 hmP
      exact ⟨u, v, w, rfl, q _ F1 H1 (p.s.trans (s1.trans (s2.trans s3)))⟩
  · cases e
/-! ### a, b = x, y: lists just made stay their slots' own -/
def runV : List ED → DE → Option (List RV × DE)
  | [], ρ => some ([], ρ)
  | f :: fs, ρ => match f ρ with
    | none => none
    | some (r, ρ1) => match runV fs ρ1 with
      | none => none
      | some (rs, ρ2) => some (r :: rs, ρ2)
/-- the addresses of the lists just made -/
def newAt : V → RV → List Addr
  | .ref a, .new _ => [a]
  | _, _ => []
inductive VsOk (K : KF) (F H H0 : Hp) : List V → List RV → Prop
  | nil : VsOk K F H H0 [] []
  | cons {v : V} {vs : List V} {r : RV} {rs : List RV} : ResOk K F H H0 v r → (∀ a ds, v = .ref a → r = .new ds → ∀ (n : Nat) (w : V) (es : List PyData), vs[n]? = some w → rs[n]? = some (.new es) → w ≠ .ref a) → VsOk K F H H0 vs rs → VsOk K F H H0 (v :: vs) (r :: rs)
theorem VsOk.back {F H H0 H1 : Hp} (k : ∀ a, H1 a = none → H0 a = none) : ∀ {vs : List V} {rs : List RV}, VsOk K F H H1 vs rs → VsOk K F H H0 vs rs
  | _, _, .nil => .nil
  | _, _, .cons a b c => .cons (a.back k) b (c.back k)
theorem VsOk.at {F H H0 : Hp} : ∀ {vs : List V} {rs : List RV} {n : Nat} {w : V} {r : RV}, VsOk K F H H0 vs rs → vs[n]? = some w → rs[n]? = some r → ResOk K F H H0 w r
  | _, _, _, _, _, .nil, h, _ => by simp at h
  | _, _, 0, _, _, .cons a b c, h, h2 => by simp at h h2; subst h; subst h2; exact a
  | _, _, n + 1, _, _, .cons a b c, h, h2 => c.at (n := n) (by simpa using h) (by simpa using h2)
def ServesV (K : KF) (t : TA) (fs : List ED) : Prop := ∀ (F H : Hp) (σ : Sg) (ρ ρ' : DE) (rs : List RV) (Q : List V → Hp → Prop), Rep K F H σ ρ → runV fs ρ = some (rs, ρ') →
  (∀ vs F' H', PostE K F H σ ρ F' H' ρ' → VsOk K F' H' H vs rs → Q vs H') → t σ H Q
variable (Y) in
def PAv (es : List Expr) (fs : List ED) : Prop := ∃ t, (∀ i, PA (Y.X i) es t) ∧ ServesV K t fs
theorem v_nil : PAv Y [] [] := ⟨_, fun _ => pa_nil, fun F H σ ρ ρ' rs Q R e q => by
  cases e
  exact q [] F H (PostE.refl R) .nil⟩
theorem v_cons {e : Expr} {es : List Expr} {f : ED} {fs : List ED} (h1 : PEd Y e f) (h2 : PAv Y es fs) (hs : ∀ i, starEach (e :: es) (Y.X i).env = (false, eval e (Y.X i).env) :: starEach es (Y.X i).env := by intro _; rfl) : PAv Y (e :: es) (f :: fs) := by
  obtain ⟨t, a1, a2⟩ := h1
  obtain ⟨u, b1, b2⟩ := h2
  refine ⟨_, fun i => pa_cons (a1 i) (b1 i) (hs i), fun F H σ ρ ρ' rs Q R e q => ?_⟩
  unfold runV at e
  cases e1 : f ρ with
  | none => rw [e1] at e; cases e
  | some p1 =>
    obtain ⟨r, ρ1⟩ := p1
    rw [e1] at e
    simp only at e
    cases e2 : runV fs ρ1 with
    | none => rw [e2] at e; cases e
    | some p2 =>
      obtain ⟨ss, ρ2⟩ := p2
      rw [e2] at e
      cases e
      refine a2 F H σ ρ ρ1 r _ R e1 fun v F1 H1 p1 ro => ?_
      refine b2 F1 H1 σ ρ1 ρ' ss _ p1.rep e2 fun vs F2 H2 p2 d2 => ?_
      refine q (v :: vs) F2 H2 (p1.trans p2) (.cons ?_ ?_ (d2.back p1.ext.k))
      · cases r with
        | dat d => exact dpMono p2.ext.f _ _ ro
        | new ds =>
          obtain ⟨a, ws, ev, q1, q2, q3, q4⟩ := ro
          obtain ⟨k1, k2⟩ := keepAt q1 q2 p2.ext fun z => by
            obtain ⟨us, w⟩ := R.mtSome (p1.mt a z)
            rw [q4] at w; cases w
          exact ⟨a, ws, ev, k1, k2, dpAllMono p2.ext.f _ _ q3, q4⟩
      · intro a ds ev er n w es hw hes ew
        subst ev er
        obtain ⟨a', ws, ev, q1, q2, q3, q4⟩ := ro
        cases ev
        have z := d2.at hw hes
        subst ew
        obtain ⟨b, us, eb, _, _, _, q5⟩ := z
        cases eb
        rw [q5] at q1; cases q1
/-- one value more is stored -/
theorem storeG {F H H0 : Hp} {σ : Sg} {ρ : DE} {i : Nat} {v : V} {r : RV} (R : Rep K F H σ ρ) (ro : ResOk K F H H0 v r) (nm : ∀ a ds, v = .ref a → r = .new ds → ¬ Mt σ ρ a) :
    Rep K F H (σ.set i (some v)) (ρ.set i r.sv) ∧ ∀ j a, MutAt (σ.set i (some v)) (ρ.set i r.sv) j a → MutAt σ ρ j a ∨ (v = .ref a ∧ ∃ ds, r = .new ds) := by
  have hl := R.len
  have old : ∀ j a, j ≠ i → MutAt (σ.set i (some v)) (ρ.set i r.sv) j a → MutAt σ ρ j a := fun j a hj ⟨⟨ds, h1⟩, h2⟩ => by
    rw [List.getElem?_set_ne (Ne.symm hj)] at h1 h2
    exact ⟨⟨ds, h1⟩, h2⟩
  have new : ∀ a, MutAt (σ.set i (some v)) (ρ.set i r.sv) i a → v = .ref a ∧ ∃ ds, r = .new ds := fun a ⟨⟨ds, h1⟩, h2⟩ => by
    have e1 := get_set_self h1
    have e2 := get_set_self h2
    cases r with
    | dat d => cases e1
    | new es => exact ⟨(Option.some.inj e2).symm, es, rfl⟩
  refine ⟨⟨R.sub, by rw [List.length_set, List.length_set]; exact hl, fun j s hs => ?_, fun j l a x y => ?_⟩, fun j a z => ?_⟩
  · by_cases hj : j = i
    · subst hj
      have e1 := get_set_self hs
      have hlt := set_lt hs
      subst e1
      rw [List.getElem?_set_self (by omega)]
      cases r with
      | dat d => exact ⟨v, rfl, ro⟩
      | new ds =>
        obtain ⟨a, vs, rfl, h1, h2, h3, h4⟩ := ro
        exact ⟨a, vs, rfl, h1, h2, h3⟩
    · rw [List.getElem?_set_ne (Ne.symm hj)] at hs ⊢
      exact R.slot j s hs
  · by_cases hj : j = i
    · by_cases hl2 : l = i
      · rw [hj, hl2]
      · subst hj
        obtain ⟨ev, ds, er⟩ := new a x
        exact absurd ⟨l, old l a hl2 y⟩ (nm a ds ev er)
    · by_cases hl2 : l = i
      · subst hl2
        obtain ⟨ev, ds, er⟩ := new a y
        exact absurd ⟨j, old j a hj x⟩ (nm a ds ev er)
      · exact R.apart j l a (old j a hj x) (old l a hl2 y)
  · by_cases hj : j = i
    · subst hj; exact .inr (new a z)
    · exact .inl (old j a hj z)
def sParV (i j : Nat) (fs : List ED) : SD := fun ρ => match runV fs ρ with
  | some ([d, e], ρ1) => some (.nx, (ρ1.set i d.sv).set j e.sv)
  | _ => none
theorem s_parV (i j : Nat) {x y : Str} {a b : Expr} {fs : List ED} {px py pt pos : Pos} {kt k2 pt2} (ha : PAv Y [a, b] fs) (hiP : i ∉ P := by decide) (hjP : j ∉ P := by decide) (hi : ∀ l, (Y.X l).N[i]? = some x := by intro _; rfl) (hj : ∀ l, (Y.X l).N[j]? = some y := by intro _; rfl) (hij : i ≠ j := by decide)
    (hx : ∀ l, (Y.X l).env.scope.names.lookup x = some .local := by intro _; rfl) (hy : ∀ l, (Y.X l).env.scope.names.lookup y = some .local := by intro _; rfl)
    (hw : ∀ l, swappedStores [.Tuple [.Name x px, .Name y py] kt pt] (.Tuple [a, b] k2 pt2) (Y.X l).env = pure (some [x, y]) := by intro _; rfl)
    (hs : ∀ l, swapsWithSole [.Tuple [.Name x px, .Name y py] kt pt] (.Tuple [a, b] k2 pt2) pos.line (Y.X l).env = pure false := by intro _; rfl) :
    PSd P Y (.Assign [.Tuple [.Name x px, .Name y py] kt pt] (.Tuple [a, b] k2 pt2) pos) (sParV i j fs) := by
  obtain ⟨t, a1, a2⟩ := ha
  refine ⟨_, fun l => ps_par (Y.calm l) (Y.nd l) (hi l) (hj l) hij (hx l) (hy l) (a1 l) (hw l) (hs l), fun F H σ ρ ρ' fl D R e q => ?_⟩
  unfold sParV at e
  split at e
  · rename_i d1 d2 ρ1 e1
    cases e
    refine a2 F H σ ρ ρ1 _ _ R e1 fun vs F1 H1 p dd => ?_
    cases dd with
    | @cons v _ _ _ h1 n1 h2 =>
      cases h2 with
      | @cons w _ _ _ h2 n2 h3 =>
        cases h3
        have was : ∀ a, Mt σ ρ1 a → H a ≠ none := fun a z e => by
          obtain ⟨vs, q⟩ := R.mtSome (p.mt a z)
          rw [e] at q; cases q
        have free : ∀ {v : V} {r : RV}, ResOk K F1 H1 H v r → ∀ a ds, v = .ref a → r = .new ds → H a = none := fun ro a ds ev er => by
          subst ev er
          obtain ⟨b, ws, eb, _, _, _, q5⟩ := ro
          cases eb
          exact q5
        obtain ⟨R1, m1⟩ := storeG (i := i) p.rep h1 fun a ds ev er z => was a z (free h1 a ds ev er)
        obtain ⟨R2, m2⟩ := storeG (i := j) R1 h2 fun a ds ev er ⟨l, z⟩ => by
          rcases m1 l a z with z | ⟨ev2, es, er2⟩
          · exact was a ⟨l, z⟩ (free h2 a ds ev er)
          · exact n1 a es ev2 er2 0 w ds rfl (by rw [er]; rfl) ev
        refine ⟨v, w, rfl, q _ F1 H1 ⟨R2, p.ext, fun a ⟨l, z⟩ => ?_, fun l hl => ?_⟩⟩
        · rcases m2 l a z with z | ⟨ev, es, er⟩
          · rcases m1 l a z with z | ⟨ev, es, er⟩
            · exact .inl (p.mt a ⟨l, z⟩)
            · exact .inr (free h1 a es ev er)
          · exact .inr (free h2 a es ev er)
        · rw [List.getElem?_set_ne (fun e => hjP (by rw [e]; exact hl)), List.getElem?_set_ne (fun e => hiP (by rw [e]; exact hl))]
  · cases e
def sParV3 (i j m : Nat) (fs : List ED) : SD := fun ρ => match runV fs ρ with
  | some ([d, e, f], ρ1) => some (.nx, ((ρ1.set i d.sv).set j e.sv).set m f.sv)
  | _ => none
theorem s_parV3 (i j m : Nat) {x y z : Str} {a b c : Expr} {fs : List ED} {px py pz pt pos : Pos} {kt k2 pt2} (ha : PAv Y [a, b, c] fs) (hiP : i ∉ P := by decide) (hjP : j ∉ P := by decide) (hmP : m ∉ P := by decide) (hi : ∀ l, (Y.X l).N[i]? = some x := by intro _; rfl) (hj : ∀ l, (Y.X l).N[j]? = some y := by intro _; rfl) (hm : ∀ l, (Y.X l).N[m]? = some z := by intro _; rfl)
    (hij : i ≠ j := by decide) (him : i ≠ m := by decide) (hjm : j ≠ m := by decide)
    (hx : ∀ l, (Y.X l).env.scope.names.lookup x = some .local := by intro _; rfl) (hy : ∀ l, (Y.X l).env.scope.names.lookup y = some .local := by intro _; rfl) (hz : ∀ l, (Y.X l).env.scope.names.lookup z = some .local := by intro _; rfl)
    (hw : ∀ l, swappedStores [.Tuple [.Name x px, .Name y py, .Name z pz] kt pt] (.Tuple [a, b, c] k2 pt2) (Y.X l).env = pure (some [x, y, z]) := by intro _; rfl)
    (hs : ∀ l, swapsWithSole [.Tuple [.Name x px, .Name y py, .Name z pz] kt pt] (.Tuple [a, b, c] k2 pt2) pos.line (Y.X l).env = pure false := by intro _; rfl) :
    PSd P Y (.Assign [.Tuple [.Name x px, .Name y py, .Name z pz] kt pt] (.Tuple [a, b, c] k2 pt2) pos) (sParV3 i j m fs) := by
  obtain ⟨t, a1, a2⟩ := ha
  refine ⟨_, fun l => ps_par3 (Y.calm l) (Y.nd l) (hi l) (hj l) (hm l) hij him hjm (hx l) (hy l) (hz l) (a1 l) (hw l) (hs l), fun F H σ ρ ρ' fl D R e q => ?_⟩
  unfold sParV3 at e
  split at e
  · rename_i d1 d2 d3 ρ1 e1
    cases e
    refine a2 F H σ ρ ρ1 _ _ R e1 fun vs F1 H1 p dd => ?_
    cases dd with
    | @cons u _ _ _ h1 n1 h2 =>
      cases h2 with
      | @cons v _ _ _ h2 n2 h3 =>
        cases h3 with
        | @cons w _ _ _ h3 n3 h4 =>
          cases h4
          have was : ∀ a, Mt σ ρ1 a → H a ≠ none := fun a z e => by
            obtain ⟨vs, q⟩ := R.mtSome (p.mt a z)
            rw [e] at q; cases q
          have free : ∀ {v : V} {r : RV}, ResOk K F1 H1 H v r → ∀ a ds, v = .ref a → r = .new ds → H a = none := fun ro a ds ev er => by
            subst ev er
            obtain ⟨b, ws, eb, _, _, _, q5⟩ := ro
            cases eb
            exact q5
          obtain ⟨R1, m1⟩ := storeG (i := i) p.rep h1 fun a ds ev er z => was a z (free h1 a ds ev er)
          obtain ⟨R2, m2⟩ := storeG (i := j) R1 h2 fun a ds ev er ⟨l, z⟩ => by
            rcases m1 l a z with z | ⟨ev2, es, er2⟩
            · exact was a ⟨l, z⟩ (free h2 a ds ev er)
            · exact n1 a es ev2 er2 0 v ds rfl (by rw [er]; rfl) ev
          obtain ⟨R3, m3⟩ := storeG (i := m) R2 h3 fun a ds ev er ⟨l, z⟩ => by
            rcases m2 l a z with z | ⟨ev2, es, er2⟩
            · rcases m1 l a z with z | ⟨ev2, es, er2⟩
              · exact was a ⟨l, z⟩ (free h3 a ds ev er)
              · exact n1 a es ev2 er2 1 w ds rfl (by rw [er]; rfl) ev
            · exact n2 a es ev2 er2 0 w ds rfl (by rw [er]; rfl) ev
          refine ⟨u, v, w, rfl, q _ F1 H1 ⟨R3, p.ext, fun a ⟨l, z⟩ => ?_, fun l hl => ?_⟩⟩
          · rcases m3 l a z with z | ⟨ev, es, er⟩
            · rcases m2 l a z with z | ⟨ev, es, er⟩
              · rcases m1 l a z with z | ⟨ev, es, er⟩
                · exact .inl (p.mt a ⟨l, z⟩)
                · exact .inr (free h1 a es ev er)
              · exact .inr (free h2 a es ev er)
            · exact .inr (free h3 a es ev er)
          · rw [List.getElem?_set_ne (fun e => hmP (by rw [e]; exact hl)), List.getElem?_set_ne (fun e => hjP (by rw [e]; exact hl)), List.getElem?_set_ne (fun e => hiP (by rw [e]; exact hl))]
  · cases e
end
end DL
/-! DLi: the law's own call: from a def's promise over data to the row. -/
namespace DL
open PySem PySem.Spec PyProof.Rows L2
/-- the law answers True of each list of ints -/
def Tells (g : FD) (n : Nat) : Prop := ∀ ns : List Int, ns.length ≤ n → ∃ args', g [.dat (.list (ns.map .int))] = some (.dat (.bool true), args')
theorem callLaw {P : Program} {w : World} {K : KF} {mg mb : Str → Option Value} {k : Nat} {fa a : Addr} {fd : FuncData} {x : Str} {g : FD} {s : Shared} {vs : List Value} {ns : List Int} (n : Nat)
    (KX : K.In s.heap) (hns : s.heap.Ns mainGlobals mg) (hb : s.heap.Ns builtinsNs mb) (hbb : ∀ x : Str, x ≠ "__name__" → mb x = bootBuiltins x) (hlim : s.heap.NoLimit) (hg : s.gens = #[])
    (ha : s.heap.get? a = some { cls := .type "list", data := .seq vs.toArray }) (hi : IntsAre vs ns) (hl : ns.length ≤ sizeLine) (hn : ns.length ≤ n) (hr : Room k callerA)
    (F : ∀ base : Heap, K.In base → base.Ns mainGlobals mg → FnG P w K mg base k fa fd [x] (spD K 1 g)) (hbind : ∀ (s : Shared) (u : Value), BindsTo s fd ⟨[u], []⟩ [(x, u)])
    (T : Tells g n) :
    codeAny (model P w) callerA (.call (.ref fa) ⟨[.ref a], []⟩) (fun r s2 => r = .ok (.ret (.bool true)) ∧ OldK s.heap s2.heap ∧ s2.os = s.os ∧ AllBare s2.gens) s := by
  have rv := vals_ints hi
  have hlen := hi.length
  obtain ⟨args', eT⟩ := T ns hn
  have main : ∀ H : Hp, (∀ b, H b = none ∨ ∃ o xs, H b = some (.frz o (.lst xs))) → SqL K H a (ns.map V.int) → HOk P w H s.heap → (∀ b, H b ≠ none → b = a) → (H a ≠ none → K.lookup a = none) →
      codeAny (model P w) callerA (.call (.ref fa) ⟨[.ref a], []⟩) (fun r s2 => r = .ok (.ret (.bool true)) ∧ OldK s.heap s2.heap ∧ s2.os = s.os ∧ AllBare s2.gens) s := by
    intro H only seq hok one noK
    have old : ∀ {b : Addr} {o : Obj}, s.heap.get? b = some o → H b = none → (hidT s.heap H).get? b = some o := fun e z => hidT_get e z
    have free : ∀ {b : Addr} {o : Obj} {es : Array DictEntry} {ep : Nat}, s.heap.get? b = some o → o.data = .dict es ep → H b = none := fun {b o es ep} e d => by
      cases q : H b with
      | none => rfl
      | some u =>
        have eb : b = a := one b (by rw [q]; simp)
        subst eb
        rw [ha] at e; cases e
        exact (nomatch (show Data.seq vs.toArray _ = Data.dict es ep from d))
    have spaces : ∀ {b : Addr} {m : Str → Option Value}, s.heap.Ns b m → (hidT s.heap H).Ns b m := fun {b m} ⟨o, es, ep, e, d, r⟩ => ⟨o, es, ep, old e (free e d), d, r⟩
    have kin : K.In (hidT s.heap H) := fun b o e => old (KX b o e) (by
      cases q : H b with
      | none => rfl
      | some u =>
        have eb : b = a := one b (by rw [q]; simp)
        subst eb
        rw [noK (by rw [q]; simp)] at e; cases e)
    have md : Mod K mg (hidT s.heap H) := ⟨kin, spaces hns, ⟨mb, spaces hb, hbb⟩, let ⟨mc, h1, h2⟩ := hlim; ⟨mc, spaces h1, h2⟩⟩
    have e0 : Env0 P w K mg (hidT s.heap H) callerA [] s H := ⟨rfl, md, fun b o e => of_hidT e, Nat.le_of_eq (hidT_size _ _), trivial, fun b hb => absurd (show b ∈ ([] : List Addr) from hb) (by simp), hok, .of_eq hg⟩
    have rep : Rep K H H ([V.ref a].map some) [.dat (.list (ns.map .int))] := by
      refine ⟨Same.refl _, rfl, fun i x hx => ?_, fun i j b hb _ => ?_⟩
      · cases i with
        | zero =>
          have hx : SV.dat (.list (ns.map .int)) = x := by simpa using hx
          subst hx
          exact ⟨.ref a, rfl, .lst seq (dpIntsOf ns)⟩
        | succ i => simp at hx
      · obtain ⟨⟨ds, h1⟩, _⟩ := hb
        cases i with
        | zero => simp at h1
        | succ i => simp at h1
    have sp : spD K 1 g [.ref a] H (fun v _ => v = .bl true) E0 := ⟨rfl, H, _, args', _, rep, eT, fun v F' H' _ _ _ ro => by
      have d : Dp K F' v (.bool true) := ro
      cases d
      rfl⟩
    refine codeAny_mono ((F _ kin (spaces hns)).go callerA [] s H ⟨[.ref a], []⟩ [.ref a] [.ref a] _ hr rfl e0 (hbind s (.ref a)) (.cons rfl .nil) sp) fun r s2 h => ?_
    cases r with
    | error e => exact False.elim h
    | ok fl =>
      cases fl with
      | next => exact False.elim h
      | brk => exact False.elim h
      | cont => exact False.elim h
      | ret u =>
        obtain ⟨v, H2, os, bare, un, hok2, rl, q⟩ := h
        have q : v = .bl true := q
        subst q
        obtain rfl : u = Value.bool true := rl
        refine ⟨rfl, OldK.of_keep fun b o e => ?_, os, bare⟩
        cases q : H b with
        | none => exact un.keep b o e q (by intro z; exact absurd (show b ∈ ([] : List Addr) from z) (by simp)) (by simp)
        | some u =>
          rcases only b with z | ⟨ob, xs, z⟩
          · rw [q] at z; cases z
          · obtain ⟨e1, _⟩ := hok b _ z
            obtain ⟨e2, _⟩ := hok2 b _ (un.frzs b ob _ z)
            rw [e] at e1; cases e1
            exact e2
  cases hk : K.lookup a with
  | some o =>
    have e := KX a o hk
    rw [ha] at e
    cases e
    exact main (fun _ => none) (fun _ => .inl rfl) (.inr ⟨_, vs.toArray, _, hk, rfl, rfl, rfl, by rw [List.size_toArray, hlen]; exact hl, by simpa using rv⟩) (fun b u z => nomatch (show (none : Option HO) = some u from z)) (fun b z => absurd rfl z) fun z => absurd rfl z
  | none =>
    refine main (fun b => if b = a then some (.frz { cls := .type "list", data := .seq vs.toArray } (.lst (ns.map V.int))) else none) (fun b => ?_) (.inl (.inr ⟨{ cls := .type "list", data := .seq vs.toArray }, if_pos rfl⟩)) (fun b u z => ?_) (fun b z => ?_) fun _ => hk
    · by_cases hb : b = a
      · exact .inr ⟨_, _, if_pos hb⟩
      · exact .inl (if_neg hb)
    · by_cases hb : b = a
      · cases (if_pos hb).symm.trans z
        subst hb
        exact ⟨ha, by rw [List.length_map]; exact hl, vs, _, rv, ha⟩
      · cases (if_neg hb).symm.trans z
    · by_cases hb : b = a
      · exact hb
      · exact absurd (if_neg hb) z
/-- the goal behind the head -/
theorem walkLaw {l : PySem.W.OpenLaw} {n k : Nat} {q : Program} {loose : List Str} {XP : (Str → Option Value) → Heap → Prop} {YP : World → Heap → Prop} {d : DefRec} {K : Params → KF} {x : Str} {g : FD}
    (hn : l.most = some n) (hn2 : n ≤ sizeLine) (hdf : d.params.defaults = []) (hr : Room k callerA) (hY : ∀ (w : World) (h : Heap), YP w h → (K w.params).In h)
    (F : ∀ (w : World) (mg : Str → Option Value) (fa : Addr) (h : Heap), (K w.params).In h → h.Ns mainGlobals mg → mg d.name = some (.ref fa) →
      ∃ fd : FuncData, (∀ (s : Shared) (u : Value), BindsTo s fd ⟨[u], []⟩ [(x, u)]) ∧ ∀ base : Heap, (K w.params).In base → base.Ns mainGlobals mg → FnG l.prog w (K w.params) mg base k fa fd [x] (spD (K w.params) 1 g))
    (T : Tells g n) : PySem.W.WalkO q loose XP YP l.row.toRowW d [] (fun f vs => PySem.call f vs) := by
  refine Att.attach_call hn hdf fun w s₀ s₁ mg mb fa o pm cd doc a vs ns G Y ho hd hcd hmg hobj hints hlen hg => ?_
  have KX := hY w _ Y
  obtain ⟨fd, hb, hF⟩ := F w mg fa _ KX G.T.g hmg
  exact callLaw n KX G.T.g G.T.b G.T.builtins G.T.nolimit hg hobj hints (Nat.le_trans hlen hn2) hlen hr hF hb T
end DL
/-! DLj: the rules in short: what a program that prints derivations names. -/
namespace DL
open PySem PySem.Spec PyProof.Rows L2
/-- a def of the module, as it may be called by its name -/
structure Def (K : KF) (mg : Str → Option Value) (x : Str) (st : Stmt) (ps : List Str) (f : Addr) (fd : FuncData) : Prop where
  fn : Fun K x x st f fd
  at_ : mg x = some (.ref f)
  bd : Binds K fd ps []
/-- keywords that name the last parameters, in their order -/
def KB (K : KF) (fd : FuncData) (ps ks : List Str) (n : Nat) : Prop := ∀ (s : Shared) (us ws : List Value), us.length = n → ws.length = ks.length → BindsTo s fd ⟨us, ks.zip ws⟩ (ps.zip (us ++ ws))
theorem kb_of {K : KF} {x : Str} {st : Stmt} {f : Addr} {fd : FuncData} {ps ks : List Str} {n : Nat} (F : Fun K x x st f fd)
    (h : ∀ (kV doc pm : Value) (an : Option Addr) (cdv ct : Value) (us ws : List Value), us.length = n → ws.length = ks.length → bindArgs (PySem.W.fnOf x x (defArgs st) (defBody st) (defScope st) .none kV doc pm an cdv ct) ⟨us, ks.zip ws⟩ = pure (ps.zip (us ++ ws))) : KB K fd ps ks n := by
  obtain ⟨oc, od, kV, doc, pm, an, cdv, ct, osl, rfl, lk, hcd⟩ := F.ex
  exact fun s us ws h1 h2 => .of_eq (h kV doc pm an cdv ct us ws h1 h2)
section
variable {X : Cx}
def tApp (t tk : TA) : TA := fun σ H Q => t σ H fun vs H1 => tk σ H1 fun zs H2 => Q (vs ++ zs) H2
theorem run_fnG {pins : List (Addr × Obj)} {σ : Sg} {H : Hp} {s : Shared} {Q : VK} {us ws : List Value} {vs zs : List V} {kf n : Nat} {f : Addr} {fd : FuncData} {ps ks : List Str} {sp : Sp} (F : FnG X.prog X.w X.K X.mg X.base kf f fd ps sp) (hr : Room kf X.A) (hgd : X.A.guards = some []) (hb : KB X.K fd ps ks n)
    (hn : us.length = n) (hks : ws.length = ks.length) (I : L2.Inv X pins σ H s) (r : Vals vs us) (rz : Vals zs ws) (h : sp (vs ++ zs) H Q E0) : wpAny (model X.prog X.w) X.A (call (.ref f) us (ks.zip ws)) (EP X pins σ Q) X.xe s := by
  refine wpAny_call (codeAny_mono (F.go X.A X.stack s H ⟨us, ks.zip ws⟩ (us ++ ws) (vs ++ zs) Q hr hgd I.env0 (hb s us ws hn hks) (r.append rz) h) fun o s2 hs => ?_)
  cases o with
  | error z => exact (show False from hs).elim
  | ok fl =>
    cases fl with
    | next => exact (show False from hs).elim
    | brk => exact (show False from hs).elim
    | cont => exact (show False from hs).elim
    | ret u => exact I.after hs
/-- how many values come -/
def TLen (t : TA) (n : Nat) : Prop := ∀ (σ : Sg) (H : Hp) (Q : List V → Hp → Prop), t σ H Q → t σ H fun vs H1 => vs.length = n ∧ Q vs H1
theorem pe_callGK0 {kf : Nat} {f : Addr} {fd : FuncData} {ps ks : List Str} {sp : Sp} {x : Str} {p pos : Pos} {kws : List Keyword} {tk : TA} (F : FnG X.prog X.w X.K X.mg X.base kf f fd ps sp) (hr : Room kf X.A) (hgd : X.A.guards = some []) (hg : Gl X x) (hm : X.mg x = some (.ref f))
    (hk : PySem.W.keepIn X.K (.ref f) = true) (hb : KB X.K fd ps ks 0) (hlen : ∀ vs H Q, sp vs H Q E0 → vs.length = ks.length) (hkw : PK X kws tk) (hdb : (x == ("__debug__" : Str)) = false)
    (hall : (backToKw pos (keywordEach kws X.env)).all (·.1.isSome) = true) (hks : (backToKw pos (keywordEach kws X.env)).filterMap (·.1) = ks) (hpl : ((backTo pos (starEach [] X.env)).any (·.1) || (backToKw pos (keywordEach kws X.env)).any (·.1.isNone)) = false) :
    PE X (.Call (.Name x p) [] kws pos) (tCall sp [] E0 tk) := by
  refine ⟨fun pins s σ H Q I h => ?_⟩
  refine wpAny_Call_Name_kw (ld_glob I hg hm ?_ hdb)
  refine PySem.W.callWith_KW0 (h₀ := X.base) I.ok.mod.kin hk hall (thn (hkw.run pos pins s σ H _ I h) fun ws s2 ⟨zs, H2, I2, rz, q2⟩ => ⟨I2.kIn, ?_⟩) hpl
  rw [hks]
  have q2 : sp (zs ++ []) H2 Q E0 := q2
  rw [List.append_nil] at q2
  exact run_fnG (us := []) (vs := []) F hr hgd hb rfl (by rw [← rz.length]; exact hlen _ _ _ q2) I2 .nil rz q2
end
section
variable {K : KF} {k : Nat} {P : List Nat} {Y : Fm K k}
/-! ### keywords -/
variable (Y) in
def PKd (kws : List Keyword) (as : List Ar) : Prop := ∃ t, (∀ i, PK (Y.X i) kws t) ∧ ServesA K t as
theorem k_nil : PKd Y [] [] := ⟨_, fun _ => pk_nil, fun F H σ ρ ρ' xs Q R e q => by
  cases e
  exact q [] F H (PostE.refl R) .nil⟩
theorem k_cons {e : Expr} {f : ED} {as : List Ar} {nm : Option Str} {kpos : Pos} {kws : List Keyword} (h1 : PEd Y e f) (h2 : PKd Y kws as) : PKd Y (⟨nm, e, kpos⟩ :: kws) (.ex f :: as) := by
  obtain ⟨t, a1, a2⟩ := h1
  obtain ⟨u, b1, b2⟩ := h2
  refine ⟨_, fun i => pk_cons (a1 i) (b1 i), fun F H σ ρ ρ' xs Q R e q => ?_⟩
  unfold runA at e
  cases e1 : f ρ with
  | none => rw [e1] at e; cases e
  | some p1 =>
    obtain ⟨r, ρ1⟩ := p1
    rw [e1] at e
    simp only at e
    cases e2 : runA as ρ1 with
    | none => rw [e2] at e; cases e
    | some p2 =>
      obtain ⟨ys, ρ2⟩ := p2
      rw [e2] at e
      cases e
      refine a2.d R e1 fun v F1 H1 p1 d1 => ?_
      refine b2 F1 H1 σ ρ1 ρ' ys _ p1.rep e2 fun vs F2 H2 p2 d2 => ?_
      exact q (v :: vs) F2 H2 (p1.trans p2) (.cons (dpMono p2.ext.f _ _ d1) d2)
/-- f(k = e, ..): all the parameters, in their order -/
theorem d_callK {f : Addr} {fd : FuncData} {ps : List Str} {n kf : Nat} {g : FD} {x : Str} {st : Stmt} {mg : Str → Option Value} {p pos : Pos} {kws : List Keyword} {as : List Ar} (D : Def K mg x st ps f fd) (F : ∀ i, FnG (Y.X i).prog (Y.X i).w (Y.X i).K (Y.X i).mg (Y.X i).base kf f fd ps (spD K n g)) (ha : PKd Y kws as)
    (hb : KB K fd ps ps 0) (hn : ∀ args r, g args = some r → args.length = n := by exact fnD_len) (hl : n = ps.length := by rfl)
    (hm : ∀ i, (Y.X i).mg = mg := by intro _; rfl) (hk : kf ≤ k := by decide) (hg : ∀ i, Gl (Y.X i) x := by intro _; rfl) (hdb : (x == ("__debug__" : Str)) = false := by decide)
    (hall : ∀ i, (backToKw pos (keywordEach kws (Y.X i).env)).all (·.1.isSome) = true := by intro _; rfl) (hks : ∀ i, (backToKw pos (keywordEach kws (Y.X i).env)).filterMap (·.1) = ps := by intro _; rfl)
    (hpl : ∀ i, ((backTo pos (starEach [] (Y.X i).env)).any (·.1) || (backToKw pos (keywordEach kws (Y.X i).env)).any (·.1.isNone)) = false := by intro _; rfl) : PEd Y (.Call (.Name x p) [] kws pos) (eDef g as) := by
  obtain ⟨t, a1, a2⟩ := ha
  refine ⟨_, fun i => pe_callGK0 (F i) ((Y.room i).mono hk) (Y.gd i) (hg i) (by rw [hm i]; exact D.at_) (by rw [Y.hK i]; exact D.fn.kp) (by rw [Y.hK i]; exact hb) (fun vs H Q h => h.1.trans hl) (a1 i) hdb (hall i) (hks i) (hpl i), serves_def hn a2⟩
/-- f(e, ..) -/
theorem d_call {f : Addr} {fd : FuncData} {ps : List Str} {n kf : Nat} {g : FD} {x : Str} {st : Stmt} {mg : Str → Option Value} {p pos : Pos} {e : Expr} {es : List Expr} {as : List Ar} (D : Def K mg x st ps f fd) (F : ∀ i, FnG (Y.X i).prog (Y.X i).w (Y.X i).K (Y.X i).mg (Y.X i).base kf f fd ps (spD K n g)) (ha : PAd Y (e :: es) as)
    (hn : ∀ args r, g args = some r → args.length = n := by exact fnD_len) (hm : ∀ i, (Y.X i).mg = mg := by intro _; rfl) (hk : kf ≤ k := by decide) (hg : ∀ i, Gl (Y.X i) x := by intro _; rfl) (hdb : (x == ("__debug__" : Str)) = false := by decide)
    (he : ∀ i, starEach (e :: es) (Y.X i).env = (false, eval e (Y.X i).env) :: starEach es (Y.X i).env := by intro _; rfl) (hpl : ∀ i, (backTo pos (starEach es (Y.X i).env)).any (·.1) = false := by intro _; rfl) : PEd Y (.Call (.Name x p) (e :: es) [] pos) (eDef g as) :=
  d_def F hn (fun i => by rw [hm i]; exact D.at_) D.fn.kp D.bd ha hk hg hdb he hpl
/-! ### operators -/
section
variable {a b : Expr} {pos : Pos} {f g : ED}
theorem d_add (ha : PEd Y a f) (hb : PEd Y b g) : PEd Y (.BinOp a .Add b pos) (eOp addD f g) := d_op (fun i => by have z := op_addAny (X := Y.X i); rw [Y.hK i] at z; exact z) s_add ha hb
theorem d_sub (ha : PEd Y a f) (hb : PEd Y b g) : PEd Y (.BinOp a .Sub b pos) (eOp subD f g) := d_op (fun _ => op_sub) s_sub ha hb
theorem d_mul (ha : PEd Y a f) (hb : PEd Y b g) : PEd Y (.BinOp a .Mult b pos) (eOp mulD f g) := d_op (fun _ => op_mulW) s_mul ha hb
theorem d_div (ha : PEd Y a f) (hb : PEd Y b g) : PEd Y (.BinOp a .FloorDiv b pos) (eOp divD f g) := d_op (fun _ => op_fdivW) s_div ha hb
theorem d_mod (ha : PEd Y a f) (hb : PEd Y b g) : PEd Y (.BinOp a .Mod b pos) (eOp modD f g) := d_op (fun _ => op_mod) s_mod ha hb
theorem d_pow (ha : PEd Y a f) (hb : PEd Y b g) : PEd Y (.BinOp a .Pow b pos) (eOp powD f g) := d_op (fun _ => op_powW) s_pow ha hb
theorem d_eq (ha : PEd Y a f) (hb : PEd Y b g) (hm : behindInMarks .Eq b = false := by first | exact nomark _ | rfl) : PEd Y (.Compare a [.Eq] [b] pos) (eOp eqD f g) := d_cmp (fun i => by have z := op_eq.or (op_eqD (X := Y.X i) (Y.room i).units); rw [Y.hK i] at z; exact z) s_eq ha hb hm
theorem d_ne (ha : PEd Y a f) (hb : PEd Y b g) (hm : behindInMarks .NotEq b = false := by first | exact nomark _ | rfl) : PEd Y (.Compare a [.NotEq] [b] pos) (eOp neD f g) := d_cmp (fun i => by have z := op_ne.or (op_neD (X := Y.X i) (Y.room i).units); rw [Y.hK i] at z; exact z) s_ne ha hb hm
theorem d_lt (ha : PEd Y a f) (hb : PEd Y b g) (hm : behindInMarks .Lt b = false := by first | exact nomark _ | rfl) : PEd Y (.Compare a [.Lt] [b] pos) (eOp ltD f g) := d_cmp (fun _ => op_lt) s_lt ha hb hm
theorem d_le (ha : PEd Y a f) (hb : PEd Y b g) (hm : behindInMarks .LtE b = false := by first | exact nomark _ | rfl) : PEd Y (.Compare a [.LtE] [b] pos) (eOp leD f g) := d_cmp (fun _ => op_le) s_le ha hb hm
theorem d_gt (ha : PEd Y a f) (hb : PEd Y b g) (hm : behindInMarks .Gt b = false := by first | exact nomark _ | rfl) : PEd Y (.Compare a [.Gt] [b] pos) (eOp gtD f g) := d_cmp (fun _ => op_gt) s_gt ha hb hm
theorem d_ge (ha : PEd Y a f) (hb : PEd Y b g) (hm : behindInMarks .GtE b = false := by first | exact nomark _ | rfl) : PEd Y (.Compare a [.GtE] [b] pos) (eOp geD f g) := d_cmp (fun _ => op_ge) s_ge ha hb hm
theorem d_isN (ha : PEd Y a f) (hb : PEd Y b g) (hm : behindInMarks .Is b = false := by first | exact nomark _ | rfl) : PEd Y (.Compare a [.Is] [b] pos) (eOp isND f g) := d_cmp (fun _ => op_isN) s_isN ha hb hm
theorem d_notN (ha : PEd Y a f) (hb : PEd Y b g) (hm : behindInMarks .IsNot b = false := by first | exact nomark _ | rfl) : PEd Y (.Compare a [.IsNot] [b] pos) (eOp notND f g) := d_cmp (fun _ => op_notN) s_notN ha hb hm
theorem d_item (ha : PEd Y a f) (hb : PEd Y b g) (hp : PlainIx b := by intro _ _; rfl) : PEd Y (.Subscript a b pos) (eOp ixD f g) := d_ix (fun i => by have z := ix_seq (X := Y.X i); rw [Y.hK i] at z; exact z) s_ix ha hb hp
end
theorem d_chainLeLe {a b c : Expr} {pos : Pos} {f g h : ED} (ha : PEd Y a f) (hb : PEd Y b g) (hc : PEd Y c h) (hm : lastMarks [.LtE, .LtE] [b, c] = false := by rfl) : PEd Y (.Compare a [.LtE, .LtE] [b, c] pos) (eChain leD leD f g h) := d_chain (fun _ => op_le) s_le (fun _ => op_le) s_le ha hb hc hm
theorem d_chainLeLt {a b c : Expr} {pos : Pos} {f g h : ED} (ha : PEd Y a f) (hb : PEd Y b g) (hc : PEd Y c h) (hm : lastMarks [.LtE, .Lt] [b, c] = false := by rfl) : PEd Y (.Compare a [.LtE, .Lt] [b, c] pos) (eChain leD ltD f g h) := d_chain (fun _ => op_le) s_le (fun _ => op_lt) s_lt ha hb hc hm
theorem d_chainLtLt {a b c : Expr} {pos : Pos} {f g h : ED} (ha : PEd Y a f) (hb : PEd Y b g) (hc : PEd Y c h) (hm : lastMarks [.Lt, .Lt] [b, c] = false := by rfl) : PEd Y (.Compare a [.Lt, .Lt] [b, c] pos) (eChain ltD ltD f g h) := d_chain (fun _ => op_lt) s_lt (fun _ => op_lt) s_lt ha hb hc hm
theorem d_chainLtLe {a b c : Expr} {pos : Pos} {f g h : ED} (ha : PEd Y a f) (hb : PEd Y b g) (hc : PEd Y c h) (hm : lastMarks [.Lt, .LtE] [b, c] = false := by rfl) : PEd Y (.Compare a [.Lt, .LtE] [b, c] pos) (eChain ltD leD f g h) := d_chain (fun _ => op_lt) s_lt (fun _ => op_le) s_le ha hb hc hm
/-! ### built-ins -/
theorem bl_len : bootBuiltins "len" = some (.builtin "len") := by decide +kernel
theorem bl_abs : bootBuiltins "abs" = some (.builtin "abs") := by decide +kernel
theorem bl_max : bootBuiltins "max" = some (.builtin "max") := by decide +kernel
theorem bl_min : bootBuiltins "min" = some (.builtin "min") := by decide +kernel
theorem bl_sum : bootBuiltins "sum" = some (.builtin "sum") := by decide +kernel
theorem bl_all : bootBuiltins "all" = some (.builtin "all") := by decide +kernel
theorem bl_any : bootBuiltins "any" = some (.builtin "any") := by decide +kernel
theorem bl_repr : bootBuiltins "repr" = some (.builtin "repr") := by decide +kernel
theorem bl_sorted : bootBuiltins "sorted" = some (.builtin "sorted") := by decide +kernel
theorem bl_int : bootBuiltins "int" = some (.type "int") := by decide +kernel
theorem bl_tuple : bootBuiltins "tuple" = some (.type "tuple") := by decide +kernel
theorem bl_list : bootBuiltins "list" = some (.type "list") := by decide +kernel
theorem bl_bool : bootBuiltins "bool" = some (.type "bool") := by decide +kernel
theorem bl_str : bootBuiltins "str" = some (.type "str") := by decide +kernel
section
variable {p pos : Pos} {e : Expr} {es : List Expr} {as : List Ar}
theorem b_len (hm : ∀ i, (Y.X i).mg "len" = none) (ha : PAd Y [e] as) (hg : ∀ i, Gl (Y.X i) "len" := by intro _; rfl) (he : ∀ i, starEach [e] (Y.X i).env = (false, eval e (Y.X i).env) :: starEach [] (Y.X i).env := by intro _; rfl) (hpl : ∀ i, (backTo pos (starEach [] (Y.X i).env)).any (·.1) = false := by intro _; rfl) : PEd Y (.Call (.Name "len" p) [e] [] pos) (eCall lenD as) :=
  d_callB (fun i => by have z := call_lenA (X := Y.X i); rw [Y.hK i] at z; exact z) s_len hm bl_len ha hg (by decide) (by decide) he hpl
theorem b_abs (hm : ∀ i, (Y.X i).mg "abs" = none) (ha : PAd Y [e] as) (hg : ∀ i, Gl (Y.X i) "abs" := by intro _; rfl) (he : ∀ i, starEach [e] (Y.X i).env = (false, eval e (Y.X i).env) :: starEach [] (Y.X i).env := by intro _; rfl) (hpl : ∀ i, (backTo pos (starEach [] (Y.X i).env)).any (·.1) = false := by intro _; rfl) : PEd Y (.Call (.Name "abs" p) [e] [] pos) (eCall absD as) :=
  d_callB (fun _ => call_abs) s_abs hm bl_abs ha hg (by decide) (by decide) he hpl
theorem b_max {e2 : Expr} (hm : ∀ i, (Y.X i).mg "max" = none) (ha : PAd Y [e, e2] as) (hg : ∀ i, Gl (Y.X i) "max" := by intro _; rfl) (he : ∀ i, starEach [e, e2] (Y.X i).env = (false, eval e (Y.X i).env) :: starEach [e2] (Y.X i).env := by intro _; rfl) (hpl : ∀ i, (backTo pos (starEach [e2] (Y.X i).env)).any (·.1) = false := by intro _; rfl) : PEd Y (.Call (.Name "max" p) [e, e2] [] pos) (eCall maxD2 as) :=
  d_callB (fun i => call_max2 (Y.calm i)) s_max2 hm bl_max ha hg (by decide) (by decide) he hpl
theorem b_min {e2 : Expr} (hm : ∀ i, (Y.X i).mg "min" = none) (ha : PAd Y [e, e2] as) (hg : ∀ i, Gl (Y.X i) "min" := by intro _; rfl) (he : ∀ i, starEach [e, e2] (Y.X i).env = (false, eval e (Y.X i).env) :: starEach [e2] (Y.X i).env := by intro _; rfl) (hpl : ∀ i, (backTo pos (starEach [e2] (Y.X i).env)).any (·.1) = false := by intro _; rfl) : PEd Y (.Call (.Name "min" p) [e, e2] [] pos) (eCall minD2 as) :=
  d_callB (fun i => call_min2 (Y.calm i)) s_min2 hm bl_min ha hg (by decide) (by decide) he hpl
theorem b_sum (hm : ∀ i, (Y.X i).mg "sum" = none) (ha : PAd Y [e] as) (hg : ∀ i, Gl (Y.X i) "sum" := by intro _; rfl) (he : ∀ i, starEach [e] (Y.X i).env = (false, eval e (Y.X i).env) :: starEach [] (Y.X i).env := by intro _; rfl) (hpl : ∀ i, (backTo pos (starEach [] (Y.X i).env)).any (·.1) = false := by intro _; rfl) : PEd Y (.Call (.Name "sum" p) [e] [] pos) (eCall sumD as) :=
  d_callB (fun i => by have z := call_sumA (X := Y.X i) (Y.calm i); rw [Y.hK i] at z; exact z) s_sum hm bl_sum ha hg (by decide) (by decide) he hpl
theorem b_all (hm : ∀ i, (Y.X i).mg "all" = none) (ha : PAd Y [e] as) (hg : ∀ i, Gl (Y.X i) "all" := by intro _; rfl) (he : ∀ i, starEach [e] (Y.X i).env = (false, eval e (Y.X i).env) :: starEach [] (Y.X i).env := by intro _; rfl) (hpl : ∀ i, (backTo pos (starEach [] (Y.X i).env)).any (·.1) = false := by intro _; rfl) : PEd Y (.Call (.Name "all" p) [e] [] pos) (eCall allD as) :=
  d_callB (fun i => by have z := cr_all (X := Y.X i) (Y.calm i); rw [Y.hK i] at z; exact z) s_all hm bl_all ha hg (by decide) (by decide) he hpl
theorem b_any (hm : ∀ i, (Y.X i).mg "any" = none) (ha : PAd Y [e] as) (hg : ∀ i, Gl (Y.X i) "any" := by intro _; rfl) (he : ∀ i, starEach [e] (Y.X i).env = (false, eval e (Y.X i).env) :: starEach [] (Y.X i).env := by intro _; rfl) (hpl : ∀ i, (backTo pos (starEach [] (Y.X i).env)).any (·.1) = false := by intro _; rfl) : PEd Y (.Call (.Name "any" p) [e] [] pos) (eCall anyD as) :=
  d_callB (fun i => by have z := cr_any (X := Y.X i) (Y.calm i); rw [Y.hK i] at z; exact z) s_any hm bl_any ha hg (by decide) (by decide) he hpl
theorem b_repr (hm : ∀ i, (Y.X i).mg "repr" = none) (ha : PAd Y [e] as) (hg : ∀ i, Gl (Y.X i) "repr" := by intro _; rfl) (he : ∀ i, starEach [e] (Y.X i).env = (false, eval e (Y.X i).env) :: starEach [] (Y.X i).env := by intro _; rfl) (hpl : ∀ i, (backTo pos (starEach [] (Y.X i).env)).any (·.1) = false := by intro _; rfl) : PEd Y (.Call (.Name "repr" p) [e] [] pos) (eCall reprD as) :=
  d_callB (fun i => by have z := call_repr (X := Y.X i) (Y.gd i) (Y.room i).units; rw [Y.hK i] at z; exact z) s_repr hm bl_repr ha hg (by decide) (by decide) he hpl
theorem b_sorted (hm : ∀ i, (Y.X i).mg "sorted" = none) (ha : PAd Y [e] as) (hg : ∀ i, Gl (Y.X i) "sorted" := by intro _; rfl) (he : ∀ i, starEach [e] (Y.X i).env = (false, eval e (Y.X i).env) :: starEach [] (Y.X i).env := by intro _; rfl) (hpl : ∀ i, (backTo pos (starEach [] (Y.X i).env)).any (·.1) = false := by intro _; rfl) : PEd Y (.Call (.Name "sorted" p) [e] [] pos) (eCall sortedAD as) :=
  d_callB (fun i => by have z := call_sortedA (X := Y.X i); rw [Y.hK i] at z; exact z) s_sortedA hm bl_sorted ha hg (by decide) (by decide) he hpl
theorem b_int (hm : ∀ i, (Y.X i).mg "int" = none) (ha : PAd Y [e] as) (hg : ∀ i, Gl (Y.X i) "int" := by intro _; rfl) (he : ∀ i, starEach [e] (Y.X i).env = (false, eval e (Y.X i).env) :: starEach [] (Y.X i).env := by intro _; rfl) (hpl : ∀ i, (backTo pos (starEach [] (Y.X i).env)).any (·.1) = false := by intro _; rfl) : PEd Y (.Call (.Name "int" p) [e] [] pos) (eCall intD as) :=
  d_callTy (fun _ => call_int1) s_int hm bl_int ha hg (by decide) (by decide) he hpl
theorem b_tuple (hm : ∀ i, (Y.X i).mg "tuple" = none) (ha : PAd Y [e] as) (hg : ∀ i, Gl (Y.X i) "tuple" := by intro _; rfl) (he : ∀ i, starEach [e] (Y.X i).env = (false, eval e (Y.X i).env) :: starEach [] (Y.X i).env := by intro _; rfl) (hpl : ∀ i, (backTo pos (starEach [] (Y.X i).env)).any (·.1) = false := by intro _; rfl) : PEd Y (.Call (.Name "tuple" p) [e] [] pos) (eCall tupleD as) :=
  d_callTy (fun i => by have z := call_tupF (X := Y.X i); rw [Y.hK i] at z; exact z) s_tuple hm bl_tuple ha hg (by decide) (by decide) he hpl
theorem b_list (hm : ∀ i, (Y.X i).mg "list" = none) (ha : PAd Y [e] as) (hg : ∀ i, Gl (Y.X i) "list" := by intro _; rfl) (he : ∀ i, starEach [e] (Y.X i).env = (false, eval e (Y.X i).env) :: starEach [] (Y.X i).env := by intro _; rfl) (hpl : ∀ i, (backTo pos (starEach [] (Y.X i).env)).any (·.1) = false := by intro _; rfl) : PEd Y (.Call (.Name "list" p) [e] [] pos) (eCall listD as) :=
  d_callTy (fun i => by have z := call_list_of (X := Y.X i); rw [Y.hK i] at z; exact z) s_list hm bl_list ha hg (by decide) (by decide) he hpl
end
/-! ### a list or a tuple, walked -/
def iAny (f : ED) : ID := fun ρ => match f ρ with
  | some (r, ρ1) => (match r.d with
    | .list ds => some (ds, ρ1)
    | .tuple ds => some (ds, ρ1)
    | _ => none)
  | none => none
theorem i_any {tg e : Expr} {f : ED} (h : PEd Y e f) : PId Y tg e (iAny f) := by
  obtain ⟨w1, a1, a2⟩ := i_list (tg := tg) h
  obtain ⟨w2, b1, b2⟩ := i_tup (tg := tg) h
  refine ⟨fun σ H R => w1 σ H R ∨ w2 σ H R, fun i => ⟨fun pins s σ H R I h => ?_⟩, fun F H σ ρ ρ' ds R Rp e q => ?_⟩
  · rcases h with h | h
    · exact (a1 i).run pins s σ H R I h
    · exact (b1 i).run pins s σ H R I h
  · unfold iAny at e
    split at e
    · rename_i r ρ1 e1
      split at e
      · rename_i es er
        exact .inl (a2 F H σ ρ ρ' ds R Rp (by unfold iSeq; rw [e1]; simp only [er]; exact e) q)
      · rename_i es er
        exact .inr (b2 F H σ ρ ρ' ds R Rp (by unfold iTupD; rw [e1]; simp only [er]; exact e) q)
      · cases e
    · cases e
/-! ### in short -/
def eNeg (f : ED) : ED := fun ρ => match f ρ with
  | some (.dat (.int i), ρ1) => some (.dat (.int (-i)), ρ1)
  | _ => none
theorem d_neg {a : Expr} {f : ED} {pos : Pos} (h : PEd Y a f) : PEd Y (.UnaryOp .USub a pos) (eNeg f) := by
  obtain ⟨t, a1, a2⟩ := h
  refine ⟨_, fun i => pe_un un_neg (a1 i), fun F H σ ρ ρ' rv Q R e q => ?_⟩
  unfold eNeg at e
  split at e
  · rename_i i ρ1 e1
    cases e
    refine a2 F H σ ρ ρ' _ _ R e1 fun v F1 H1 p d => ?_
    have d : Dp K F1 v (.int i) := d
    cases d
    exact ⟨i, rfl, q _ F1 H1 p (.int _)⟩
  · cases e
theorem oy_eq : ∀ i, OpR (Y.X i) (compareOp .Eq) (rEqAn K) := fun i => by have z := op_eq.or (op_eqD (X := Y.X i) (Y.room i).units); rw [Y.hK i] at z; exact z
theorem oy_ne : ∀ i, OpR (Y.X i) (compareOp .NotEq) (rNeAn K) := fun i => by have z := op_ne.or (op_neD (X := Y.X i) (Y.room i).units); rw [Y.hK i] at z; exact z
section
variable {a b : Expr} {pos : Pos} {f g : ED}
theorem t_eq (ha : PEd Y a f) (hb : PEd Y b g) (hm : behindInMarks .Eq b = false := by first | exact nomark _ | rfl) : PTd Y (.Compare a [.Eq] [b] pos) (tV (eOp eqD f g)) := t_cmp oy_eq s_eq ha hb hm
theorem t_ne (ha : PEd Y a f) (hb : PEd Y b g) (hm : behindInMarks .NotEq b = false := by first | exact nomark _ | rfl) : PTd Y (.Compare a [.NotEq] [b] pos) (tV (eOp neD f g)) := t_cmp oy_ne s_ne ha hb hm
theorem t_lt (ha : PEd Y a f) (hb : PEd Y b g) (hm : behindInMarks .Lt b = false := by first | exact nomark _ | rfl) : PTd Y (.Compare a [.Lt] [b] pos) (tV (eOp ltD f g)) := t_cmp (fun _ => op_lt) s_lt ha hb hm
theorem t_le (ha : PEd Y a f) (hb : PEd Y b g) (hm : behindInMarks .LtE b = false := by first | exact nomark _ | rfl) : PTd Y (.Compare a [.LtE] [b] pos) (tV (eOp leD f g)) := t_cmp (fun _ => op_le) s_le ha hb hm
theorem t_gt (ha : PEd Y a f) (hb : PEd Y b g) (hm : behindInMarks .Gt b = false := by first | exact nomark _ | rfl) : PTd Y (.Compare a [.Gt] [b] pos) (tV (eOp gtD f g)) := t_cmp (fun _ => op_gt) s_gt ha hb hm
theorem t_ge (ha : PEd Y a f) (hb : PEd Y b g) (hm : behindInMarks .GtE b = false := by first | exact nomark _ | rfl) : PTd Y (.Compare a [.GtE] [b] pos) (tV (eOp geD f g)) := t_cmp (fun _ => op_ge) s_ge ha hb hm
theorem t_isN (ha : PEd Y a f) (hb : PEd Y b g) (hm : behindInMarks .Is b = false := by first | exact nomark _ | rfl) : PTd Y (.Compare a [.Is] [b] pos) (tV (eOp isND f g)) := t_cmp (fun _ => op_isN) s_isN ha hb hm
theorem t_notN (ha : PEd Y a f) (hb : PEd Y b g) (hm : behindInMarks .IsNot b = false := by first | exact nomark _ | rfl) : PTd Y (.Compare a [.IsNot] [b] pos) (tV (eOp notND f g)) := t_cmp (fun _ => op_notN) s_notN ha hb hm
theorem t_chainLeLe {c : Expr} {h : ED} (ha : PEd Y a f) (hb : PEd Y b g) (hc : PEd Y c h) (hm : lastMarks [.LtE, .LtE] [b, c] = false := by rfl) : PTd Y (.Compare a [.LtE, .LtE] [b, c] pos) (tV (eChain leD leD f g h)) := t_chain (fun _ => op_le) s_le (fun _ => op_le) s_le ha hb hc hm
theorem t_chainLeLt {c : Expr} {h : ED} (ha : PEd Y a f) (hb : PEd Y b g) (hc : PEd Y c h) (hm : lastMarks [.LtE, .Lt] [b, c] = false := by rfl) : PTd Y (.Compare a [.LtE, .Lt] [b, c] pos) (tV (eChain leD ltD f g h)) := t_chain (fun _ => op_le) s_le (fun _ => op_lt) s_lt ha hb hc hm
theorem t_chainLtLt {c : Expr} {h : ED} (ha : PEd Y a f) (hb : PEd Y b g) (hc : PEd Y c h) (hm : lastMarks [.Lt, .Lt] [b, c] = false := by rfl) : PTd Y (.Compare a [.Lt, .Lt] [b, c] pos) (tV (eChain ltD ltD f g h)) := t_chain (fun _ => op_lt) s_lt (fun _ => op_lt) s_lt ha hb hc hm
theorem t_chainLtLe {c : Expr} {h : ED} (ha : PEd Y a f) (hb : PEd Y b g) (hc : PEd Y c h) (hm : lastMarks [.Lt, .LtE] [b, c] = false := by rfl) : PTd Y (.Compare a [.Lt, .LtE] [b, c] pos) (tV (eChain ltD leD f g h)) := t_chain (fun _ => op_lt) s_lt (fun _ => op_le) s_le ha hb hc hm
end
end
end DL
/-! DLk: for the plain part: what mirrors come to. -/
namespace DL
open PySem PySem.Spec PyProof.Rows L2
/-! ### kinds -/
theorem kb1 : kitB "int" "int" = some true := by decide +kernel
theorem kb2 : kitB "int" "bool" = some false := by decide +kernel
theorem kb3 : kitB "bool" "bool" = some true := by decide +kernel
theorem kb4 : kitB "bool" "int" = some true := by decide +kernel
theorem kb5 : kitB "tuple" "tuple" = some true := by decide +kernel
theorem kb6 : kitB "tuple" "int" = some false := by decide +kernel
theorem kb7 : kitB "list" "tuple" = some false := by decide +kernel
theorem kb8 : kitB "int" "tuple" = some false := by decide +kernel
theorem kb9 : kitB "NoneType" "tuple" = some false := by decide +kernel
theorem kb10 : kitB "str" "tuple" = some false := by decide +kernel
theorem kb11 : kitB "bool" "tuple" = some false := by decide +kernel
theorem kb12 : kitB "str" "int" = some false := by decide +kernel
theorem kb13 : kitB "list" "int" = some false := by decide +kernel
theorem kb14 : kitB "NoneType" "int" = some false := by decide +kernel
/-! ### operators at ints -/
theorem ap_sub (i j : Int) : subD (.int i) (.int j) = some (.dat (.int (i - j))) := rfl
theorem ap_lt (i j : Int) : ltD (.int i) (.int j) = some (.dat (.bool (decide (i < j)))) := rfl
theorem ap_le (i j : Int) : leD (.int i) (.int j) = some (.dat (.bool (decide (i ≤ j)))) := rfl
theorem ap_gt (i j : Int) : gtD (.int i) (.int j) = some (.dat (.bool (decide (j < i)))) := rfl
theorem ap_ge (i j : Int) : geD (.int i) (.int j) = some (.dat (.bool (decide (j ≤ i)))) := rfl
theorem ap_add (i j : Int) : addD (.int i) (.int j) = some (.dat (.int (i + j))) := rfl
theorem ap_mul (i j : Int) : mulD (.int i) (.int j) = if bitsOk i j then some (.dat (.int (i * j))) else none := rfl
theorem ap_div (i j : Int) : divD (.int i) (.int j) = if divOk i j then some (.dat (.int (i / j))) else none := rfl
theorem ap_mod (i j : Int) : modD (.int i) (.int j) = if decide (0 < j) then some (.dat (.int (i % j))) else none := rfl
theorem ap_pow (i j : Int) : powD (.int i) (.int j) = if powOk i j then some (.dat (.int (i ^ j.toNat))) else none := rfl
/-! ### sizes -/
theorem log2_lt {n k : Nat} (h : n < 2 ^ k) (hk : 0 < k) : n.log2 < k := PySem.Flt.log2_lt_of hk h
theorem bits_of {i j : Int} (a b : Nat) (hi : i.natAbs < 2 ^ a) (hj : j.natAbs < 2 ^ b) (ha : 0 < a := by decide) (hb : 0 < b := by decide) (h : a + b ≤ 1000000 := by decide) : bitsOk i j = true := by
  have h1 := log2_lt hi ha
  have h2 := log2_lt hj hb
  unfold bitsOk
  exact decide_eq_true (by omega)
theorem div_of {i j : Int} (b : Nat) (h0 : 0 < j) (hj : j.natAbs < 2 ^ b) (hb : 0 < b := by decide) (h : b ≤ 9000 := by decide) : divOk i j = true := by
  have h2 := log2_lt hj hb
  unfold divOk
  simp only [Bool.and_eq_true, decide_eq_true_eq]
  omega
/-! ### lists -/
theorem atI_nat {α : Type} (xs : List α) (i : Nat) : atI xs (i : Int) = xs[i]? := by
  unfold atI ixN
  rw [if_pos (by omega)]
  by_cases h : (i : Int) < xs.length
  · rw [if_pos h]; simp
  · rw [if_neg h]
    symm
    simp only [Option.bind_none]
    exact List.getElem?_eq_none (by omega)
theorem ixN_nat {n i : Nat} (h : i < n) : ixN n (i : Int) = some i := by
  unfold ixN
  rw [if_pos (by omega), if_pos (by omega)]
  simp
theorem atI_last {α : Type} (xs : List α) : atI xs (-1) = xs.getLast? := by
  unfold atI ixN
  rw [if_neg (by omega)]
  by_cases h : -(xs.length : Int) ≤ -1
  · rw [if_pos h]
    simp only [Option.bind_some]
    rw [List.getLast?_eq_getElem?, show (-1 + (xs.length : Int)).toNat = xs.length - 1 by omega]
  · rw [if_neg h]
    have : xs = [] := List.length_eq_zero_iff.mp (by omega)
    subst this
    rfl
/-! ### comprehensions -/
theorem lc_nil {own : List Nat} {a : GD} {c : TD} {f : ED} {acc : List PyData} {ρ : DE} : lcLoop own a c f [] acc ρ = some (acc, ρ) := rfl
/-- each item gives one, the state stays -/
theorem lc_map {own : List Nat} {a : GD} {c : TD} {f : ED} {ρ : DE} (F : PyData → PyData) : ∀ (ds acc : List PyData), acc.length + ds.length ≤ sizeLine →
    (∀ d ∈ ds, ∃ ρ1 ρ2 ρ3 r, a d ρ = some ρ1 ∧ c ρ1 = some (true, ρ2) ∧ f ρ2 = some (r, ρ3) ∧ r.d = F d ∧ wipeD ρ3 own = ρ) → lcLoop own a c f ds acc ρ = some (acc ++ ds.map F, ρ)
  | [], acc, _, _ => by simp [lcLoop]
  | d :: ds, acc, hz, h => by
    obtain ⟨ρ1, ρ2, ρ3, r, h1, h2, h3, h4, h5⟩ := h d (by simp)
    simp only [List.length_cons] at hz
    simp only [lcLoop, h1, h2, h3, h4, h5]
    rw [if_pos (by omega), lc_map F ds (acc ++ [F d]) (by simp; omega) fun x hx => h x (by simp [hx])]
    simp
/-- with a test -/
theorem lc_filter {own : List Nat} {a : GD} {c : TD} {f : ED} {ρ : DE} (p : PyData → Bool) (F : PyData → PyData) : ∀ (ds acc : List PyData), acc.length + ds.length ≤ sizeLine →
    (∀ d ∈ ds, ∃ ρ1 ρ2, a d ρ = some ρ1 ∧ c ρ1 = some (p d, ρ2) ∧ wipeD ρ2 own = ρ ∧ (p d = true → ∃ ρ3 r, f ρ2 = some (r, ρ3) ∧ r.d = F d ∧ wipeD ρ3 own = ρ)) →
    lcLoop own a c f ds acc ρ = some (acc ++ (ds.filter p).map F, ρ)
  | [], acc, _, _ => by simp [lcLoop]
  | d :: ds, acc, hz, h => by
    obtain ⟨ρ1, ρ2, h1, h2, h3, h4⟩ := h d (by simp)
    simp only [List.length_cons] at hz
    simp only [lcLoop, h1, h2]
    cases hp : p d with
    | false =>
      simp only [h3]
      rw [lc_filter p F ds acc (by omega) fun x hx => h x (by simp [hx])]
      simp [hp]
    | true =>
      obtain ⟨ρ3, r, h5, h6, h7⟩ := h4 hp
      simp only [h5, h6, h7]
      rw [if_pos (by omega), lc_filter p F ds (acc ++ [F d]) (by simp; omega) fun x hx => h x (by simp [hx])]
      simp [hp]
/-- the state may change: an invariant R of how many are done, what has come, the state -/
theorem lc_inv {own : List Nat} {a : GD} {c : TD} {f : ED} (R : Nat → List PyData → DE → Prop) : ∀ (ds acc : List PyData) (n : Nat) (ρ : DE), acc.length + ds.length ≤ sizeLine → R n acc ρ →
    (∀ m acc' ρ' d, d ∈ ds → R m acc' ρ' → m < n + ds.length → ∃ ρ1 ρ2 ρ3 r, a d ρ' = some ρ1 ∧ c ρ1 = some (true, ρ2) ∧ f ρ2 = some (r, ρ3) ∧ R (m + 1) (acc' ++ [r.d]) (wipeD ρ3 own)) →
    ∃ acc2 ρ2, lcLoop own a c f ds acc ρ = some (acc2, ρ2) ∧ R (n + ds.length) acc2 ρ2
  | [], acc, n, ρ, _, hR, _ => ⟨acc, ρ, rfl, hR⟩
  | d :: ds, acc, n, ρ, hz, hR, h => by
    obtain ⟨ρ1, ρ2, ρ3, r, h1, h2, h3, h4⟩ := h n acc ρ d (by simp) hR (by simp)
    simp only [List.length_cons] at hz
    obtain ⟨acc2, ρ4, e, q⟩ := lc_inv R ds (acc ++ [r.d]) (n + 1) (wipeD ρ3 own) (by simp; omega) h4 fun m a' ρ' x hx hm hl => h m a' ρ' x (by simp [hx]) hm (by simp; omega)
    refine ⟨acc2, ρ4, ?_, ?_⟩
    · simp only [lcLoop, h1, h2, h3]
      rw [if_pos (by omega), e]
    · rw [List.length_cons, show n + (ds.length + 1) = n + 1 + ds.length by omega]; exact q
/-! ### for -/
/-- the body never leaves the loop: an invariant -/
theorem loop_inv {a : GD} {body : SD} (R : Nat → DE → Prop) : ∀ (ds : List PyData) (n : Nat) (ρ : DE), R n ρ →
    (∀ m ρ' d, ds[m - n]? = some d → n ≤ m → R m ρ' → ∃ ρ1 ρ2, a d ρ' = some ρ1 ∧ body ρ1 = some (.nx, ρ2) ∧ R (m + 1) ρ2) → ∃ ρ2, loopD a body ds ρ = some (.nx, ρ2) ∧ R (n + ds.length) ρ2
  | [], n, ρ, hR, _ => ⟨ρ, rfl, hR⟩
  | d :: ds, n, ρ, hR, h => by
    obtain ⟨ρ1, ρ2, h1, h2, h3⟩ := h n ρ d (by simp) (Nat.le_refl _) hR
    obtain ⟨ρ4, e, q⟩ := loop_inv R ds (n + 1) ρ2 h3 fun m ρ' x hx hm hr => h m ρ' x (by
      have : m - n = m - (n + 1) + 1 := by omega
      rw [this, List.getElem?_cons_succ]; exact hx) (by omega) hr
    refine ⟨ρ4, ?_, ?_⟩
    · simp only [loopD, h1, h2]; exact e
    · rw [List.length_cons, show n + (ds.length + 1) = n + 1 + ds.length by omega]; exact q
/-- one turn of a comprehension, of a loop -/
def lcStep (own : List Nat) (a : GD) (c : TD) (f : ED) (d : PyData) (ρ : DE) : Option (Option PyData × DE) := match a d ρ with
  | none => none
  | some ρ1 => match c ρ1 with
    | none => none
    | some (false, ρ2) => some (none, wipeD ρ2 own)
    | some (true, ρ2) => match f ρ2 with
      | none => none
      | some (r, ρ3) => some (some r.d, wipeD ρ3 own)
theorem lcLoop_cons {own : List Nat} {a : GD} {c : TD} {f : ED} {d : PyData} {ds acc : List PyData} {ρ ρ' : DE} {o : Option PyData} (h : lcStep own a c f d ρ = some (o, ρ')) (hz : acc.length < sizeLine) : lcLoop own a c f (d :: ds) acc ρ = lcLoop own a c f ds (acc ++ o.toList) ρ' := by
  unfold lcStep at h
  conv => lhs; unfold lcLoop
  cases e1 : a d ρ with
  | none => rw [e1] at h; cases h
  | some ρ1 =>
    rw [e1] at h
    simp only at h ⊢
    cases e2 : c ρ1 with
    | none => rw [e2] at h; cases h
    | some p =>
      obtain ⟨b, ρ2⟩ := p
      rw [e2] at h
      cases b with
      | false => cases h; simp
      | true =>
        simp only at h ⊢
        cases e3 : f ρ2 with
        | none => rw [e3] at h; cases h
        | some p3 =>
          obtain ⟨r, ρ3⟩ := p3
          rw [e3] at h
          cases h
          simp only
          rw [if_pos hz]
          simp
/-- the state of each turn told -/
theorem lc_fun {own : List Nat} {a : GD} {c : TD} {f : ED} : ∀ (ds acc : List PyData) (Sx : Nat → DE) (G : Nat → Option PyData), acc.length + ds.length ≤ sizeLine →
    (∀ i d, ds[i]? = some d → lcStep own a c f d (Sx i) = some (G i, Sx (i + 1))) → lcLoop own a c f ds acc (Sx 0) = some (acc ++ (List.range ds.length).filterMap G, Sx ds.length)
  | [], acc, Sx, G, _, _ => by simp [lcLoop]
  | d :: ds, acc, Sx, G, hz, h => by
    simp only [List.length_cons] at hz
    rw [lcLoop_cons (h 0 d rfl) (by omega)]
    have hl : ((G 0).toList).length ≤ 1 := by cases G 0 <;> simp
    rw [lc_fun ds (acc ++ (G 0).toList) (fun i => Sx (i + 1)) (fun i => G (i + 1)) (by simp only [List.length_append]; omega) fun i x hx => h (i + 1) x (by simpa using hx)]
    rw [List.length_cons, List.range_succ_eq_map, List.filterMap_cons, List.append_assoc]
    cases G 0 <;> simp [List.filterMap_map, Function.comp_def]
theorem lc_same {own : List Nat} {a : GD} {c : TD} {f : ED} {ρ : DE} (G : PyData → Option PyData) : ∀ (ds acc : List PyData), acc.length + ds.length ≤ sizeLine →
    (∀ d ∈ ds, lcStep own a c f d ρ = some (G d, ρ)) → lcLoop own a c f ds acc ρ = some (acc ++ ds.filterMap G, ρ)
  | [], acc, _, _ => by simp [lcLoop]
  | d :: ds, acc, hz, h => by
    simp only [List.length_cons] at hz
    rw [lcLoop_cons (h d (by simp)) (by omega)]
    have hl : ((G d).toList).length ≤ 1 := by cases G d <;> simp
    rw [lc_same G ds (acc ++ (G d).toList) (by simp only [List.length_append]; omega) fun x hx => h x (by simp [hx])]
    rw [List.filterMap_cons, List.append_assoc]
    cases G d <;> simp
def lpStep (a : GD) (body : SD) (d : PyData) (ρ : DE) : Option (Fl × DE) := match a d ρ with
  | none => none
  | some ρ1 => body ρ1
theorem loop_cons {a : GD} {body : SD} {d : PyData} {ds : List PyData} {ρ ρ' : DE} (h : lpStep a body d ρ = some (.nx, ρ')) : loopD a body (d :: ds) ρ = loopD a body ds ρ' := by
  unfold lpStep at h
  conv => lhs; unfold loopD
  cases e1 : a d ρ with
  | none => rw [e1] at h; cases h
  | some ρ1 =>
    rw [e1] at h
    simp only at h ⊢
    rw [h]
theorem loop_rt {a : GD} {body : SD} {d : PyData} {ds : List PyData} {ρ ρ' : DE} {r : RV} (h : lpStep a body d ρ = some (.rt r, ρ')) : loopD a body (d :: ds) ρ = some (.rt r, ρ') := by
  unfold lpStep at h
  conv => lhs; unfold loopD
  cases e1 : a d ρ with
  | none => rw [e1] at h; cases h
  | some ρ1 =>
    rw [e1] at h
    simp only at h ⊢
    rw [h]
theorem loop_fun {a : GD} {body : SD} : ∀ (ds : List PyData) (Sx : Nat → DE), (∀ i d, ds[i]? = some d → lpStep a body d (Sx i) = some (.nx, Sx (i + 1))) → loopD a body ds (Sx 0) = some (.nx, Sx ds.length)
  | [], Sx, _ => rfl
  | d :: ds, Sx, h => by
    rw [loop_cons (h 0 d rfl), loop_fun ds (fun i => Sx (i + 1)) fun i x hx => h (i + 1) x (by simpa using hx)]
    rfl
/-- an invariant of how many are done -/
theorem loop_R {a : GD} {body : SD} (R : Nat → DE → Prop) : ∀ (ds : List PyData) (n : Nat) (ρ : DE), R n ρ → (∀ i ρ' d, ds[i]? = some d → R (n + i) ρ' → ∃ ρ2, lpStep a body d ρ' = some (.nx, ρ2) ∧ R (n + i + 1) ρ2) →
    ∃ ρ2, loopD a body ds ρ = some (.nx, ρ2) ∧ R (n + ds.length) ρ2
  | [], n, ρ, hR, _ => ⟨ρ, rfl, hR⟩
  | d :: ds, n, ρ, hR, h => by
    obtain ⟨ρ2, h1, h2⟩ := h 0 ρ d rfl hR
    obtain ⟨ρ3, e, q⟩ := loop_R R ds (n + 1) ρ2 h2 fun i ρ' x hx hr => by
      have z := h (i + 1) ρ' x (by simpa using hx) (by rw [show n + (i + 1) = n + 1 + i by omega]; exact hr)
      rw [show n + (i + 1) + 1 = n + 1 + i + 1 by omega] at z
      exact z
    refine ⟨ρ3, by rw [loop_cons h1]; exact e, ?_⟩
    rw [List.length_cons, show n + (ds.length + 1) = n + 1 + ds.length by omega]; exact q
theorem lc_R {own : List Nat} {a : GD} {c : TD} {f : ED} (R : Nat → List PyData → DE → Prop) : ∀ (ds acc : List PyData) (n : Nat) (ρ : DE), acc.length + ds.length ≤ sizeLine → R n acc ρ →
    (∀ i acc' ρ' d, ds[i]? = some d → R (n + i) acc' ρ' → ∃ x ρ2, lcStep own a c f d ρ' = some (some x, ρ2) ∧ R (n + i + 1) (acc' ++ [x]) ρ2) → ∃ acc2 ρ2, lcLoop own a c f ds acc ρ = some (acc2, ρ2) ∧ R (n + ds.length) acc2 ρ2
  | [], acc, n, ρ, _, hR, _ => ⟨acc, ρ, rfl, hR⟩
  | d :: ds, acc, n, ρ, hz, hR, h => by
    simp only [List.length_cons] at hz
    obtain ⟨x, ρ2, h1, h2⟩ := h 0 acc ρ d rfl hR
    obtain ⟨acc3, ρ3, e, q⟩ := lc_R R ds (acc ++ [x]) (n + 1) ρ2 (by simp; omega) h2 fun i a' ρ' y hy hr => by
      have z := h (i + 1) a' ρ' y (by simpa using hy) (by rw [show n + (i + 1) = n + 1 + i by omega]; exact hr)
      rw [show n + (i + 1) + 1 = n + 1 + i + 1 by omega] at z
      exact z
    refine ⟨acc3, ρ3, by rw [lcLoop_cons h1 (by omega)]; exact e, ?_⟩
    rw [List.length_cons, show n + (ds.length + 1) = n + 1 + ds.length by omega]; exact q
theorem eLc_run {own : List Nat} {it : ID} {a : GD} {c : TD} {f : ED} {ρ ρ1 ρ2 : DE} {ds acc : List PyData} (h1 : it ρ = some (ds, ρ1)) (h2 : noGro ρ1 own = true) (h3 : lcLoop own a c f ds [] (wipeD ρ1 own) = some (acc, ρ2)) : eLc own it a c f ρ = some (.new acc, restD ρ1 ρ2 own) := by
  unfold eLc
  rw [h1]
  simp only
  rw [if_pos h2, h3]
theorem fn_rt {P : List Nat} {n N : Nat} {body : SD} {args ρ : List SV} {r : RV} (hl : args.length = n) (hg : okG P 0 args = true) (hb : body (args ++ List.replicate (N - n) .un) = some (.rt r, ρ)) (hB : okB args (ρ.take n) = true) : fnD P n N body args = some (r, ρ.take n) := by
  unfold fnD
  rw [if_pos ⟨hl, hg⟩, hb]
  show (if okB args (ρ.take n) then some (r, ρ.take n) else none) = _
  rw [if_pos hB]
theorem sRet_run {f : ED} {ρ ρ1 : DE} {r : RV} (h : f ρ = some (r, ρ1)) : sRet f ρ = some (.rt r, ρ1) := by
  unfold sRet
  rw [h]
theorem sSet_run {i : Nat} {f : ED} {ρ ρ1 : DE} {r : RV} (h : f ρ = some (r, ρ1)) : sSet i f ρ = some (.nx, ρ1.set i r.sv) := by
  unfold sSet
  rw [h]
theorem sSeq_run {g h : SD} {ρ ρ1 : DE} {x : Option (Fl × DE)} (h1 : g ρ = some (.nx, ρ1)) (h2 : h ρ1 = x) : sSeq g h ρ = x := by
  unfold sSeq
  rw [h1]
  exact h2
theorem sSeq_rt {g h : SD} {ρ ρ1 : DE} {r : RV} (h1 : g ρ = some (.rt r, ρ1)) : sSeq g h ρ = some (.rt r, ρ1) := by
  unfold sSeq
  rw [h1]
theorem sIf_f {t : TD} {g h : SD} {ρ ρ1 : DE} {x : Option (Fl × DE)} (h1 : t ρ = some (false, ρ1)) (h2 : h ρ1 = x) : sIf t g h ρ = x := by
  unfold sIf
  rw [h1]
  exact h2
theorem sIf_t {t : TD} {g h : SD} {ρ ρ1 : DE} {x : Option (Fl × DE)} (h1 : t ρ = some (true, ρ1)) (h2 : g ρ1 = x) : sIf t g h ρ = x := by
  unfold sIf
  rw [h1]
  exact h2
theorem call1_run {g : List PyData → Option RV} {f : ED} {ρ ρ1 : DE} {r x : RV} (h : f ρ = some (r, ρ1)) (h2 : g [r.d] = some x) : eCall g [.ex f] ρ = some (x, ρ1) := by
  have e : runD [.ex f] ρ = some ([r.d], ρ1) := by simp [runD, runA, h, allDat]
  unfold eCall
  rw [e]
  simp only
  rw [h2]
theorem sExpr_run {f : ED} {ρ ρ1 : DE} {r : RV} (h : f ρ = some (r, ρ1)) : sExpr f ρ = some (.nx, ρ1) := by
  unfold sExpr
  rw [h]
theorem tV_run {f : ED} {ρ ρ1 : DE} {b : Bool} (h : f ρ = some (.dat (.bool b), ρ1)) : tV f ρ = some (b, ρ1) := by
  unfold tV
  rw [h]
theorem tNot_run {f : TD} {ρ ρ1 : DE} {b : Bool} (h : f ρ = some (b, ρ1)) : tNotD f ρ = some (!b, ρ1) := by
  unfold tNotD
  rw [h]
/-- a call with data alone -/
theorem def_run {g : FD} {as : List Ar} {ρ ρ1 : DE} {ds : List PyData} {r : RV} {a2 : List SV} (h : runD as ρ = some (ds, ρ1)) (h2 : g (ds.map .dat) = some (r, a2)) : eDef g as ρ = some (r, ρ1) := by
  unfold runD at h
  unfold eDef
  cases e : runA as ρ with
  | none => rw [e] at h; cases h
  | some p =>
    obtain ⟨xs, ρ2⟩ := p
    rw [e] at h
    simp only at h ⊢
    cases e2 : allDat xs with
    | none => rw [e2] at h; cases h
    | some es =>
      rw [e2] at h
      cases h
      have key : ∀ (xs : List XV) (es : List PyData), allDat xs = some es → xs.map (toSV ρ1) = es.map .dat ∧ ∀ j, groIx ρ1 xs j = [] := by
        intro xs
        induction xs with
        | nil => intro es h; cases h; exact ⟨rfl, fun _ => rfl⟩
        | cons x xs ih =>
          intro es h
          cases x with
          | sl i => cases h
          | dat d =>
            simp only [allDat, Option.map_eq_some_iff] at h
            obtain ⟨fs, h1, rfl⟩ := h
            obtain ⟨k1, k2⟩ := ih fs h1
            exact ⟨by simp [toSV, k1], fun j => by simp [groIx, k2]⟩
      obtain ⟨k1, k2⟩ := key xs ds e2
      rw [k1, k2, h2]
      rfl
theorem runD_nil {ρ : DE} : runD [] ρ = some ([], ρ) := rfl
theorem runD_cons {f : ED} {as : List Ar} {ρ ρ1 ρ2 : DE} {r : RV} {ds : List PyData} (h : f ρ = some (r, ρ1)) (h2 : runD as ρ1 = some (ds, ρ2)) : runD (.ex f :: as) ρ = some (r.d :: ds, ρ2) := by
  unfold runD at h2 ⊢
  simp only [runA, h]
  cases e : runA as ρ1 with
  | none => rw [e] at h2; cases h2
  | some p =>
    obtain ⟨xs, ρ3⟩ := p
    rw [e] at h2
    simp only at h2 ⊢
    cases e2 : allDat xs with
    | none => rw [e2] at h2; cases h2
    | some es => rw [e2] at h2; cases h2; simp [allDat, e2]
theorem op_run {o : PyData → PyData → Option RV} {f g : ED} {ρ ρ1 ρ2 : DE} {a b x : RV} (h1 : f ρ = some (a, ρ1)) (h2 : g ρ1 = some (b, ρ2)) (h3 : o a.d b.d = some x) : eOp o f g ρ = some (x, ρ2) := by
  unfold eOp
  rw [h1]
  simp only
  rw [h2]
  simp only
  rw [h3]
theorem op_runD {o : PyData → PyData → Option RV} {f g : ED} {ρ ρ1 ρ2 : DE} {a b : PyData} {x : RV} (h1 : f ρ = some (.dat a, ρ1)) (h2 : g ρ1 = some (.dat b, ρ2)) (h3 : o a b = some x) : eOp o f g ρ = some (x, ρ2) := op_run h1 h2 h3
theorem runD_consD {f : ED} {as : List Ar} {ρ ρ1 ρ2 : DE} {d : PyData} {ds : List PyData} (h : f ρ = some (.dat d, ρ1)) (h2 : runD as ρ1 = some (ds, ρ2)) : runD (.ex f :: as) ρ = some (d :: ds, ρ2) := runD_cons h h2
theorem var_run {i : Nat} {ρ : DE} {d : PyData} (h : ρ[i]? = some (.dat d)) : eVar i ρ = some (.dat d, ρ) := by
  unfold eVar
  rw [h]
theorem c_run {d : PyData} {ρ : DE} : eC d ρ = some (.dat d, ρ) := rfl
theorem tup_run {as : List Ar} {ρ ρ1 : DE} {ds : List PyData} (h : runD as ρ = some (ds, ρ1)) (hz : ds.length ≤ sizeLine) : eTup as ρ = some (.dat (.tuple ds), ρ1) := by
  unfold eTup
  rw [h]
  simp only
  rw [if_pos hz]
theorem lst_run {as : List Ar} {ρ ρ1 : DE} {ds : List PyData} (h : runD as ρ = some (ds, ρ1)) (hz : ds.length ≤ sizeLine) : eLst as ρ = some (.new ds, ρ1) := by
  unfold eLst
  rw [h]
  simp only
  rw [if_pos hz]
theorem runD_st_tup {f : ED} {as : List Ar} {ρ ρ1 ρ2 : DE} {es ds : List PyData} (h : f ρ = some (.dat (.tuple es), ρ1)) (h2 : runD as ρ1 = some (ds, ρ2)) : runD (.st f :: as) ρ = some (es ++ ds, ρ2) := by
  unfold runD at h2 ⊢
  simp only [runA, h, RV.d]
  cases e : runA as ρ1 with
  | none => rw [e] at h2; cases h2
  | some p =>
    obtain ⟨xs, ρ3⟩ := p
    rw [e] at h2
    simp only at h2 ⊢
    cases e2 : allDat xs with
    | none => rw [e2] at h2; cases h2
    | some fs =>
      rw [e2] at h2
      cases h2
      have key : ∀ l : List PyData, allDat (l.map XV.dat ++ xs) = some (l ++ ds) := fun l => by
        induction l with
        | nil => exact e2
        | cons a l ih => simp [allDat, ih]
      rw [key]
theorem ix_run {i : Nat} {g : ED} {ρ ρ1 : DE} {j : Int} {ds : List PyData} {d : PyData} (h0 : isSeq ρ[i]? = true) (h1 : g ρ = some (.dat (.int j), ρ1)) (h2 : ρ1[i]? = some (.dat (.tuple ds)) ∨ ρ1[i]? = some (.dat (.list ds)) ∨ ρ1[i]? = some (.gro ds)) (h3 : atI ds j = some d) : eIxG i g ρ = some (.dat d, ρ1) := by
  unfold eIxG
  rw [if_pos h0, h1]
  rcases h2 with h2 | h2 | h2 <;> simp [h2, h3]
theorem lp_run {a : GD} {body : SD} {d : PyData} {ρ ρ1 : DE} {x : Option (Fl × DE)} (h1 : a d ρ = some ρ1) (h2 : body ρ1 = x) : lpStep a body d ρ = x := by
  unfold lpStep
  rw [h1]
  exact h2
theorem lcs_run {own : List Nat} {a : GD} {c : TD} {f : ED} {d : PyData} {ρ ρ1 ρ2 ρ3 ρ4 : DE} {r : RV} (h1 : a d ρ = some ρ1) (h2 : c ρ1 = some (true, ρ2)) (h3 : f ρ2 = some (r, ρ3)) (h4 : wipeD ρ3 own = ρ4) : lcStep own a c f d ρ = some (some r.d, ρ4) := by
  unfold lcStep
  simp only [h1, h2, h3, h4]
theorem lcs_no {own : List Nat} {a : GD} {c : TD} {f : ED} {d : PyData} {ρ ρ1 ρ2 ρ4 : DE} (h1 : a d ρ = some ρ1) (h2 : c ρ1 = some (false, ρ2)) (h4 : wipeD ρ2 own = ρ4) : lcStep own a c f d ρ = some (none, ρ4) := by
  unfold lcStep
  simp only [h1, h2, h4]
theorem sFor_run {it : ID} {a : GD} {body : SD} {ρ ρ1 : DE} {ds : List PyData} {x : Option (Fl × DE)} (h1 : it ρ = some (ds, ρ1)) (h2 : loopD a body ds ρ1 = x) : sFor it a body ρ = x := by
  unfold sFor
  rw [h1]
  exact h2
/-! ### repr -/
def leaf : PyData → Bool
  | .none => true
  | .bool _ => true
  | .int i => decide (i.natAbs < 2 ^ 200)
  | _ => false
def rok : Nat → PyData → Prop
  | 0, d => leaf d = true
  | n + 1, d => leaf d = true ∨ ∃ xs, (d = .list xs ∨ d = .tuple xs) ∧ xs.length ≤ 60 ∧ ∀ x ∈ xs, rok n x
theorem shown_leaf {d : PyData} (h : leaf d = true) : d.shown.length ≤ 205 := by
  cases d with
  | none => simp only [PyData.shown]; decide
  | bool b => cases b <;> (simp only [PyData.shown]; decide)
  | int i =>
    simp only [leaf, decide_eq_true_eq] at h
    have z := int_text_length_le (a := i) (k := 200) (by decide) (log2_lt h (by decide))
    simp only [PyData.shown]
    show (Str.ofString (toString i)).length ≤ 205
    rw [PySem.ofString_length]
    omega
  | str s => cases h
  | list s => cases h
  | tuple s => cases h
  | dict s => cases h
theorem shownAll_map : ∀ xs : List PyData, PyData.shownAll xs = xs.map PyData.shown
  | [] => rfl
  | x :: xs => by simp [PyData.shownAll, shownAll_map xs]
theorem sum_le {b : Nat} : ∀ (l : List Nat), (∀ x ∈ l, x ≤ b) → l.sum ≤ l.length * b
  | [], _ => by simp
  | x :: l, h => by
    have h1 := h x (by simp)
    have h2 := sum_le l fun y hy => h y (by simp [hy])
    simp only [List.sum_cons, List.length_cons, Nat.succ_mul]
    omega
def rlim : Nat → Nat
  | 0 => 205
  | n + 1 => 60 * rlim n + 123
theorem rlim_ge : ∀ n, 205 ≤ rlim n
  | 0 => Nat.le_refl _
  | n + 1 => by have := rlim_ge n; simp only [rlim]; omega
theorem shown_le : ∀ (n : Nat) (d : PyData), rok n d → d.shown.length ≤ rlim n
  | 0, d, h => shown_leaf h
  | n + 1, d, h => by
    rcases h with h | ⟨xs, hd, hl, hx⟩
    · exact Nat.le_trans (shown_leaf h) (rlim_ge _)
    · have h1 : ((PyData.shownAll xs).map (·.length)).sum ≤ xs.length * rlim n := by
        have z := sum_le (b := rlim n) ((PyData.shownAll xs).map (·.length)) fun y hy => by
          rw [shownAll_map] at hy
          simp only [List.map_map, List.mem_map, Function.comp_apply] at hy
          obtain ⟨x, hm, rfl⟩ := hy
          exact shown_le n x (hx x hm)
        rw [List.length_map, shownAll_map, List.length_map] at z
        rw [shownAll_map]
        exact z
      have h2 : xs.length * rlim n ≤ 60 * rlim n := Nat.mul_le_mul_right _ hl
      have h3 : (PyData.shownAll xs).length = xs.length := by rw [shownAll_map, List.length_map]
      rcases hd with rfl | rfl
      · have z := listText_len_le (PyData.shownAll xs)
        simp only [PyData.shown, rlim]
        omega
      · have z := tupleText_len_le (PyData.shownAll xs)
        simp only [PyData.shown, rlim]
        omega
theorem leaf_ok {d : PyData} (h : leaf d = true) : d.showable = true ∧ d.hasDict = false ∧ d.depth = 0 := by
  cases d with
  | none => exact ⟨rfl, rfl, by simp only [PyData.depth]⟩
  | bool b => exact ⟨rfl, rfl, by simp only [PyData.depth]⟩
  | int i =>
    simp only [leaf, decide_eq_true_eq] at h
    refine ⟨?_, rfl, by simp only [PyData.depth]⟩
    simp only [PyData.showable, decide_eq_true_eq]
    exact Nat.lt_trans (log2_lt h (by decide)) (by decide)
  | str s => cases h
  | list s => cases h
  | tuple s => cases h
  | dict s => cases h
theorem rok_ok : ∀ (n : Nat) (d : PyData), rok n d → d.showable = true ∧ d.hasDict = false ∧ d.depth ≤ n
  | 0, d, h => by
    obtain ⟨a, b, c⟩ := leaf_ok h
    exact ⟨a, b, by omega⟩
  | n + 1, d, h => by
    rcases h with h | ⟨xs, hd, hl, hx⟩
    · obtain ⟨a, b, c⟩ := leaf_ok h
      exact ⟨a, b, by omega⟩
    · have key : ∀ ys : List PyData, (∀ y ∈ ys, rok n y) → PyData.showableAll ys = true ∧ PyData.hasDictAll ys = false ∧ PyData.depthAll ys ≤ n := fun ys => by
        induction ys with
        | nil => intro _; exact ⟨rfl, rfl, by simp [PyData.depthAll]⟩
        | cons y ys ih =>
          intro h
          obtain ⟨a1, a2, a3⟩ := rok_ok n y (h y (by simp))
          obtain ⟨b1, b2, b3⟩ := ih fun z hz => h z (by simp [hz])
          refine ⟨?_, ?_, ?_⟩
          · simp only [PyData.showableAll, a1, b1, Bool.and_self]
          · simp only [PyData.hasDictAll, a2, b2, Bool.or_self]
          · simp only [PyData.depthAll]; omega
      obtain ⟨k1, k2, k3⟩ := key xs hx
      rcases hd with rfl | rfl
      · refine ⟨?_, ?_, ?_⟩
        · simp only [PyData.showable, k1]
        · simp only [PyData.hasDict, k2]
        · simp only [PyData.depth]; omega
      · refine ⟨?_, ?_, ?_⟩
        · simp only [PyData.showable, k1]
        · simp only [PyData.hasDict, k2]
        · simp only [PyData.depth]; omega
theorem reprOk_of {d : PyData} (h : rok 2 d) : reprOk d = true := by
  obtain ⟨a, b, c⟩ := rok_ok 2 d h
  have e := shown_le 2 d h
  unfold reprOk
  rw [a, b]
  simp only [Bool.not_false, Bool.and_self, Bool.true_and, Bool.and_eq_true, decide_eq_true_eq]
  have : rlim 2 = 745503 := rfl
  rw [sizeLine_eq]
  omega
theorem rok_int {n : Nat} {i : Int} (h : i.natAbs < 2 ^ 200) : rok n (.int i) := by
  have l : leaf (.int i) = true := by simp only [leaf, decide_eq_true_eq]; exact h
  cases n with
  | zero => exact l
  | succ n => exact .inl l
theorem repr_run {f : ED} {ρ ρ1 : DE} {r : RV} (h : f ρ = some (r, ρ1)) (ok : rok 2 r.d) : eCall reprD [.ex f] ρ = some (.dat (.str r.d.shown), ρ1) := by
  simp [eCall, runD, runA, h, allDat, reprD, reprOk_of ok]
/-- repr(a) != repr(b), a and b the same: False -/
theorem reprNe {f g : ED} {ρ ρ1 ρ2 : DE} {r s : RV} (h1 : f ρ = some (r, ρ1)) (h2 : g ρ1 = some (s, ρ2)) (e : r.d = s.d) (ok : rok 2 s.d) : tV (eOp neD (eCall reprD [.ex f]) (eCall reprD [.ex g])) ρ = some (false, ρ2) := by
  have a := repr_run h1 (by rw [e]; exact ok)
  have b := repr_run h2 ok
  have ed : ∀ x : PyData, RV.d (.dat x) = x := fun _ => rfl
  simp only [tV, eOp, a, b, ed]
  rw [e]
  simp [neD]
end DL
namespace K80
open PySem PySem.Spec PyProof.Rows L2 DL
/-! ### the text by places -/
def top (i : Nat) : Stmt := PySem.Challenge.pw_themomentitturned_k80_whole_orders_there.main.body.getD i (.Pass ⟨0, 0, 0, 0⟩)
abbrev s_is_integer : Stmt := top 6
abbrev s_is_between : Stmt := top 7
abbrev s_checked_signs : Stmt := top 12
abbrev s_is_row_of : Stmt := top 13
abbrev s_is_lot : Stmt := top 16
abbrev s_checked_lot : Stmt := top 17
abbrev s_is_short_row : Stmt := top 18
abbrev s_lot_in : Stmt := top 19
abbrev s_lot_of : Stmt := top 20
abbrev s_choices_of : Stmt := top 21
abbrev s_many_orders : Stmt := top 22
abbrev s_orders_of : Stmt := top 23
abbrev s_less_one : Stmt := top 24
abbrev s_next_sign : Stmt := top 25
abbrev s_order_at : Stmt := top 26
abbrev s_place_of : Stmt := top 27
abbrev s__law_pot : Stmt := top 29
abbrev s__law_take : Stmt := top 30
abbrev s__law_of : Stmt := top 31
abbrev s__law_cells : Stmt := top 32
abbrev s__law_lot : Stmt := top 33
abbrev s__law_drawn_lot : Stmt := top 34
abbrev s__law_all_orders : Stmt := top 35
abbrev s__law_many : Stmt := top 36
abbrev s__law_next : Stmt := top 37
abbrev s__law_is_small_right : Stmt := top 38
abbrev s__law_is_great_right : Stmt := top 39
abbrev s__law_right : Stmt := top 40
abbrev s_law : Stmt := top 41
/-! ### mirrors -/
noncomputable section
def b_is_integer : SD := sRet (eAnd (eIsi "int" (eVar 0)) (eNot (eIsi "bool" (eVar 0))))
def g_is_integer : FD := fnD [] 1 1 b_is_integer
def b_is_between : SD := sRet (eAnd (eDef g_is_integer [.ex (eVar 0)]) (eChain leD leD (eVar 1) (eVar 0) (eVar 2)))
def g_is_between : FD := fnD [] 3 3 b_is_between
def b_checked_signs : SD := sIf (tNotD (tV (eDef g_is_between [.ex (eVar 0), .ex (eC (.int 2)), .ex (eC (.int 6))]))) (sNo) (sNx)
def g_checked_signs : FD := fnD [] 1 1 b_checked_signs
def b_is_row_of : SD := sSeq (sIf (tOrD (tNotD (tV (eIsi "tuple" (eVar 0)))) (tV (eOp gtD (eCall lenD [.ex (eVar 0)]) (eC (.int 400))))) (sRet (eC (.bool false))) (sNx))
  (sRet (eCall allD [.ex (eLc [2] (iAny (eVar 0)) (gNm 2) (tYesD) (eDef g_is_between [.ex (eVar 2), .ex (eC (.int 0)), .ex (eOp subD (eVar 1) (eC (.int 1)))]))]))
def g_is_row_of : FD := fnD [] 2 3 b_is_row_of
def b_is_lot : SD := sSeq (sIf (tOrD (tNotD (tV (eIsi "tuple" (eVar 0)))) (tNotD (tV (eChain leD leD (eC (.int 2)) (eCall lenD [.ex (eVar 0)]) (eC (.int 6)))))) (sRet (eC (.bool false))) (sNx))
  (sRet (eAnd (eCall allD [.ex (eLc [1] (iAny (eVar 0)) (gNm 1) (tYesD) (eDef g_is_between [.ex (eVar 1), .ex (eC (.int 0)), .ex (eC (.int 40))]))]) (eOp leD (eCall sumD [.ex (eVar 0)]) (eC (.int 40)))))
def g_is_lot : FD := fnD [] 1 2 b_is_lot
def b_checked_lot : SD := sIf (tNotD (tV (eDef g_is_lot [.ex (eVar 0)]))) (sNo) (sNx)
def g_checked_lot : FD := fnD [] 1 1 b_checked_lot
def b_is_short_row : SD := sRet (eAnd (eDef g_is_row_of [.ex (eVar 0), .ex (eVar 1)]) (eOp leD (eCall lenD [.ex (eVar 0)]) (eC (.int 40))))
def g_is_short_row : FD := fnD [] 2 2 b_is_short_row
def b_lot_in : SD := sRet (eCall tupleD [.ex (eLc [2] (iRg1 [.ex (eVar 1)]) (gNm 2) (tYesD) (eCount (eVar 0) (eVar 2)))])
def g_lot_in : FD := fnD [] 2 3 b_lot_in
def b_lot_of : SD := sSeq (sExpr (eDef g_checked_signs [.ex (eVar 1)]))
  (sSeq (sIf (tNotD (tV (eDef g_is_short_row [.ex (eVar 0), .ex (eVar 1)]))) (sNo) (sNx))
  (sRet (eDef g_lot_in [.ex (eVar 0), .ex (eVar 1)])))
def g_lot_of : FD := fnD [] 2 2 b_lot_of
def b_choices_of : SD := sSeq (sSet 2 (eC (.int 1)))
  (sSeq (sFor (iRg1 [.ex (eVar 1)]) (gNm 3) (sSet 2 (eOp divD (eOp mulD (eVar 2) (eOp subD (eVar 0) (eVar 3))) (eOp addD (eVar 3) (eC (.int 1))))))
  (sRet (eVar 2)))
def g_choices_of : FD := fnD [] 2 4 b_choices_of
def b_many_orders : SD := sSeq (sAsg (eTup [.ex (eC (.int 1)), .ex (eC (.int 0))]) (gTupD 2 (gsCons (gNm 1) (gsCons (gNm 2) (gsNil)))))
  (sSeq (sFor (iAny (eVar 0)) (gNm 3) (sSeq (sSet 2 (eOp addD (eVar 2) (eVar 3)))
  (sSet 1 (eOp mulD (eVar 1) (eDef g_choices_of [.ex (eVar 2), .ex (eVar 3)])))))
  (sRet (eVar 1)))
def g_many_orders : FD := fnD [] 1 4 b_many_orders
def b_orders_of : SD := sSeq (sExpr (eDef g_checked_lot [.ex (eVar 0)]))
  (sRet (eDef g_many_orders [.ex (eVar 0)]))
def g_orders_of : FD := fnD [] 1 1 b_orders_of
def b_less_one : SD := sRet (eTup [.st (eSl (eVar 0) pNo (pSome (eVar 1))), .ex (eOp subD (eIxG 0 (eVar 1)) (eC (.int 1))), .st (eSl (eVar 0) (pSome (eOp addD (eVar 1) (eC (.int 1)))) pNo)])
def g_less_one : FD := fnD [] 2 2 b_less_one
def b_next_sign : SD := sSeq (sFor (iEnumD [.ex (eVar 0)]) (gTupD 2 (gsCons (gNm 2) (gsCons (gNm 3) (gsNil)))) (sSeq (sSet 4 (eIf (tV (eOp gtD (eVar 3) (eC (.int 0)))) (eDef g_many_orders [.ex (eDef g_less_one [.ex (eVar 0), .ex (eVar 2)])]) (eC (.int 0))))
  (sSeq (sIf (tV (eOp ltD (eVar 1) (eVar 4))) (sRet (eTup [.ex (eVar 2), .ex (eVar 1)])) (sNx))
  (sSet 1 (eOp subD (eVar 1) (eVar 4))))))
  (sRet (eTup [.ex (eC .none), .ex (eVar 1)]))
def g_next_sign : FD := fnD [] 2 5 b_next_sign
def b_order_at : SD := sSeq (sExpr (eDef g_checked_lot [.ex (eVar 0)]))
  (sSeq (sIf (tNotD (tV (eDef g_is_between [.ex (eVar 1), .ex (eC (.int 0)), .ex (eOp subD (eDef g_many_orders [.ex (eVar 0)]) (eC (.int 1)))]))) (sNo) (sNx))
  (sSeq (sParV 2 3 [eVar 0, eLst []])
  (sSeq (sFor (iRg1 [.ex (eCall sumD [.ex (eVar 0)])]) (gNm 4) (sSeq (sAsg (eDef g_next_sign [.ex (eVar 2), .ex (eVar 1)]) (gTupD 2 (gsCons (gNm 5) (gsCons (gNm 1) (gsNil)))))
  (sSeq (sApp 3 (eVar 5))
  (sSet 2 (eDef g_less_one [.ex (eVar 2), .ex (eVar 5)])))))
  (sRet (eCall tupleD [.ex (eVar 3)])))))
def g_order_at : FD := fnD [] 2 6 b_order_at
def b_place_of : SD := sSeq (sAsg (eTup [.ex (eDef g_lot_of [.ex (eVar 0), .ex (eVar 1)]), .ex (eC (.int 0))]) (gTupD 2 (gsCons (gNm 2) (gsCons (gNm 3) (gsNil)))))
  (sSeq (sFor (iAny (eVar 0)) (gNm 4) (sSeq (sSet 3 (eOp addD (eVar 3) (eCall sumD [.ex (eLc [5] (iRg1 [.ex (eVar 4)]) (gNm 5) (tV (eOp gtD (eIxG 2 (eVar 5)) (eC (.int 0)))) (eDef g_many_orders [.ex (eDef g_less_one [.ex (eVar 2), .ex (eVar 5)])]))])))
  (sSet 2 (eDef g_less_one [.ex (eVar 2), .ex (eVar 4)]))))
  (sRet (eVar 3)))
def g_place_of : FD := fnD [] 2 6 b_place_of
def b__law_pot : SD := sSeq (sSet 2 (eIf (tV (eOp ltD (eVar 1) (eCall lenD [.ex (eVar 0)]))) (eIxG 0 (eVar 1)) (eOp addD (eOp mulD (eC (.int 1741)) (eVar 1)) (eC (.int 1063)))))
  (sSeq (sSet 3 (eOp mulD (eOp modD (eCall intD [.ex (eCall absD [.ex (eVar 2)])]) (eOp powD (eOp powD (eC (.int 10)) (eC (.int 60))) (eC (.int 5)))) (eCall intD [.ex (eOp geD (eCall absD [.ex (eVar 2)]) (eOp powD (eC (.int 10)) (eC (.int 18))))])))
  (sSeq (sSet 4 (eOp modD (eCall intD [.ex (eVar 2)]) (eC (.int 2305843009213693951))))
  (sRet (eLst [.ex (eVar 3), .ex (eOp modD (eCall intD [.ex (eOp addD (eOp addD (eOp mulD (eVar 4) (eC (.int 76441))) (eOp mulD (eOp mulD (eC (.int 10831)) (eVar 1)) (eVar 1))) (eC (.int 1377)))]) (eC (.int 2305843009213693921))), .ex (eC (.int 0))]))))
def g__law_pot : FD := fnD [] 2 5 b__law_pot
def b__law_take : SD := sSeq (sIf (tV (eOp gtD (eIxG 0 (eC (.int 0))) (eC (.int 0)))) (sSeq (sSet 2 (eOp modD (eCall intD [.ex (eIxG 0 (eC (.int 0)))]) (eVar 1)))
  (sSeq (sSetIx 0 (eC (.int 0)) (eOp divD (eIxG 0 (eC (.int 0))) (eVar 1)))
  (sRet (eVar 2)))) (sNx))
  (sSeq (sSetIx 0 (eC (.int 2)) (eOp addD (eIxG 0 (eC (.int 2))) (eC (.int 1))))
  (sSeq (sSet 3 (eOp ixD (eLst [.ex (eC (.int 2147483647)), .ex (eC (.int 2147483629)), .ex (eC (.int 2147483587)), .ex (eC (.int 2147483579)), .ex (eC (.int 2147483563))]) (eOp modD (eCall intD [.ex (eIxG 0 (eC (.int 2)))]) (eC (.int 5)))))
  (sSeq (sSet 4 (eOp modD (eCall intD [.ex (eOp powD (eCall intD [.ex (eOp addD (eOp addD (eIxG 0 (eC (.int 1))) (eOp mulD (eOp mulD (eC (.int 97881)) (eIxG 0 (eC (.int 2)))) (eIxG 0 (eC (.int 2))))) (eC (.int 641)))]) (eC (.int 3)))]) (eVar 3)))
  (sSeq (sSet 4 (eOp modD (eCall intD [.ex (eOp mulD (eVar 4) (eOp addD (eOp modD (eCall intD [.ex (eVar 4)]) (eC (.int 10361))) (eOp mulD (eC (.int 151)) (eIxG 0 (eC (.int 2))))))]) (eC (.int 2305843009213693907))))
  (sRet (eOp modD (eCall intD [.ex (eOp divD (eVar 4) (eC (.int 371)))]) (eVar 1)))))))
def g__law_take : FD := fnD [0] 2 5 b__law_take
def b__law_of : SD := sRet (eIxG 1 (eDef g__law_take [.mv 0, .ex (eCall lenD [.ex (eVar 1)])]))
def g__law_of : FD := fnD [0] 2 2 b__law_of
def b__law_cells : SD := sRet (eLstRg [.ex (eCall maxD2 [.ex (eC (.int 1)), .ex (eCall minD2 [.ex (eVar 1), .ex (eCall lenD [.ex (eVar 0)])])])])
def g__law_cells : FD := fnD [] 2 2 b__law_cells
def b__law_lot : SD := sRet (eCall tupleD [.ex (eLc [2] (iRg1 [.ex (eVar 1)]) (gNm 2) (tYesD) (eCount (eVar 0) (eVar 2)))])
def g__law_lot : FD := fnD [] 2 3 b__law_lot
def b__law_drawn_lot : SD := sSeq (sParV 3 4 [eLst [], eVar 2])
  (sSeq (sFor (iRg1 [.ex (eVar 1)]) (gNm 5) (sSeq (sApp 3 (eCall intD [.ex (eCall minD2 [.ex (eVar 4), .ex (eDef g__law_take [.mv 0, .ex (eC (.int 5))])])]))
  (sSet 4 (eOp subD (eVar 4) (eIxG 3 (eNeg (eC (.int 1))))))))
  (sRet (eCall tupleD [.ex (eVar 3)])))
def g__law_drawn_lot : FD := fnD [0] 3 6 b__law_drawn_lot
def b__law_all_orders : SD := sSeq (sSet 1 (eLst [.ex (eTup [])]))
  (sSeq (sFor (iRg1 [.ex (eCall sumD [.ex (eVar 0)])]) (gNm 2) (sSeq (sSet 3 (eLst []))
  (sSeq (sFor (iAny (eVar 1)) (gNm 4) (sExt 3 (eLc [5] (iRg1 [.ex (eCall lenD [.ex (eVar 0)])]) (gNm 5) (tV (eOp ltD (eCount (eVar 4) (eVar 5)) (eIxG 0 (eVar 5)))) (eOp addD (eVar 4) (eTup [.ex (eCall intD [.ex (eVar 5)])])))))
  (sSet 1 (eVar 3)))))
  (sRet (eVar 1)))
def g__law_all_orders : FD := fnD [] 1 6 b__law_all_orders
def b__law_many : SD := sSeq (sAsg (eTup [.ex (eC (.int 1)), .ex (eC (.int 1))]) (gTupD 2 (gsCons (gNm 1) (gsCons (gNm 2) (gsNil)))))
  (sSeq (sFor (iRg1 [.ex (eCall sumD [.ex (eVar 0)])]) (gNm 3) (sSet 1 (eOp mulD (eVar 1) (eOp addD (eVar 3) (eC (.int 1))))))
  (sSeq (sFor (iAny (eVar 0)) (gNm 4) (sFor (iRg1 [.ex (eVar 4)]) (gNm 3) (sSet 2 (eOp mulD (eVar 2) (eOp addD (eVar 3) (eC (.int 1)))))))
  (sRet (eCall intD [.ex (eOp divD (eVar 1) (eVar 2))]))))
def g__law_many : FD := fnD [] 1 5 b__law_many
def b__law_next : SD := sSeq (sFor (iRgDn [.ex (eOp subD (eCall lenD [.ex (eVar 0)]) (eC (.int 2))), .ex (eNeg (eC (.int 1))), .ex (eNeg (eC (.int 1)))]) (gNm 1) (sIf (tV (eOp ltD (eIxG 0 (eVar 1)) (eIxG 0 (eOp addD (eVar 1) (eC (.int 1)))))) (sSeq (sSet 2 (eLc [4] (iRg2 [.ex (eOp addD (eVar 1) (eC (.int 1))), .ex (eCall lenD [.ex (eVar 0)])]) (gNm 4) (tV (eOp gtD (eIxG 0 (eVar 4)) (eIxG 0 (eVar 1)))) (eVar 4)))
  (sSeq (sSet 3 (eCall listD [.ex (eVar 0)]))
  (sSeq (sAsg (eTup [.ex (eIxG 3 (eIxG 2 (eNeg (eC (.int 1))))), .ex (eIxG 3 (eVar 1))]) (gTupD 2 (gsCons (gSetIx 3 (eVar 1)) (gsCons (gSetIx 3 (eIxG 2 (eNeg (eC (.int 1))))) (gsNil)))))
  (sRet (eCall tupleD [.ex (eOp addD (eSl (eVar 3) pNo (pSome (eOp addD (eVar 1) (eC (.int 1))))) (eRev (eSl (eVar 3) (pSome (eOp addD (eVar 1) (eC (.int 1)))) pNo)))]))))) (sNx)))
  (sRet (eC .none))
def g__law_next : FD := fnD [] 1 5 b__law_next
def b__law_is_small_right : SD := sSeq (sSet 1 (eOp addD (eC (.int 2)) (eDef g__law_take [.mv 0, .ex (eC (.int 3))])))
  (sSeq (sSet 2 (eDef g__law_drawn_lot [.mv 0, .ex (eVar 1), .ex (eC (.int 7))]))
  (sSeq (sSet 3 (eDef g__law_all_orders [.ex (eVar 2)]))
  (sSeq (sIf (tV (eOp neD (eCall reprD [.ex (eDef g_orders_of [.ex (eVar 2)])]) (eCall reprD [.ex (eCall lenD [.ex (eVar 3)])]))) (sRet (eC (.bool false))) (sNx))
  (sSeq (sFor (iRg1 [.ex (eC (.int 8))]) (gNm 4) (sSeq (sSet 5 (eCall intD [.ex (eDef g__law_take [.mv 0, .ex (eCall lenD [.ex (eVar 3)])])]))
  (sSeq (sIf (tV (eOp neD (eCall reprD [.ex (eDef g_order_at [.ex (eVar 2), .ex (eVar 5)])]) (eCall reprD [.ex (eIxG 3 (eVar 5))]))) (sRet (eC (.bool false))) (sNx))
  (sSeq (sSet 6 (eIxG 3 (eVar 5)))
  (sIf (tV (eOp neD (eCall reprD [.ex (eLst [.ex (eDef g_place_of [.ex (eVar 6), .ex (eVar 1)]), .ex (eDef g_lot_of [.ex (eVar 6), .ex (eVar 1)])])]) (eCall reprD [.ex (eLst [.ex (eVar 5), .ex (eVar 2)])]))) (sRet (eC (.bool false))) (sNx))))))
  (sRet (eC (.bool true)))))))
def g__law_is_small_right : FD := fnD [0] 1 7 b__law_is_small_right
def b__law_is_great_right : SD := sSeq (sSet 1 (eOp addD (eC (.int 2)) (eDef g__law_take [.mv 0, .ex (eC (.int 5))])))
  (sSeq (sSet 2 (eCall tupleD [.ex (eLc [7] (iRg1 [.ex (eDef g__law_of [.mv 0, .ex (eLst [.ex (eC (.int 40)), .ex (eC (.int 40)), .ex (eC (.int 39)), .ex (eDef g__law_take [.mv 0, .ex (eC (.int 41))])])])]) (gNm 7) (tYesD) (eCall intD [.ex (eDef g__law_take [.mv 0, .ex (eVar 1)])]))]))
  (sSeq (sParV 3 4 [eDef g__law_lot [.ex (eVar 2), .ex (eVar 1)], eDef g_place_of [.ex (eVar 2), .ex (eVar 1)]])
  (sSeq (sIf (tOrD (tV (eOp neD (eCall reprD [.ex (eDef g_lot_of [.ex (eVar 2), .ex (eVar 1)])]) (eCall reprD [.ex (eVar 3)]))) (tV (eOp neD (eCall reprD [.ex (eDef g_orders_of [.ex (eVar 3)])]) (eCall reprD [.ex (eDef g__law_many [.ex (eVar 3)])])))) (sRet (eC (.bool false))) (sNx))
  (sSeq (sIf (tOrD (tNotD (tV (eChain leD ltD (eC (.int 0)) (eVar 4) (eDef g__law_many [.ex (eVar 3)])))) (tV (eOp neD (eCall reprD [.ex (eDef g_order_at [.ex (eVar 3), .ex (eVar 4)])]) (eCall reprD [.ex (eVar 2)])))) (sRet (eC (.bool false))) (sNx))
  (sSeq (sSet 5 (eLst [.ex (eCall tupleD [.ex (eCall sortedAD [.ex (eVar 2)])]), .ex (eRev (eCall tupleD [.ex (eCall sortedAD [.ex (eVar 2)])]))]))
  (sSeq (sIf (tV (eOp neD (eCall reprD [.ex (eLst [.ex (eDef g_order_at [.ex (eVar 3), .ex (eC (.int 0))]), .ex (eDef g_order_at [.ex (eVar 3), .ex (eOp subD (eDef g__law_many [.ex (eVar 3)]) (eC (.int 1)))])])]) (eCall reprD [.ex (eVar 5)]))) (sRet (eC (.bool false))) (sNx))
  (sSeq (sSet 6 (eDef g__law_next [.ex (eVar 2)]))
  (sRet (eOr (eAnd (eOp isND (eVar 6) (eC .none)) (eOp eqD (eVar 4) (eOp subD (eDef g__law_many [.ex (eVar 3)]) (eC (.int 1))))) (eAnd (eOp notND (eVar 6) (eC .none)) (eOp eqD (eDef g_place_of [.ex (eVar 6), .ex (eVar 1)]) (eOp addD (eVar 4) (eC (.int 1))))))))))))))
def g__law_is_great_right : FD := fnD [0] 1 8 b__law_is_great_right
def b__law_right : SD := sRet (eAnd (eDef g__law_is_small_right [.mv 0]) (eDef g__law_is_great_right [.mv 0]))
def g__law_right : FD := fnD [0] 1 1 b__law_right
def b_law : SD := sSeq (sFor (iAny (eDef g__law_cells [.ex (eVar 0), .ex (eC (.int 2))])) (gNm 1) (sSeq (sSet 2 (eDef g__law_pot [.ex (eVar 0), .ex (eVar 1)]))
  (sIf (tNotD (tV (eCall allD [.ex (eLc [3] (iRg1 [.ex (eC (.int 3))]) (gNm 3) (tYesD) (eDef g__law_right [.mv 2]))]))) (sRet (eC (.bool false))) (sNx))))
  (sRet (eC (.bool true)))
def g_law : FD := fnD [] 1 4 b_law
end
end K80
/-! orders of a lot: numbers of choices, places, all orders, the next one (plain) -/
namespace K80
def fct : Nat → Nat
  | 0 => 1
  | n + 1 => (n + 1) * fct n
theorem fct_pos : ∀ n, 0 < fct n
  | 0 => Nat.one_pos
  | n + 1 => Nat.mul_pos (Nat.succ_pos n) (fct_pos n)
def ch : Nat → Nat → Nat
  | _, 0 => 1
  | 0, _ + 1 => 0
  | n + 1, k + 1 => ch n k + ch n (k + 1)
theorem ch_zero : ∀ n, ch n 0 = 1
  | 0 => rfl
  | _ + 1 => rfl
theorem ch_big : ∀ n k, n < k → ch n k = 0
  | 0, k + 1, _ => rfl
  | n + 1, k + 1, h => by
    have h1 := ch_big n k (by omega)
    have h2 := ch_big n (k + 1) (by omega)
    simp [ch, h1, h2]
theorem ch_step : ∀ n k, (k + 1) * ch n (k + 1) = (n - k) * ch n k
  | 0, k => by simp [ch]
  | n + 1, 0 => by
    have h := ch_step n 0
    have h0 : ch n 0 = 1 := ch_zero n
    have h2 : ch (n + 1) (0 + 1) = ch n 0 + ch n (0 + 1) := rfl
    have h3 : ch (n + 1) 0 = 1 := rfl
    rw [h2, h3, h0]
    rw [h0] at h
    omega
  | n + 1, k + 1 => by
    have h1 := ch_step n k
    have h2 := ch_step n (k + 1)
    have e1 : ch (n + 1) (k + 1 + 1) = ch n (k + 1) + ch n (k + 1 + 1) := rfl
    have e2 : ch (n + 1) (k + 1) = ch n k + ch n (k + 1) := rfl
    rw [e1, e2, Nat.mul_add, h2]
    by_cases hk : k < n
    · have a1 : n + 1 - (k + 1) = n - k := by omega
      have a2 : n - (k + 1) + 1 = n - k := by omega
      rw [a1, Nat.mul_add, ← h1]
      have a3 : (n - k) * ch n (k + 1) = (n - (k + 1)) * ch n (k + 1) + ch n (k + 1) := by rw [← a2, Nat.succ_mul]
      rw [a3]
      have a4 : (k + 1 + 1) * ch n (k + 1) = (k + 1) * ch n (k + 1) + ch n (k + 1) := Nat.succ_mul _ _
      omega
    · have z1 : ch n (k + 1) = 0 := ch_big n (k + 1) (by omega)
      rw [z1]
      have a1 : n + 1 - (k + 1) = 0 := by omega
      rw [a1]
      simp
theorem ch_fct : ∀ n k, k ≤ n → ch n k * (fct k * fct (n - k)) = fct n
  | n, 0, _ => by rw [ch_zero]; simp [fct]
  | n, k + 1, h => by
    have ih := ch_fct n k (by omega)
    have hs := ch_step n k
    have e1 : n - k = n - (k + 1) + 1 := by omega
    have e2 : fct (n - k) = (n - k) * fct (n - (k + 1)) := by rw [e1]; rfl
    rw [e2] at ih
    have e3 : fct (k + 1) = (k + 1) * fct k := rfl
    rw [e3]
    calc ch n (k + 1) * ((k + 1) * fct k * fct (n - (k + 1))) = ((k + 1) * ch n (k + 1)) * (fct k * fct (n - (k + 1))) := by
          simp only [Nat.mul_assoc, Nat.mul_left_comm, Nat.mul_comm]
      _ = (n - k) * ch n k * (fct k * fct (n - (k + 1))) := by rw [hs]
      _ = ch n k * (fct k * ((n - k) * fct (n - (k + 1)))) := by simp only [Nat.mul_assoc, Nat.mul_left_comm, Nat.mul_comm]
      _ = fct n := ih
/-- many_orders -/
def mo : Nat → Nat → List Nat → Nat
  | _, f, [] => f
  | e, f, m :: ms => mo (e + m) (f * ch (e + m) m) ms
def pf : List Nat → Nat
  | [] => 1
  | m :: ms => fct m * pf ms
theorem pf_pos : ∀ l, 0 < pf l
  | [] => Nat.one_pos
  | m :: ms => Nat.mul_pos (fct_pos m) (pf_pos ms)
theorem mo_fct : ∀ (ms : List Nat) (e f : Nat), mo e f ms * (pf ms * fct e) = f * fct (e + ms.sum)
  | [], e, f => by simp [mo, pf]
  | m :: ms, e, f => by
    have ih := mo_fct ms (e + m) (f * ch (e + m) m)
    have h := ch_fct (e + m) m (by omega)
    rw [show e + m - m = e by omega] at h
    have hp : 0 < fct (e + m) := fct_pos _
    rw [List.sum_cons, show e + (m + ms.sum) = e + m + ms.sum by omega]
    -- cancel fct (e + m)
    apply Nat.eq_of_mul_eq_mul_right hp
    calc mo e f (m :: ms) * (pf (m :: ms) * fct e) * fct (e + m)
        = mo (e + m) (f * ch (e + m) m) ms * (pf ms * fct (e + m)) * (fct m * fct e) := by
          simp only [mo, pf, Nat.mul_assoc, Nat.mul_left_comm, Nat.mul_comm]
      _ = f * ch (e + m) m * fct (e + m + ms.sum) * (fct m * fct e) := by rw [ih]
      _ = f * fct (e + m + ms.sum) * (ch (e + m) m * (fct m * fct e)) := by simp only [Nat.mul_assoc, Nat.mul_left_comm, Nat.mul_comm]
      _ = f * fct (e + m + ms.sum) * fct (e + m) := by rw [h]
def M (lot : List Nat) : Nat := mo 0 1 lot
theorem M_fct (lot : List Nat) : M lot * pf lot = fct lot.sum := by
  have h := mo_fct lot 0 1
  simp only [fct, Nat.mul_one, Nat.one_mul, Nat.zero_add] at h
  exact h
theorem M_pos (lot : List Nat) : 0 < M lot := by
  have h := M_fct lot
  have h2 := fct_pos lot.sum
  rcases Nat.eq_zero_or_pos (M lot) with z | z
  · rw [z, Nat.zero_mul] at h; omega
  · exact z
theorem M_div (lot : List Nat) : fct lot.sum / pf lot = M lot := by
  rw [← M_fct lot]
  exact Nat.mul_div_cancel _ (pf_pos lot)
/-- one less of a sign -/
def dec (lot : List Nat) (s : Nat) : List Nat := lot.set s (lot.getD s 0 - 1)
theorem dec_length (lot : List Nat) (s : Nat) : (dec lot s).length = lot.length := by simp [dec]
theorem pf_dec : ∀ (lot : List Nat) (s : Nat), 0 < lot.getD s 0 → pf lot = lot.getD s 0 * pf (dec lot s)
  | [], s, h => by simp at h
  | m :: ms, 0, h => by
    have h : 0 < m := by simpa using h
    obtain ⟨k, rfl⟩ : ∃ k, m = k + 1 := ⟨m - 1, by omega⟩
    simp [dec, pf, fct, Nat.mul_assoc]
  | m :: ms, s + 1, h => by
    have ih := pf_dec ms s (by simpa using h)
    have e : dec (m :: ms) (s + 1) = m :: dec ms s := by simp [dec]
    rw [e]
    have e2 : (m :: ms).getD (s + 1) 0 = ms.getD s 0 := by simp
    rw [e2]
    simp only [pf]
    rw [ih, Nat.mul_left_comm]
theorem sum_dec : ∀ (lot : List Nat) (s : Nat), 0 < lot.getD s 0 → (dec lot s).sum + 1 = lot.sum
  | [], s, h => by simp at h
  | m :: ms, 0, h => by
    have h : 0 < m := by simpa using h
    simp [dec]; omega
  | m :: ms, s + 1, h => by
    have ih := sum_dec ms s (by simpa using h)
    have e : dec (m :: ms) (s + 1) = m :: dec ms s := by simp [dec]
    rw [e]
    simp only [List.sum_cons]; omega
/-- the orders that begin with s -/
def term (lot : List Nat) (s : Nat) : Nat := if 0 < lot.getD s 0 then M (dec lot s) else 0
def below (lot : List Nat) (s : Nat) : Nat := ((List.range s).map (term lot)).sum
theorem below_zero (lot : List Nat) : below lot 0 = 0 := rfl
theorem below_succ (lot : List Nat) (s : Nat) : below lot (s + 1) = below lot s + term lot s := by
  simp [below, List.range_succ]
theorem below_mono (lot : List Nat) {s t : Nat} (h : s ≤ t) : below lot s ≤ below lot t := by
  induction t with
  | zero => have : s = 0 := by omega
            subst this; exact Nat.le_refl _
  | succ t ih =>
    by_cases e : s = t + 1
    · subst e; exact Nat.le_refl _
    · rw [below_succ]; have := ih (by omega); omega
theorem below_same (lot : List Nat) {s t : Nat} (h : s ≤ t) (z : ∀ u, s ≤ u → u < t → lot.getD u 0 = 0) : below lot t = below lot s := by
  induction t with
  | zero => have : s = 0 := by omega
            subst this; rfl
  | succ t ih =>
    by_cases e : s = t + 1
    · subst e; rfl
    · rw [below_succ, ih (by omega) fun u h1 h2 => z u h1 (by omega)]
      have := z t (by omega) (by omega)
      unfold term
      rw [if_neg (by omega), Nat.add_zero]
theorem sum_take : ∀ (lot : List Nat) (s : Nat), (lot.take (s + 1)).sum = (lot.take s).sum + lot.getD s 0
  | [], s => by simp
  | m :: ms, 0 => by simp
  | m :: ms, s + 1 => by
    simp only [List.take_succ_cons, List.sum_cons]
    rw [sum_take ms s]
    simp; omega
theorem below_pf {n : Nat} (lot : List Nat) (hn : lot.sum = n + 1) : ∀ s, below lot s * pf lot = (lot.take s).sum * fct n
  | 0 => by simp [below]
  | s + 1 => by
    rw [below_succ, Nat.add_mul, below_pf lot hn s, sum_take, Nat.add_mul]
    congr 1
    unfold term
    split
    · rename_i h
      have h1 := M_fct (dec lot s)
      have h2 := sum_dec lot s h
      rw [show (dec lot s).sum = n by omega] at h1
      rw [pf_dec lot s h, ← h1]
      simp only [Nat.mul_assoc, Nat.mul_left_comm, Nat.mul_comm]
    · rename_i h
      have : lot.getD s 0 = 0 := by omega
      rw [this]; simp
theorem below_all {n : Nat} (lot : List Nat) (hn : lot.sum = n + 1) : below lot lot.length = M lot := by
  have h := below_pf lot hn lot.length
  rw [List.take_length, hn] at h
  have h2 := M_fct lot
  rw [hn] at h2
  have e : fct (n + 1) = (n + 1) * fct n := rfl
  rw [e] at h2
  exact Nat.eq_of_mul_eq_mul_right (pf_pos lot) (h.trans h2.symm)
/-- how many of each sign -/
def cnt (k : Nat) (row : List Nat) : List Nat := (List.range k).map fun s => row.count s
theorem cnt_length (k : Nat) (row : List Nat) : (cnt k row).length = k := by simp [cnt]
theorem cnt_get (k : Nat) (row : List Nat) (s : Nat) : (cnt k row).getD s 0 = if s < k then row.count s else 0 := by
  unfold cnt
  by_cases h : s < k
  · rw [if_pos h, List.getD_eq_getElem?_getD]; simp [h]
  · rw [if_neg h, List.getD_eq_getElem?_getD, List.getElem?_eq_none (by simp; omega)]; rfl
theorem cnt_dec (k : Nat) (s : Nat) (row : List Nat) (h : s < k) : dec (cnt k (s :: row)) s = cnt k row := by
  apply List.ext_getElem?
  intro i
  unfold dec
  rw [cnt_get, if_pos h]
  by_cases e : s = i
  · subst e
    rw [List.getElem?_set_self (by rw [cnt_length]; exact h)]
    simp [cnt, h]
  · rw [List.getElem?_set_ne e]
    unfold cnt
    by_cases hi : i < k
    · simp [hi, List.count_cons_of_ne e]
    · rw [List.getElem?_eq_none (by simp; omega), List.getElem?_eq_none (by simp; omega)]
theorem cnt_pos (k : Nat) (s : Nat) (row : List Nat) (h : s < k) : 0 < (cnt k (s :: row)).getD s 0 := by
  rw [cnt_get, if_pos h]; simp
theorem cnt_sum : ∀ (k : Nat) (row : List Nat), (∀ x ∈ row, x < k) → (cnt k row).sum = row.length
  | k, [], _ => by
    have : cnt k [] = List.replicate k 0 := by
      unfold cnt
      apply List.ext_getElem?
      intro i
      by_cases hi : i < k
      · simp [hi]
      · rw [List.getElem?_eq_none (by simp; omega), List.getElem?_eq_none (by simp; omega)]
    rw [this]; simp
  | k, s :: row, h => by
    have h1 := sum_dec (cnt k (s :: row)) s (cnt_pos k s row (h s (by simp)))
    rw [cnt_dec k s row (h s (by simp)), cnt_sum k row fun x hx => h x (by simp [hx])] at h1
    simp; omega
/-- the place of an order -/
def place : List Nat → List Nat → Nat
  | [], _ => 0
  | s :: row, lot => below lot s + place row (dec lot s)
def pl (k : Nat) (row : List Nat) : Nat := place row (cnt k row)
theorem pl_cons (k s : Nat) (row : List Nat) (h : s < k) : pl k (s :: row) = below (cnt k (s :: row)) s + pl k row := by
  unfold pl
  rw [place, cnt_dec k s row h]
def MR (k : Nat) (row : List Nat) : Nat := M (cnt k row)
theorem MR_nil (k : Nat) : MR k [] = 1 := by
  have h := M_fct (cnt k [])
  rw [cnt_sum k [] (by simp)] at h
  have e : fct ([] : List Nat).length = 1 := rfl
  rw [e] at h
  exact Nat.eq_one_of_mul_eq_one_right h
theorem term_cnt (k s : Nat) (row : List Nat) (h : s < k) : term (cnt k (s :: row)) s = MR k row := by
  unfold term
  rw [if_pos (cnt_pos k s row h), cnt_dec k s row h]
  rfl
theorem below_cnt (k s : Nat) (row : List Nat) (h : ∀ x ∈ s :: row, x < k) : below (cnt k (s :: row)) k = MR k (s :: row) := by
  have z := below_all (n := row.length) (cnt k (s :: row)) (by rw [cnt_sum k _ h]; rfl)
  rw [cnt_length] at z
  exact z
theorem pl_lt : ∀ (k : Nat) (row : List Nat), (∀ x ∈ row, x < k) → pl k row < MR k row
  | k, [], _ => by rw [MR_nil]; exact Nat.one_pos
  | k, s :: row, h => by
    have hs := h s (by simp)
    have ih := pl_lt k row fun x hx => h x (by simp [hx])
    rw [pl_cons k s row hs, ← below_cnt k s row h]
    have h1 := below_mono (cnt k (s :: row)) (show s + 1 ≤ k from hs)
    rw [below_succ, term_cnt k s row hs] at h1
    omega
/-- an order that ascends is the first -/
theorem pl_asc : ∀ (k : Nat) (row : List Nat), (∀ x ∈ row, x < k) → row.Pairwise (· ≤ ·) → pl k row = 0
  | k, [], _, _ => rfl
  | k, s :: row, h, hp => by
    have hp := List.pairwise_cons.mp hp
    rw [pl_cons k s row (h s (by simp)), pl_asc k row (fun x hx => h x (by simp [hx])) hp.2]
    rw [below_same (cnt k (s :: row)) (Nat.zero_le s) fun u _ hu => ?_]
    · rfl
    · rw [cnt_get]
      split
      · apply List.count_eq_zero_of_not_mem
        intro hm
        rcases List.mem_cons.mp hm with e | hm
        · omega
        · have := hp.1 u hm; omega
      · rfl
/-- one that descends is the last -/
theorem pl_desc : ∀ (k : Nat) (row : List Nat), (∀ x ∈ row, x < k) → row.Pairwise (· ≥ ·) → pl k row + 1 = MR k row
  | k, [], _, _ => by rw [MR_nil]; rfl
  | k, s :: row, h, hp => by
    have hs := h s (by simp)
    have hp := List.pairwise_cons.mp hp
    have ih := pl_desc k row (fun x hx => h x (by simp [hx])) hp.2
    rw [pl_cons k s row hs, ← below_cnt k s row h]
    rw [below_same (cnt k (s :: row)) (show s + 1 ≤ k from hs) fun u hu _ => ?_]
    · rw [below_succ, term_cnt k s row hs]; omega
    · rw [cnt_get]
      split
      · apply List.count_eq_zero_of_not_mem
        intro hm
        rcases List.mem_cons.mp hm with e | hm
        · omega
        · have := hp.1 u hm; omega
      · omega
theorem cnt_perm (k : Nat) {a b : List Nat} (h : a.Perm b) : cnt k a = cnt k b := by
  unfold cnt
  apply List.map_congr_left
  intro s _
  exact h.count_eq s
theorem pl_pre : ∀ (k : Nat) (pre a b : List Nat), (∀ x ∈ pre, x < k) → a.Perm b → (pl k b : Int) - pl k a = pl k (pre ++ b) - pl k (pre ++ a)
  | k, [], a, b, _, _ => rfl
  | k, s :: pre, a, b, h, hp => by
    have ih := pl_pre k pre a b (fun x hx => h x (by simp [hx])) hp
    rw [List.cons_append, List.cons_append, pl_cons k s _ (h s (by simp)), pl_cons k s _ (h s (by simp)), ih]
    rw [cnt_perm k (show (s :: (pre ++ b)).Perm (s :: (pre ++ a)) from (hp.symm.append_left pre).cons s)]
    omega
/-- the next order -/
theorem pl_next (k : Nat) (pre S1 S2 : List Nat) (a b : Nat) (h : ∀ x ∈ pre ++ a :: (S1 ++ b :: S2), x < k) (hd : (S1 ++ b :: S2).Pairwise (· ≥ ·)) (hab : a < b) (h2 : ∀ x ∈ S2, x ≤ a) :
    pl k (pre ++ b :: (S1 ++ a :: S2).reverse) = pl k (pre ++ a :: (S1 ++ b :: S2)) + 1 := by
  have hperm : (a :: (S1 ++ b :: S2)).Perm (b :: (S1 ++ a :: S2).reverse) := by
    have p1 : (b :: (S1 ++ a :: S2).reverse).Perm (b :: (S1 ++ a :: S2)) := (List.reverse_perm _).cons b
    have p2 : (S1 ++ a :: S2).Perm (a :: (S1 ++ S2)) := List.perm_middle
    have p3 : (S1 ++ b :: S2).Perm (b :: (S1 ++ S2)) := List.perm_middle
    exact ((p3.cons a).trans (List.Perm.swap b a _)).trans ((p2.symm.cons b).trans p1.symm)
  have hpre : ∀ x ∈ pre, x < k := fun x hx => h x (by simp [hx])
  have hin : ∀ x ∈ a :: (S1 ++ b :: S2), x < k := fun x hx => h x (List.mem_append_right _ hx)
  have hout : ∀ x ∈ b :: (S1 ++ a :: S2).reverse, x < k := fun x hx => hin x (hperm.mem_iff.mpr hx)
  have key : pl k (b :: (S1 ++ a :: S2).reverse) = pl k (a :: (S1 ++ b :: S2)) + 1 := by
    have hak := hin a (by simp)
    have hbk := hout b (by simp)
    rw [pl_cons k b _ hbk, pl_cons k a _ hak, cnt_perm k hperm.symm]
    have hS := List.pairwise_append.mp hd
    have hS2 := List.pairwise_cons.mp hS.2.1
    have asc : ((S1 ++ a :: S2).reverse).Pairwise (· ≤ ·) := by
      rw [List.pairwise_reverse]
      refine List.pairwise_append.mpr ⟨hS.1, List.pairwise_cons.mpr ⟨fun x hx => h2 x hx, hS2.2⟩, fun x hx y hy => ?_⟩
      rcases List.mem_cons.mp hy with rfl | hy
      · have := hS.2.2 x hx b (by simp)
        omega
      · exact hS.2.2 x hx y (by simp [hy])
    rw [pl_asc k _ (fun x hx => hout x (by simp only [List.mem_cons]; exact .inr hx)) asc]
    have last := pl_desc k (S1 ++ b :: S2) (fun x hx => hin x (by simp only [List.mem_cons]; exact .inr hx)) hd
    have mid : below (cnt k (a :: (S1 ++ b :: S2))) b = below (cnt k (a :: (S1 ++ b :: S2))) (a + 1) := by
      refine below_same _ (show a + 1 ≤ b from hab) fun u hu hub => ?_
      rw [cnt_get]
      split
      · apply List.count_eq_zero_of_not_mem
        intro hm
        rcases List.mem_cons.mp hm with e | hm
        · omega
        · rcases List.mem_append.mp hm with hm | hm
          · have := hS.2.2 u hm b (by simp); omega
          · rcases List.mem_cons.mp hm with e | hm
            · omega
            · have := h2 u hm; omega
      · rfl
    rw [mid, below_succ, term_cnt k a _ hak]
    omega
  have z := pl_pre k pre _ _ hpre hperm
  omega
/-! ### all orders -/
/-- one reading more behind -/
def ext (k : Nat) (lot row : List Nat) : List (List Nat) := ((List.range k).filter fun s => decide (row.count s < lot.getD s 0)).map fun s => row ++ [s]
def bfs (k : Nat) (lot : List Nat) : Nat → List (List Nat)
  | 0 => [[]]
  | n + 1 => (bfs k lot n).flatMap (ext k lot)
def front (k : Nat) (lot : List Nat) (n : Nat) (s : Nat) : List (List Nat) := if 0 < lot.getD s 0 then (bfs k (dec lot s) n).map (s :: ·) else []
theorem dec_get (lot : List Nat) (s t : Nat) (h : 0 < lot.getD s 0) : (dec lot s).getD t 0 = if s = t then lot.getD t 0 - 1 else lot.getD t 0 := by
  have hs : s < lot.length := by
    rcases Nat.lt_or_ge s lot.length with q | q
    · exact q
    · rw [List.getD_eq_getElem?_getD, List.getElem?_eq_none q] at h
      simp at h
  unfold dec
  by_cases e : s = t
  · subst e
    rw [if_pos rfl, List.getD_eq_getElem?_getD, List.getElem?_set_self hs]
    rfl
  · rw [if_neg e, List.getD_eq_getElem?_getD, List.getElem?_set_ne e, ← List.getD_eq_getElem?_getD]
theorem ext_cons (k : Nat) (lot row : List Nat) (s : Nat) (h : 0 < lot.getD s 0) : ext k lot (s :: row) = (ext k (dec lot s) row).map (s :: ·) := by
  unfold ext
  rw [List.map_map]
  have e : (fun t => decide ((s :: row).count t < lot.getD t 0)) = fun t => decide (row.count t < (dec lot s).getD t 0) := by
    funext t
    rw [dec_get lot s t h]
    by_cases q : s = t
    · subst q
      rw [if_pos rfl, List.count_cons_self]
      have : row.count s + 1 < lot.getD s 0 ↔ row.count s < lot.getD s 0 - 1 := by omega
      simp only [this]
    · rw [if_neg q, List.count_cons_of_ne q]
  rw [e]
  rfl
theorem flatMap_filter {β : Type} (p : Nat → Bool) (g : Nat → β) : ∀ l : List Nat, (l.filter p).map g = l.flatMap fun s => if p s = true then [g s] else []
  | [] => rfl
  | a :: l => by
    rw [List.flatMap_cons, ← flatMap_filter p g l]
    cases h : p a <;> simp [h]
theorem bfs_front (k : Nat) : ∀ (n : Nat) (lot : List Nat), bfs k lot (n + 1) = (List.range k).flatMap (front k lot n)
  | 0, lot => by
    show ([[]] : List (List Nat)).flatMap (ext k lot) = _
    rw [List.flatMap_cons, List.flatMap_nil, List.append_nil]
    unfold ext
    rw [flatMap_filter]
    congr 1
    funext s
    unfold front
    by_cases h : 0 < lot.getD s 0
    · have d : decide (([] : List Nat).count s < lot.getD s 0) = true := decide_eq_true h
      rw [d, if_pos rfl, if_pos h]
      rfl
    · have d : decide (([] : List Nat).count s < lot.getD s 0) = false := decide_eq_false h
      rw [d, if_neg (by simp), if_neg h]
  | n + 1, lot => by
    show (bfs k lot (n + 1)).flatMap (ext k lot) = _
    rw [bfs_front k n lot, List.flatMap_assoc]
    congr 1
    funext s
    unfold front
    by_cases h : 0 < lot.getD s 0
    · rw [if_pos h, if_pos h, List.flatMap_map]
      have e : (fun r => ext k lot (s :: r)) = fun r => (ext k (dec lot s) r).map (s :: ·) := by
        funext r
        exact ext_cons k lot r s h
      show (bfs k (dec lot s) n).flatMap (fun r => ext k lot (s :: r)) = _
      rw [e]
      show _ = ((bfs k (dec lot s) n).flatMap (ext k (dec lot s))).map (s :: ·)
      rw [List.map_flatMap]
    · rw [if_neg h, if_neg h]; rfl
theorem length_flatMap_range {β : Type} (f : Nat → List β) : ∀ k, ((List.range k).flatMap f).length = ((List.range k).map fun s => (f s).length).sum
  | 0 => rfl
  | k + 1 => by
    rw [List.range_succ, List.flatMap_append, List.length_append, length_flatMap_range f k]
    simp
theorem get_flatMap_range {β : Type} (f : Nat → List β) (q : Nat) : ∀ (k s : Nat), s < k → q < (f s).length → ((List.range k).flatMap f)[((List.range s).map fun s => (f s).length).sum + q]? = (f s)[q]?
  | 0, s, h, _ => by omega
  | k + 1, s, h, hq => by
    rw [List.range_succ, List.flatMap_append]
    by_cases e : s = k
    · subst e
      rw [List.getElem?_append_right (by rw [length_flatMap_range]; omega), length_flatMap_range]
      rw [show ((List.range s).map fun s => (f s).length).sum + q - ((List.range s).map fun s => (f s).length).sum = q by omega]
      simp
    · have hs : s < k := by omega
      have ih := get_flatMap_range f q k s hs hq
      have hlt : ((List.range s).map fun s => (f s).length).sum + q < ((List.range k).flatMap f).length := by
        have := List.getElem?_eq_getElem hq
        rw [this] at ih
        exact (List.getElem?_eq_some_iff.mp ih).1
      rw [List.getElem?_append_left hlt]
      exact ih
theorem bfs_len (k : Nat) : ∀ (n : Nat) (lot : List Nat), lot.length = k → lot.sum = n → (bfs k lot n).length = M lot
  | 0, lot, _, hn => by
    have h := M_fct lot
    rw [hn] at h
    have e : fct 0 = 1 := rfl
    rw [e] at h
    have := Nat.eq_one_of_mul_eq_one_right h
    rw [this]; rfl
  | n + 1, lot, hk, hn => by
    rw [bfs_front, length_flatMap_range, ← below_all lot hn, hk]
    unfold below
    congr 1
    apply List.map_congr_left
    intro s hs
    unfold front term
    split
    · rename_i h
      rw [List.length_map]
      exact bfs_len k n (dec lot s) (by rw [dec_length]; exact hk) (by have := sum_dec lot s h; omega)
    · rfl
theorem front_len (k n : Nat) (lot : List Nat) (hk : lot.length = k) (hn : lot.sum = n + 1) (s : Nat) : (front k lot n s).length = term lot s := by
  unfold front term
  split
  · rename_i h
    rw [List.length_map]
    exact bfs_len k n (dec lot s) (by rw [dec_length]; exact hk) (by have := sum_dec lot s h; omega)
  · rfl
/-- an order stands at its place -/
theorem bfs_at : ∀ (k : Nat) (row : List Nat), (∀ x ∈ row, x < k) → (bfs k (cnt k row) row.length)[pl k row]? = some row
  | k, [], _ => rfl
  | k, s :: row, h => by
    have hs := h s (by simp)
    have hrow : ∀ x ∈ row, x < k := fun x hx => h x (by simp [hx])
    have ih := bfs_at k row hrow
    have hsum : (cnt k (s :: row)).sum = row.length + 1 := by rw [cnt_sum k _ h]; rfl
    rw [List.length_cons, bfs_front, pl_cons k s row hs]
    have e : below (cnt k (s :: row)) s = ((List.range s).map fun t => (front k (cnt k (s :: row)) row.length t).length).sum := by
      unfold below
      congr 1
      apply List.map_congr_left
      intro t _
      exact (front_len k row.length _ (cnt_length k _) hsum t).symm
    have hf : front k (cnt k (s :: row)) row.length s = (bfs k (cnt k row) row.length).map (s :: ·) := by
      unfold front
      rw [if_pos (cnt_pos k s row hs), cnt_dec k s row hs]
    have hlt : pl k row < (front k (cnt k (s :: row)) row.length s).length := by
      rw [hf, List.length_map]
      exact (List.getElem?_eq_some_iff.mp ih).1
    rw [e, get_flatMap_range (front k (cnt k (s :: row)) row.length) (pl k row) k s hs hlt, hf, List.getElem?_map, ih]
    rfl
theorem zero_of_sum : ∀ (l : List Nat), l.sum = 0 → ∀ x ∈ l, x = 0
  | [], _, x, hx => by cases hx
  | a :: l, h, x, hx => by
    simp only [List.sum_cons] at h
    rcases List.mem_cons.mp hx with rfl | hx
    · omega
    · exact zero_of_sum l (by omega) x hx
theorem cnt_undec (lot row : List Nat) (s : Nat) (hs : 0 < lot.getD s 0) (h2 : cnt lot.length row = dec lot s) : s < lot.length ∧ cnt lot.length (s :: row) = lot := by
  have hsl : s < lot.length := by
    rcases Nat.lt_or_ge s lot.length with q | q
    · exact q
    · rw [List.getD_eq_getElem?_getD, List.getElem?_eq_none q] at hs
      simp at hs
  refine ⟨hsl, ?_⟩
  have e := cnt_dec lot.length s row hsl
  rw [h2] at e
  apply List.ext_getElem?
  intro i
  by_cases hi : i < lot.length
  · have e1 : (cnt lot.length (s :: row)).getD i 0 = lot.getD i 0 := by
      have e2 : (dec (cnt lot.length (s :: row)) s).getD i 0 = (dec lot s).getD i 0 := by rw [e]
      rw [dec_get _ s i (cnt_pos lot.length s row hsl), dec_get _ s i hs] at e2
      by_cases q : s = i
      · subst q
        rw [if_pos rfl, if_pos rfl] at e2
        have := cnt_pos lot.length s row hsl
        omega
      · rw [if_neg q, if_neg q] at e2
        exact e2
    rw [List.getD_eq_getElem?_getD, List.getD_eq_getElem?_getD] at e1
    have l1 : (cnt lot.length (s :: row))[i]? = some ((cnt lot.length (s :: row))[i]'(by rw [cnt_length]; exact hi)) := List.getElem?_eq_getElem _
    have l2 : lot[i]? = some lot[i] := List.getElem?_eq_getElem hi
    rw [l1, l2] at e1 ⊢
    simpa using e1
  · rw [List.getElem?_eq_none (by rw [cnt_length]; omega), List.getElem?_eq_none (by omega)]
theorem cnt_nil (lot : List Nat) (h : lot.sum = 0) : cnt lot.length [] = lot := by
  apply List.ext_getElem?
  intro i
  unfold cnt
  by_cases hi : i < lot.length
  · have h0 : lot[i] = 0 := zero_of_sum lot h _ (List.getElem_mem hi)
    simp [hi, h0]
  · rw [List.getElem?_eq_none (by simp; omega), List.getElem?_eq_none (by omega)]
theorem inv_flatMap_range {β : Type} (f : Nat → List β) (r : β) : ∀ (k i : Nat), ((List.range k).flatMap f)[i]? = some r → ∃ s q, s < k ∧ q < (f s).length ∧ i = ((List.range s).map fun s => (f s).length).sum + q ∧ (f s)[q]? = some r
  | 0, i, h => by simp at h
  | k + 1, i, h => by
    rw [List.range_succ, List.flatMap_append] at h
    by_cases hi : i < ((List.range k).flatMap f).length
    · rw [List.getElem?_append_left hi] at h
      obtain ⟨s, q, h1, h2, h3, h4⟩ := inv_flatMap_range f r k i h
      exact ⟨s, q, by omega, h2, h3, h4⟩
    · rw [List.getElem?_append_right (by omega), length_flatMap_range] at h
      rw [length_flatMap_range] at hi
      have h : (f k)[i - ((List.range k).map fun s => (f s).length).sum]? = some r := by simpa using h
      exact ⟨k, i - ((List.range k).map fun s => (f s).length).sum, by omega, (List.getElem?_eq_some_iff.mp h).1, by omega, h⟩
/-- each place is that of an order -/
theorem bfs_get (k : Nat) : ∀ (n : Nat) (lot : List Nat), lot.length = k → lot.sum = n → ∀ (i : Nat) (r : List Nat), (bfs k lot n)[i]? = some r → (∀ x ∈ r, x < k) ∧ cnt k r = lot ∧ pl k r = i ∧ r.length = n
  | 0, lot, hk, hn, i, r, h => by
    have h : ([[]] : List (List Nat))[i]? = some r := h
    cases i with
    | succ i => simp at h
    | zero =>
      have h : [] = r := by simpa using h
      subst h
      exact ⟨by simp, by rw [← hk]; exact cnt_nil lot hn, rfl, rfl⟩
  | n + 1, lot, hk, hn, i, r, h => by
    rw [bfs_front] at h
    obtain ⟨s, q, h1, h2, h3, h4⟩ := inv_flatMap_range _ r k i h
    have e : ((List.range s).map fun s => (front k lot n s).length).sum = below lot s := by
      unfold below
      congr 1
      apply List.map_congr_left
      intro t _
      exact front_len k n lot hk hn t
    rw [e] at h3
    unfold front at h4
    split at h4
    · rename_i hs
      rw [List.getElem?_map] at h4
      cases h5 : (bfs k (dec lot s) n)[q]? with
      | none => rw [h5] at h4; cases h4
      | some r' =>
        rw [h5] at h4
        have h4 : s :: r' = r := by simpa using h4
        subst h4
        obtain ⟨a1, a2, a3, a4⟩ := bfs_get k n (dec lot s) (by rw [dec_length]; exact hk) (by have := sum_dec lot s hs; omega) q r' h5
        have z := cnt_undec lot r' s hs (by rw [hk]; exact a2)
        rw [hk] at z
        refine ⟨fun x hx => ?_, z.2, ?_, by simp [a4]⟩
        · rcases List.mem_cons.mp hx with rfl | hx
          · exact h1
          · exact a1 x hx
        · rw [pl_cons k s r' h1, z.2, a3, h3]
    · simp at h4
end K80
namespace K80
open PySem DL
abbrev nI (n : Nat) : PyData := .int (n : Int)
abbrev tn (l : List Nat) : PyData := .tuple (l.map nI)
theorem r_is_integer (i : Int) : g_is_integer [.dat (.int i)] = some (.dat (.bool true), [.dat (.int i)]) := by
  simp [fnD, sSeq, sNx, sSet, sExpr, sRet, sIf, sNo, sPar, sAsg, gNm, gsNil, gsCons, gTupD, eC, eVar, eOp, eNeg, eAnd, eOr, eNot, eIf, eChain, eIxG, isSeq, isGro, eTup, eLst, eCall, runD, runA, allDat, eDef, toSV, groIx, eDefEnd, eIsi, tyName, kb1, kb2, kb3, kb4, kb5, kb6, kb7, kb8, kb9, kb10, kb11, kb12, kb13, kb14, tV, tNotD, tAndD, tOrD, okG, okB, fnEnd, RV.d, RV.sv, ap_sub, ap_lt, ap_le, ap_gt, ap_ge, ap_add, ap_mul, ap_div, ap_mod, ap_pow, ixD, lenD, intD, absD, maxD2, minD2, sumD, tupleD, listD, isND, notND, isNone, tYesD, g_is_integer, b_is_integer]
theorem r_is_between (i a b : Int) : g_is_between [.dat (.int i), .dat (.int a), .dat (.int b)] = some (.dat (.bool (decide (a ≤ i) && decide (i ≤ b))), [.dat (.int i), .dat (.int a), .dat (.int b)]) := by
  by_cases h : a ≤ i
  · simp [fnD, sSeq, sNx, sSet, sExpr, sRet, sIf, sNo, sPar, sAsg, gNm, gsNil, gsCons, gTupD, eC, eVar, eOp, eNeg, eAnd, eOr, eNot, eIf, eChain, eIxG, isSeq, isGro, eTup, eLst, eCall, runD, runA, allDat, eDef, toSV, groIx, eDefEnd, eIsi, tyName, kb1, kb2, kb3, kb4, kb5, kb6, kb7, kb8, kb9, kb10, kb11, kb12, kb13, kb14, tV, tNotD, tAndD, tOrD, okG, okB, fnEnd, RV.d, RV.sv, ap_sub, ap_lt, ap_le, ap_gt, ap_ge, ap_add, ap_mul, ap_div, ap_mod, ap_pow, ixD, lenD, intD, absD, maxD2, minD2, sumD, tupleD, listD, isND, notND, isNone, tYesD, g_is_between, b_is_between, r_is_integer, h]
  · simp [fnD, sSeq, sNx, sSet, sExpr, sRet, sIf, sNo, sPar, sAsg, gNm, gsNil, gsCons, gTupD, eC, eVar, eOp, eNeg, eAnd, eOr, eNot, eIf, eChain, eIxG, isSeq, isGro, eTup, eLst, eCall, runD, runA, allDat, eDef, toSV, groIx, eDefEnd, eIsi, tyName, kb1, kb2, kb3, kb4, kb5, kb6, kb7, kb8, kb9, kb10, kb11, kb12, kb13, kb14, tV, tNotD, tAndD, tOrD, okG, okB, fnEnd, RV.d, RV.sv, ap_sub, ap_lt, ap_le, ap_gt, ap_ge, ap_add, ap_mul, ap_div, ap_mod, ap_pow, ixD, lenD, intD, absD, maxD2, minD2, sumD, tupleD, listD, isND, notND, isNone, tYesD, g_is_between, b_is_between, r_is_integer, h]
theorem r_checked_signs (k : Nat) (h : 2 ≤ k ∧ k ≤ 6) : g_checked_signs [.dat (nI k)] = some (.dat .none, [.dat (nI k)]) := by
  have h1 : (2 : Int) ≤ k := by omega
  have h2 : (k : Int) ≤ 6 := by omega
  simp [fnD, sSeq, sNx, sSet, sExpr, sRet, sIf, sNo, sPar, sAsg, gNm, gsNil, gsCons, gTupD, eC, eVar, eOp, eNeg, eAnd, eOr, eNot, eIf, eChain, eIxG, isSeq, isGro, eTup, eLst, eCall, runD, runA, allDat, eDef, toSV, groIx, eDefEnd, eIsi, tyName, kb1, kb2, kb3, kb4, kb5, kb6, kb7, kb8, kb9, kb10, kb11, kb12, kb13, kb14, tV, tNotD, tAndD, tOrD, okG, okB, fnEnd, RV.d, RV.sv, ap_sub, ap_lt, ap_le, ap_gt, ap_ge, ap_add, ap_mul, ap_div, ap_mod, ap_pow, ixD, lenD, intD, absD, maxD2, minD2, sumD, tupleD, listD, isND, notND, isNone, tYesD, g_checked_signs, b_checked_signs, r_is_between, nI, h1, h2]
theorem bools_all (n : Nat) : boolsOf (List.replicate n (.bool true)) = some (List.replicate n true) := by
  induction n with
  | zero => rfl
  | succ n ih => simp [List.replicate_succ, boolsOf, ih]
theorem all_true (n : Nat) : allD [.list (List.replicate n (.bool true))] = some (.dat (.bool true)) := by
  simp [allD, bools_all]
theorem fm_const {α : Type} (x : PyData) : ∀ l : List α, (l.filterMap fun _ => some x) = List.replicate l.length x
  | [] => rfl
  | _ :: l => by simp [fm_const x l, List.replicate_succ]
theorem fits {n : Nat} (h : n ≤ 10000) : n ≤ sizeLine := by rw [sizeLine_eq]; omega
theorem r_is_row_of (row : List Nat) (k : Nat) (hl : row.length ≤ 400) (h : ∀ x ∈ row, x < k) : g_is_row_of [.dat (tn row), .dat (nI k)] = some (.dat (.bool true), [.dat (tn row), .dat (nI k)]) := by
  have lc := lc_same (own := [2]) (a := gNm 2) (c := tYesD) (f := eDef g_is_between [.ex (eVar 2), .ex (eC (.int 0)), .ex (eOp subD (eVar 1) (eC (.int 1)))]) (ρ := [.dat (tn row), .dat (nI k), .un]) (fun _ => some (.bool true)) (row.map nI) [] (fits (by simp; omega)) fun d hd => by
    obtain ⟨x, hx, rfl⟩ := List.mem_map.mp hd
    have := h x hx
    have h1 : (x : Int) ≤ (k : Int) - 1 := by omega
    have h0 : (0 : Int) ≤ x := by omega
    simp [fnD, sSeq, sNx, sSet, sExpr, sRet, sIf, sNo, sPar, sAsg, gNm, gsNil, gsCons, gTupD, eC, eVar, eOp, eNeg, eAnd, eOr, eNot, eIf, eChain, eIxG, isSeq, isGro, eTup, eLst, eCall, runD, runA, allDat, eDef, toSV, groIx, eDefEnd, eIsi, tyName, kb1, kb2, kb3, kb4, kb5, kb6, kb7, kb8, kb9, kb10, kb11, kb12, kb13, kb14, tV, tNotD, tAndD, tOrD, okG, okB, fnEnd, RV.d, RV.sv, ap_sub, ap_lt, ap_le, ap_gt, ap_ge, ap_add, ap_mul, ap_div, ap_mod, ap_pow, ixD, lenD, intD, absD, maxD2, minD2, sumD, tupleD, listD, isND, notND, isNone, tYesD, lcStep, r_is_between, h1, h0, wipeD]
  rw [fm_const, List.nil_append, List.length_map] at lc
  have hn : ¬ (400 : Int) < row.length := by omega
  simp [fnD, sSeq, sNx, sSet, sExpr, sRet, sIf, sNo, sPar, sAsg, gNm, gsNil, gsCons, gTupD, eC, eVar, eOp, eNeg, eAnd, eOr, eNot, eIf, eChain, eIxG, isSeq, isGro, eTup, eLst, eCall, runD, runA, allDat, eDef, toSV, groIx, eDefEnd, eIsi, tyName, kb1, kb2, kb3, kb4, kb5, kb6, kb7, kb8, kb9, kb10, kb11, kb12, kb13, kb14, tV, tNotD, tAndD, tOrD, okG, okB, fnEnd, RV.d, RV.sv, ap_sub, ap_lt, ap_le, ap_gt, ap_ge, ap_add, ap_mul, ap_div, ap_mod, ap_pow, ixD, lenD, intD, absD, maxD2, minD2, sumD, tupleD, listD, isND, notND, isNone, tYesD, g_is_row_of, b_is_row_of, hn, eLc, iAny, noGro, wipeD, lc, restD, all_true]
theorem ints_map (l : List Nat) : intsOf (l.map nI) = some (l.map fun (n : Nat) => (n : Int)) := by
  have z := intsOf_map (l.map fun (n : Nat) => (n : Int))
  rw [List.map_map] at z
  exact z
theorem sum_cast (l : List Nat) : (l.map fun (n : Nat) => (n : Int)).sum = (l.sum : Nat) := by
  induction l with
  | nil => rfl
  | cons a l ih => simp [ih]
theorem le_sum : ∀ (l : List Nat), ∀ x ∈ l, x ≤ l.sum
  | [], x, hx => by cases hx
  | a :: l, x, hx => by
    rcases List.mem_cons.mp hx with rfl | hx
    · simp
    · have := le_sum l x hx; simp; omega
theorem r_is_lot (lot : List Nat) (hl : 2 ≤ lot.length ∧ lot.length ≤ 6) (hs : lot.sum ≤ 40) : g_is_lot [.dat (tn lot)] = some (.dat (.bool true), [.dat (tn lot)]) := by
  have lc := lc_same (own := [1]) (a := gNm 1) (c := tYesD) (f := eDef g_is_between [.ex (eVar 1), .ex (eC (.int 0)), .ex (eC (.int 40))]) (ρ := [.dat (tn lot), .un]) (fun _ => some (.bool true)) (lot.map nI) [] (fits (by simp; omega)) fun d hd => by
    obtain ⟨x, hx, rfl⟩ := List.mem_map.mp hd
    have := le_sum lot x hx
    have h1 : (x : Int) ≤ 40 := by omega
    have h0 : (0 : Int) ≤ x := by omega
    simp [fnD, sSeq, sNx, sSet, sExpr, sRet, sIf, sNo, sPar, sAsg, gNm, gsNil, gsCons, gTupD, eC, eVar, eOp, eNeg, eAnd, eOr, eNot, eIf, eChain, eIxG, isSeq, isGro, eTup, eLst, eCall, runD, runA, allDat, eDef, toSV, groIx, eDefEnd, eIsi, tyName, kb1, kb2, kb3, kb4, kb5, kb6, kb7, kb8, kb9, kb10, kb11, kb12, kb13, kb14, tV, tNotD, tAndD, tOrD, okG, okB, fnEnd, RV.d, RV.sv, ap_sub, ap_lt, ap_le, ap_gt, ap_ge, ap_add, ap_mul, ap_div, ap_mod, ap_pow, ixD, lenD, intD, absD, maxD2, minD2, sumD, tupleD, listD, isND, notND, isNone, tYesD, lcStep, r_is_between, h1, h0, wipeD]
  rw [fm_const, List.nil_append, List.length_map] at lc
  have h2 : (2 : Int) ≤ lot.length := by omega
  have h6 : (lot.length : Int) ≤ 6 := by omega
  have h40 : (lot.sum : Int) ≤ 40 := by omega
  simp [fnD, sSeq, sNx, sSet, sExpr, sRet, sIf, sNo, sPar, sAsg, gNm, gsNil, gsCons, gTupD, eC, eVar, eOp, eNeg, eAnd, eOr, eNot, eIf, eChain, eIxG, isSeq, isGro, eTup, eLst, eCall, runD, runA, allDat, eDef, toSV, groIx, eDefEnd, eIsi, tyName, kb1, kb2, kb3, kb4, kb5, kb6, kb7, kb8, kb9, kb10, kb11, kb12, kb13, kb14, tV, tNotD, tAndD, tOrD, okG, okB, fnEnd, RV.d, RV.sv, ap_sub, ap_lt, ap_le, ap_gt, ap_ge, ap_add, ap_mul, ap_div, ap_mod, ap_pow, ixD, lenD, intD, absD, maxD2, minD2, sumD, tupleD, listD, isND, notND, isNone, tYesD, g_is_lot, b_is_lot, h2, h6, eLc, iAny, noGro, wipeD, lc, restD, all_true, ints_map, sum_cast, h40]
theorem r_checked_lot (lot : List Nat) (hl : 2 ≤ lot.length ∧ lot.length ≤ 6) (hs : lot.sum ≤ 40) : g_checked_lot [.dat (tn lot)] = some (.dat .none, [.dat (tn lot)]) := by
  simp [fnD, sSeq, sNx, sSet, sExpr, sRet, sIf, sNo, sPar, sAsg, gNm, gsNil, gsCons, gTupD, eC, eVar, eOp, eNeg, eAnd, eOr, eNot, eIf, eChain, eIxG, isSeq, isGro, eTup, eLst, eCall, runD, runA, allDat, eDef, toSV, groIx, eDefEnd, eIsi, tyName, kb1, kb2, kb3, kb4, kb5, kb6, kb7, kb8, kb9, kb10, kb11, kb12, kb13, kb14, tV, tNotD, tAndD, tOrD, okG, okB, fnEnd, RV.d, RV.sv, ap_sub, ap_lt, ap_le, ap_gt, ap_ge, ap_add, ap_mul, ap_div, ap_mod, ap_pow, ixD, lenD, intD, absD, maxD2, minD2, sumD, tupleD, listD, isND, notND, isNone, tYesD, g_checked_lot, b_checked_lot, r_is_lot lot hl hs]
theorem r_is_short_row (row : List Nat) (k : Nat) (hl : row.length ≤ 40) (h : ∀ x ∈ row, x < k) : g_is_short_row [.dat (tn row), .dat (nI k)] = some (.dat (.bool true), [.dat (tn row), .dat (nI k)]) := by
  have h1 : (row.length : Int) ≤ 40 := by omega
  simp [fnD, sSeq, sNx, sSet, sExpr, sRet, sIf, sNo, sPar, sAsg, gNm, gsNil, gsCons, gTupD, eC, eVar, eOp, eNeg, eAnd, eOr, eNot, eIf, eChain, eIxG, isSeq, isGro, eTup, eLst, eCall, runD, runA, allDat, eDef, toSV, groIx, eDefEnd, eIsi, tyName, kb1, kb2, kb3, kb4, kb5, kb6, kb7, kb8, kb9, kb10, kb11, kb12, kb13, kb14, tV, tNotD, tAndD, tOrD, okG, okB, fnEnd, RV.d, RV.sv, ap_sub, ap_lt, ap_le, ap_gt, ap_ge, ap_add, ap_mul, ap_div, ap_mod, ap_pow, ixD, lenD, intD, absD, maxD2, minD2, sumD, tupleD, listD, isND, notND, isNone, tYesD, g_is_short_row, b_is_short_row, r_is_row_of row k (by omega) h, h1]
/-! ### lots of rows -/
theorem depthAll_ints (l : List Nat) : PyData.depthAll (l.map nI) = 0 := by
  induction l with
  | nil => simp [PyData.depthAll]
  | cons a l ih => simp [PyData.depthAll, PyData.depth, ih]
theorem plainAll_ints (l : List Nat) : PyData.plainAll (l.map nI) = true := by
  induction l with
  | nil => simp [PyData.plainAll]
  | cons a l ih => simp [PyData.plainAll, PyData.plain, ih]
theorem countOk_ints (l : List Nat) (i : Int) : countOk (l.map nI) (.int i) = true := by
  simp [countOk, plainAll_ints, depthAll_ints, PyData.plain]
theorem countP_ints (l : List Nat) (s : Nat) : (l.map nI).countP (fun y => PyData.eqv y (.int (s : Int))) = l.count s := by
  induction l with
  | nil => rfl
  | cons a l ih =>
    rw [List.map_cons, List.countP_cons, List.count_cons, ih]
    have e : PyData.eqv (nI a) (.int (s : Int)) = (a == s) := by
      show PyData.eqv (.int (a : Int)) (.int (s : Int)) = (a == s)
      rw [PyData.eqv]
      by_cases h : a = s
      · subst h; simp
      · have : ¬ (a : Int) = s := by omega
        rw [beq_eq_false_iff_ne.mpr h, beq_eq_false_iff_ne.mpr this]
    rw [e]
theorem rgD_range (n : Nat) : rgD 0 n = (List.range n).map nI := by
  unfold rgD
  apply List.map_congr_left
  intro i _
  simp
theorem small_nat {n : Nat} (h : n ≤ 10000) : small62 (n : Int) = true := by
  unfold small62
  simp only [Bool.and_eq_true, decide_eq_true_eq]
  omega
theorem fm_map {α β : Type} (F : α → β) : ∀ l : List α, (l.filterMap fun x => some (F x)) = l.map F
  | [] => rfl
  | _ :: l => by simp [fm_map F l]
theorem lr0 (row : List Nat) (k : Nat) (hk : k ≤ 100) (i : Nat) : lcStep [2] (gNm 2) tYesD (eCount (eVar 0) (eVar 2)) (nI i) [.dat (tn row), .dat (nI k), .un] = some (some (nI (row.count i)), [.dat (tn row), .dat (nI k), .un]) := by
  have e := countP_ints row i
  simp only [fnD, sSeq, sNx, sSet, sExpr, sRet, sIf, sNo, sPar, sAsg, gNm, gsNil, gsCons, gTupD, eC, eVar, eOp, eNeg, eAnd, eOr, eNot, eIf, eChain, eIxG, isSeq, isGro, eTup, eLst, eCall, runD, runA, allDat, eDef, toSV, groIx, eDefEnd, eIsi, tyName, kb1, kb2, kb3, kb4, kb5, kb6, kb7, kb8, kb9, kb10, kb11, kb12, kb13, kb14, tV, tNotD, tAndD, tOrD, okG, okB, fnEnd, RV.d, RV.sv, ap_sub, ap_lt, ap_le, ap_gt, ap_ge, ap_add, ap_mul, ap_div, ap_mod, ap_pow, ixD, lenD, intD, absD, maxD2, minD2, sumD, tupleD, listD, isND, notND, isNone, tYesD, lcStep, eCount, countOk_ints, e, wipeD, List.getElem?_cons_zero, List.getElem?_cons_succ, List.set_cons_zero, List.set_cons_succ, if_true]
theorem lr1 (row : List Nat) (k : Nat) (hk : k ≤ 100) : lcLoop [2] (gNm 2) tYesD (eCount (eVar 0) (eVar 2)) ((List.range k).map nI) [] [.dat (tn row), .dat (nI k), .un] = some ((cnt k row).map nI, [.dat (tn row), .dat (nI k), .un]) := by
  have lc := lc_fun (own := [2]) (a := gNm 2) (c := tYesD) (f := eCount (eVar 0) (eVar 2)) ((List.range k).map nI) [] (fun _ => [.dat (tn row), .dat (nI k), .un]) (fun i => some (nI (row.count i))) (fits (by simp; omega)) fun i d hd => by
    rw [List.getElem?_map] at hd
    by_cases hi : i < k
    · have hd : nI i = d := by simpa [hi] using hd
      subst hd
      exact lr0 row k hk i
    · rw [List.getElem?_eq_none (by simp; omega)] at hd; cases hd
  rw [fm_map, List.nil_append, List.length_map, List.length_range] at lc
  rw [lc]
  simp [cnt]
theorem lr2 (row : List Nat) (k : Nat) (hk : k ≤ 100) : iRg1 [.ex (eVar 1)] [.dat (tn row), .dat (nI k), .un] = some ((List.range k).map nI, [.dat (tn row), .dat (nI k), .un]) := by
  simp [fnD, sSeq, sNx, sSet, sExpr, sRet, sIf, sNo, sPar, sAsg, gNm, gsNil, gsCons, gTupD, eC, eVar, eOp, eNeg, eAnd, eOr, eNot, eIf, eChain, eIxG, isSeq, isGro, eTup, eLst, eCall, runD, runA, allDat, eDef, toSV, groIx, eDefEnd, eIsi, tyName, kb1, kb2, kb3, kb4, kb5, kb6, kb7, kb8, kb9, kb10, kb11, kb12, kb13, kb14, tV, tNotD, tAndD, tOrD, okG, okB, fnEnd, RV.d, RV.sv, ap_sub, ap_lt, ap_le, ap_gt, ap_ge, ap_add, ap_mul, ap_div, ap_mod, ap_pow, ixD, lenD, intD, absD, maxD2, minD2, sumD, tupleD, listD, isND, notND, isNone, tYesD, iRg1, small_nat (show k ≤ 10000 by omega), rgD_range]
theorem lot_run (row : List Nat) (k : Nat) (hk : k ≤ 100) : eLc [2] (iRg1 [.ex (eVar 1)]) (gNm 2) tYesD (eCount (eVar 0) (eVar 2)) [.dat (tn row), .dat (nI k), .un] = some (.new ((cnt k row).map nI), [.dat (tn row), .dat (nI k), .un]) := by
  exact eLc_run (lr2 row k hk) rfl (lr1 row k hk)
theorem r_lot_in (row : List Nat) (k : Nat) (hk : k ≤ 100) : g_lot_in [.dat (tn row), .dat (nI k)] = some (.dat (tn (cnt k row)), [.dat (tn row), .dat (nI k)]) := by
  exact fn_rt (ρ := [.dat (tn row), .dat (nI k), .un]) rfl rfl (sRet_run (call1_run (lot_run row k hk) rfl)) rfl
theorem r__law_lot (row : List Nat) (k : Nat) (hk : k ≤ 100) : g__law_lot [.dat (tn row), .dat (nI k)] = some (.dat (tn (cnt k row)), [.dat (tn row), .dat (nI k)]) := by
  exact fn_rt (ρ := [.dat (tn row), .dat (nI k), .un]) rfl rfl (sRet_run (call1_run (lot_run row k hk) rfl)) rfl
theorem r_lot_of (row : List Nat) (k : Nat) (hk : 2 ≤ k ∧ k ≤ 6) (hl : row.length ≤ 40) (h : ∀ x ∈ row, x < k) : g_lot_of [.dat (tn row), .dat (nI k)] = some (.dat (tn (cnt k row)), [.dat (tn row), .dat (nI k)]) := by
  have h1 : eDef g_checked_signs [.ex (eVar 1)] [.dat (tn row), .dat (nI k)] = some (.dat .none, [.dat (tn row), .dat (nI k)]) := def_run (runD_cons rfl runD_nil) (r_checked_signs k hk)
  have h2 : eDef g_is_short_row [.ex (eVar 0), .ex (eVar 1)] [.dat (tn row), .dat (nI k)] = some (.dat (.bool true), [.dat (tn row), .dat (nI k)]) := def_run (runD_cons rfl (runD_cons rfl runD_nil)) (r_is_short_row row k hl h)
  have h3 : eDef g_lot_in [.ex (eVar 0), .ex (eVar 1)] [.dat (tn row), .dat (nI k)] = some (.dat (tn (cnt k row)), [.dat (tn row), .dat (nI k)]) := def_run (runD_cons rfl (runD_cons rfl runD_nil)) (r_lot_in row k (by omega))
  exact fn_rt (ρ := [.dat (tn row), .dat (nI k)]) rfl rfl (sSeq_run (sExpr_run h1) (sSeq_run (sIf_f (tNot_run (tV_run h2)) rfl) (sRet_run h3))) rfl
end K80
namespace K80
open PySem DL
/-! ### numbers of choices -/
theorem ch_le : ∀ n k, ch n k ≤ 2 ^ n
  | n, 0 => by rw [ch_zero]; exact Nat.one_le_two_pow
  | 0, k + 1 => by simp [ch]
  | n + 1, k + 1 => by
    have h1 := ch_le n k
    have h2 := ch_le n (k + 1)
    have e : ch (n + 1) (k + 1) = ch n k + ch n (k + 1) := rfl
    have e2 : 2 ^ (n + 1) = 2 ^ n + 2 ^ n := by rw [Nat.pow_succ]; omega
    omega
theorem ch_div (n i : Nat) (h : i < n) : (ch n i : Int) * ((n : Int) - (i : Int)) / ((i : Int) + 1) = (ch n (i + 1) : Nat) := by
  have hs := ch_step n i
  have e : (ch n i : Int) * ((n : Int) - (i : Int)) = (ch n (i + 1) : Nat) * ((i : Int) + 1) := by
    have e1 : ((n : Int) - (i : Int)) = ((n - i : Nat) : Int) := by omega
    have e2 : ((i : Int) + 1) = ((i + 1 : Nat) : Int) := by omega
    rw [e1, e2, ← Int.natCast_mul, ← Int.natCast_mul]
    congr 1
    rw [Nat.mul_comm, ← hs, Nat.mul_comm]
  rw [e]
  exact Int.mul_ediv_cancel _ (by omega)
theorem natAbs_nat (n : Nat) : (n : Int).natAbs = n := rfl
theorem r_choices_of (n k : Nat) (hk : k ≤ n) (hn : n ≤ 40) : g_choices_of [.dat (nI n), .dat (nI k)] = some (.dat (nI (ch n k)), [.dat (nI n), .dat (nI k)]) := by
  have step : ∀ (i : Nat) (x : SV), i < k → lpStep (gNm 3) (sSet 2 (eOp divD (eOp mulD (eVar 2) (eOp subD (eVar 0) (eVar 3))) (eOp addD (eVar 3) (eC (.int 1))))) (nI i) [.dat (nI n), .dat (nI k), .dat (nI (ch n i)), x] = some (.nx, [.dat (nI n), .dat (nI k), .dat (nI (ch n (i + 1))), .dat (nI i)]) := fun i x hi => by
    have e := ch_div n i (by omega)
    have hc := ch_le n i
    have h40 : (2 : Nat) ^ n ≤ 2 ^ 40 := Nat.pow_le_pow_right (by decide) hn
    have hm : mulD (nI (ch n i)) (.int ((n : Int) - i)) = some (.dat (.int ((ch n i : Int) * ((n : Int) - i)))) := by
      rw [ap_mul, if_pos (bits_of 41 41 (by rw [natAbs_nat]; omega) (by omega))]
    have hd : divD (.int ((ch n i : Int) * ((n : Int) - i))) (.int ((i : Int) + 1)) = some (.dat (.int ((ch n (i + 1) : Nat) : Int))) := by
      rw [ap_div, if_pos (div_of 41 (by omega) (by omega)), e]
    exact sSet_run (ρ1 := [.dat (nI n), .dat (nI k), .dat (nI (ch n i)), .dat (nI i)]) (op_runD (op_runD rfl (op_runD rfl rfl rfl) hm) (op_runD rfl rfl rfl) hd)
  have lp := loop_fun (a := gNm 3) (body := sSet 2 (eOp divD (eOp mulD (eVar 2) (eOp subD (eVar 0) (eVar 3))) (eOp addD (eVar 3) (eC (.int 1))))) ((List.range k).map nI) (fun i => [.dat (nI n), .dat (nI k), .dat (nI (ch n i)), if i = 0 then .un else .dat (nI (i - 1))]) fun i d hd => by
    rw [List.getElem?_map] at hd
    by_cases hi : i < k
    · have hd : nI i = d := by simpa [hi] using hd
      subst hd
      exact step i _ hi
    · rw [List.getElem?_eq_none (by simp; omega)] at hd; cases hd
  rw [List.length_map, List.length_range] at lp
  simp only [ch_zero, if_true] at lp
  have it : iRg1 [.ex (eVar 1)] [.dat (nI n), .dat (nI k), .dat (nI 1), .un] = some ((List.range k).map nI, [.dat (nI n), .dat (nI k), .dat (nI 1), .un]) := by
    simp [fnD, sSeq, sNx, sSet, sExpr, sRet, sIf, sNo, sPar, sAsg, gNm, gsNil, gsCons, gTupD, eC, eVar, eOp, eNeg, eAnd, eOr, eNot, eIf, eChain, eIxG, isSeq, isGro, eTup, eLst, eCall, runD, runA, allDat, eDef, toSV, groIx, eDefEnd, eIsi, tyName, kb1, kb2, kb3, kb4, kb5, kb6, kb7, kb8, kb9, kb10, kb11, kb12, kb13, kb14, tV, tNotD, tAndD, tOrD, okG, okB, fnEnd, RV.d, RV.sv, ap_sub, ap_lt, ap_le, ap_gt, ap_ge, ap_add, ap_mul, ap_div, ap_mod, ap_pow, ixD, lenD, intD, absD, maxD2, minD2, sumD, tupleD, listD, isND, notND, isNone, tYesD, iRg1, small_nat (show k ≤ 10000 by omega), rgD_range]
  have lf : sFor (iRg1 [.ex (eVar 1)]) (gNm 3) (sSet 2 (eOp divD (eOp mulD (eVar 2) (eOp subD (eVar 0) (eVar 3))) (eOp addD (eVar 3) (eC (.int 1))))) [.dat (nI n), .dat (nI k), .dat (nI 1), .un] = some (.nx, [.dat (nI n), .dat (nI k), .dat (nI (ch n k)), if k = 0 then .un else .dat (nI (k - 1))]) := sFor_run it lp
  have l0 : sSet 2 (eC (.int 1)) [.dat (nI n), .dat (nI k), .un, .un] = some (.nx, [.dat (nI n), .dat (nI k), .dat (nI 1), .un]) := rfl
  have l1 : sRet (eVar 2) [.dat (nI n), .dat (nI k), .dat (nI (ch n k)), if k = 0 then .un else .dat (nI (k - 1))] = some (.rt (.dat (nI (ch n k))), [.dat (nI n), .dat (nI k), .dat (nI (ch n k)), if k = 0 then .un else .dat (nI (k - 1))]) := rfl
  have body : b_choices_of [.dat (nI n), .dat (nI k), .un, .un] = some (.rt (.dat (nI (ch n k))), [.dat (nI n), .dat (nI k), .dat (nI (ch n k)), if k = 0 then .un else .dat (nI (k - 1))]) := sSeq_run l0 (sSeq_run lf l1)
  exact fn_rt (ρ := [.dat (nI n), .dat (nI k), .dat (nI (ch n k)), if k = 0 then .un else .dat (nI (k - 1))]) rfl rfl body rfl
theorem mo_le : ∀ (ms : List Nat) (e f : Nat), mo e f ms ≤ f * 2 ^ ((e + ms.sum) * ms.length)
  | [], e, f => by simp [mo]
  | m :: ms, e, f => by
    have ih := mo_le ms (e + m) (f * ch (e + m) m)
    have hc := ch_le (e + m) m
    refine Nat.le_trans ih ?_
    rw [Nat.mul_assoc]
    refine Nat.mul_le_mul_left f ?_
    simp only [List.sum_cons, List.length_cons]
    rw [show e + (m + ms.sum) = e + m + ms.sum by omega, Nat.mul_succ, Nat.pow_add, Nat.mul_comm (2 ^ _)]
    refine Nat.mul_le_mul ?_ (Nat.le_refl _)
    exact Nat.le_trans hc (Nat.pow_le_pow_right (by decide) (by omega))
theorem M_le (lot : List Nat) (hl : lot.length ≤ 6) (hs : lot.sum ≤ 40) : M lot ≤ 2 ^ 240 := by
  have h := mo_le lot 0 1
  rw [Nat.one_mul, Nat.zero_add] at h
  refine Nat.le_trans h (Nat.pow_le_pow_right (by decide) ?_)
  have := Nat.mul_le_mul hs hl
  omega
theorem r_many_orders (lot : List Nat) (hl : lot.length ≤ 6) (hs : lot.sum ≤ 40) : g_many_orders [.dat (tn lot)] = some (.dat (nI (M lot)), [.dat (tn lot)]) := by
  have step : ∀ (e f m : Nat) (x : SV), e + m ≤ 40 → f < 2 ^ 400 → lpStep (gNm 3) (sSeq (sSet 2 (eOp addD (eVar 2) (eVar 3))) (sSet 1 (eOp mulD (eVar 1) (eDef g_choices_of [.ex (eVar 2), .ex (eVar 3)])))) (nI m) [.dat (tn lot), .dat (nI f), .dat (nI e), x] = some (.nx, [.dat (tn lot), .dat (nI (f * ch (e + m) m)), .dat (nI (e + m)), .dat (nI m)]) := fun e f m x hm hf => by
    have hc := ch_le (e + m) m
    have h40 : (2 : Nat) ^ (e + m) ≤ 2 ^ 40 := Nat.pow_le_pow_right (by decide) hm
    have h1 : mulD (nI f) (nI (ch (e + m) m)) = some (.dat (nI (f * ch (e + m) m))) := by
      rw [ap_mul, if_pos (bits_of 400 41 (by rw [natAbs_nat]; exact hf) (by rw [natAbs_nat]; omega))]
      simp
    have h2 : addD (nI e) (nI m) = some (.dat (nI (e + m))) := by rw [ap_add]; simp
    exact lp_run (ρ1 := [.dat (tn lot), .dat (nI f), .dat (nI e), .dat (nI m)]) rfl <| sSeq_run (ρ1 := [.dat (tn lot), .dat (nI f), .dat (nI (e + m)), .dat (nI m)]) (sSet_run (ρ1 := [.dat (tn lot), .dat (nI f), .dat (nI e), .dat (nI m)]) (op_runD rfl rfl h2))
      (sSet_run (ρ1 := [.dat (tn lot), .dat (nI f), .dat (nI (e + m)), .dat (nI m)]) (op_runD rfl (def_run (runD_consD rfl (runD_consD rfl runD_nil)) (r_choices_of (e + m) m (by omega) hm)) h1))
  have key : ∀ (ms : List Nat) (e f : Nat) (x : SV), e + ms.sum ≤ 40 → ms.length ≤ 6 → f * 2 ^ (40 * ms.length) < 2 ^ 400 → ∃ y z, loopD (gNm 3) (sSeq (sSet 2 (eOp addD (eVar 2) (eVar 3))) (sSet 1 (eOp mulD (eVar 1) (eDef g_choices_of [.ex (eVar 2), .ex (eVar 3)])))) (ms.map nI) [.dat (tn lot), .dat (nI f), .dat (nI e), x] = some (.nx, [.dat (tn lot), .dat (nI (mo e f ms)), y, z]) := fun ms => by
    induction ms with
    | nil => intro e f x _ _ _; exact ⟨_, _, rfl⟩
    | cons m ms ih =>
      intro e f x h1 h2 h3
      simp only [List.sum_cons, List.length_cons] at h1 h2 h3
      have hf : f < 2 ^ 400 := Nat.lt_of_le_of_lt (Nat.le_mul_of_pos_right f (Nat.two_pow_pos _)) h3
      have hc := ch_le (e + m) m
      have h40 : (2 : Nat) ^ (e + m) ≤ 2 ^ 40 := Nat.pow_le_pow_right (by decide) (by omega)
      obtain ⟨y, z, q⟩ := ih (e + m) (f * ch (e + m) m) (.dat (nI m)) (by omega) (by omega) (by
        refine Nat.lt_of_le_of_lt ?_ h3
        rw [Nat.mul_assoc, Nat.mul_succ, Nat.pow_add, Nat.mul_comm (2 ^ (40 * ms.length))]
        exact Nat.mul_le_mul_left f (Nat.mul_le_mul_right _ (Nat.le_trans hc h40)))
      exact ⟨y, z, (loop_cons (step e f m x (by omega) hf)).trans q⟩
  obtain ⟨y, z, q⟩ := key lot 0 1 .un (by omega) hl (by
    have : (2 : Nat) ^ (40 * lot.length) ≤ 2 ^ 240 := Nat.pow_le_pow_right (by decide) (by omega)
    refine Nat.lt_of_le_of_lt (Nat.mul_le_mul_left 1 this) (by decide))
  have h0 : sAsg (eTup [.ex (eC (.int 1)), .ex (eC (.int 0))]) (gTupD 2 (gsCons (gNm 1) (gsCons (gNm 2) (gsNil)))) [.dat (tn lot), .un, .un, .un] = some (.nx, [.dat (tn lot), .dat (nI 1), .dat (nI 0), .un]) := by
    simp [fnD, sSeq, sNx, sSet, sExpr, sRet, sIf, sNo, sPar, sAsg, gNm, gsNil, gsCons, gTupD, eC, eVar, eOp, eNeg, eAnd, eOr, eNot, eIf, eChain, eIxG, isSeq, isGro, eTup, eLst, eCall, runD, runA, allDat, eDef, toSV, groIx, eDefEnd, eIsi, tyName, kb1, kb2, kb3, kb4, kb5, kb6, kb7, kb8, kb9, kb10, kb11, kb12, kb13, kb14, tV, tNotD, tAndD, tOrD, okG, okB, fnEnd, RV.d, RV.sv, ap_sub, ap_lt, ap_le, ap_gt, ap_ge, ap_add, ap_mul, ap_div, ap_mod, ap_pow, ixD, lenD, intD, absD, maxD2, minD2, sumD, tupleD, listD, isND, notND, isNone, tYesD, show 2 ≤ sizeLine by decide]
  exact fn_rt (ρ := [.dat (tn lot), .dat (nI (M lot)), y, z]) rfl rfl (sSeq_run h0 (sSeq_run (sFor_run (it := iAny (eVar 0)) (ds := lot.map nI) (ρ1 := [.dat (tn lot), .dat (nI 1), .dat (nI 0), .un]) rfl q) (sRet_run (var_run (d := nI (M lot)) rfl)))) rfl
theorem r_orders_of (lot : List Nat) (hl : 2 ≤ lot.length ∧ lot.length ≤ 6) (hs : lot.sum ≤ 40) : g_orders_of [.dat (tn lot)] = some (.dat (nI (M lot)), [.dat (tn lot)]) :=
  fn_rt (ρ := [.dat (tn lot)]) rfl rfl (sSeq_run (sExpr_run (def_run (runD_consD rfl runD_nil) (r_checked_lot lot hl hs))) (sRet_run (def_run (runD_consD rfl runD_nil) (r_many_orders lot hl.2 hs)))) rfl
/-! ### one less -/
theorem cut_take (l : List PyData) (s : Nat) (h : s ≤ l.length) : cutL l none (some (s : Int)) = l.take s := by
  unfold cutL
  rw [HT.sIx_none, HT.sIx_nat]
  simp [Nat.min_eq_left h]
theorem cut_drop (l : List PyData) (s : Nat) (h : s ≤ l.length) : cutL l (some (s : Int)) none = l.drop s := by
  unfold cutL
  rw [HT.sIx_none, HT.sIx_nat, Nat.min_eq_left h]
  rw [List.take_of_length_le (by simp)]
theorem dec_split (lot : List Nat) (s : Nat) (h : s < lot.length) : dec lot s = lot.take s ++ (lot.getD s 0 - 1) :: lot.drop (s + 1) := by
  unfold dec
  rw [List.set_eq_take_append_cons_drop, if_pos h]
theorem at_ints (lot : List Nat) (s : Nat) (h : s < lot.length) : L2.atI (lot.map nI) (s : Int) = some (nI (lot.getD s 0)) := by
  rw [atI_nat, List.getElem?_map, List.getD_eq_getElem?_getD, List.getElem?_eq_getElem h]
  rfl
theorem r_less_one (lot : List Nat) (s : Nat) (h : s < lot.length) (hp : 0 < lot.getD s 0) (hl : lot.length ≤ 100) : g_less_one [.dat (tn lot), .dat (nI s)] = some (.dat (tn (dec lot s)), [.dat (tn lot), .dat (nI s)]) := by
  have s1 : eSl (eVar 0) pNo (pSome (eVar 1)) [.dat (tn lot), .dat (nI s)] = some (.dat (.tuple ((lot.map nI).take s)), [.dat (tn lot), .dat (nI s)]) := by
    rw [← cut_take _ s (by simp; omega)]
    rfl
  have a1 : addD (nI s) (.int 1) = some (.dat (nI (s + 1))) := by rw [ap_add]; simp
  have s2 : eSl (eVar 0) (pSome (eOp addD (eVar 1) (eC (.int 1)))) pNo [.dat (tn lot), .dat (nI s)] = some (.dat (.tuple ((lot.map nI).drop (s + 1))), [.dat (tn lot), .dat (nI s)]) := by
    have e := op_runD (o := addD) (f := eVar 1) (g := eC (.int 1)) (ρ := [.dat (tn lot), .dat (nI s)]) rfl rfl a1
    have p : pSome (eOp addD (eVar 1) (eC (.int 1))) [.dat (tn lot), .dat (nI s)] = some (some ((s + 1 : Nat) : Int), [.dat (tn lot), .dat (nI s)]) := by
      unfold pSome
      rw [e]
    rw [← cut_drop _ (s + 1) (by simp; omega)]
    unfold eSl
    show (match (some (RV.dat (tn lot), [SV.dat (tn lot), SV.dat (nI s)]) : Option (RV × DE)) with | none => none | some (r, ρ1) => _) = _
    simp only [p, pNo, slD, RV.d]
    rfl
  have m : subD (nI (lot.getD s 0)) (.int 1) = some (.dat (nI (lot.getD s 0 - 1))) := by
    rw [ap_sub, show ((lot.getD s 0 : Nat) : Int) - 1 = ((lot.getD s 0 - 1 : Nat) : Int) by omega]
  have s3 : eOp subD (eIxG 0 (eVar 1)) (eC (.int 1)) [.dat (tn lot), .dat (nI s)] = some (.dat (nI (lot.getD s 0 - 1)), [.dat (tn lot), .dat (nI s)]) := op_runD (ix_run rfl rfl (.inl rfl) (at_ints lot s h)) rfl m
  have r := runD_st_tup s1 (runD_consD s3 (runD_st_tup s2 runD_nil))
  rw [List.append_nil] at r
  have t := tup_run r (by
    have : ((lot.map nI).take s ++ nI (lot.getD s 0 - 1) :: (lot.map nI).drop (s + 1)).length = lot.length := by
      simp; omega
    rw [this]; exact fits (by omega))
  have e : PyData.tuple ((lot.map nI).take s ++ nI (lot.getD s 0 - 1) :: (lot.map nI).drop (s + 1)) = tn (dec lot s) := by
    rw [dec_split lot s h]
    simp [RV.d, List.map_take, List.map_drop]
  rw [e] at t
  exact fn_rt (ρ := [.dat (tn lot), .dat (nI s)]) rfl rfl (sRet_run t) rfl
end K80
namespace K80
open PySem DL
theorem dec_sum_le (lot : List Nat) (s : Nat) (h : 0 < lot.getD s 0) {n : Nat} (hs : lot.sum ≤ n) : (dec lot s).sum ≤ n := by
  have := sum_dec lot s h
  omega
theorem lt_of_pos (lot : List Nat) (s : Nat) (h : 0 < lot.getD s 0) : s < lot.length := by
  rcases Nat.lt_or_ge s lot.length with q | q
  · exact q
  · rw [List.getD_eq_getElem?_getD, List.getElem?_eq_none q] at h
    simp at h
/-- many_orders(less_one(left, sign)) -/
theorem r_less_many (lot : List Nat) (s : Nat) (h : 0 < lot.getD s 0) (hl : lot.length ≤ 6) (hs : lot.sum ≤ 40) : g_many_orders [.dat (tn (dec lot s))] = some (.dat (nI (M (dec lot s))), [.dat (tn (dec lot s))]) :=
  r_many_orders (dec lot s) (by rw [dec_length]; exact hl) (dec_sum_le lot s h hs)
theorem if_run_t {t : TD} {f g : ED} {ρ ρ1 : DE} {x : Option (RV × DE)} (h1 : t ρ = some (true, ρ1)) (h2 : f ρ1 = x) : eIf t f g ρ = x := by
  unfold eIf
  rw [h1]
  exact h2
theorem if_run_f {t : TD} {f g : ED} {ρ ρ1 : DE} {x : Option (RV × DE)} (h1 : t ρ = some (false, ρ1)) (h2 : g ρ1 = x) : eIf t f g ρ = x := by
  unfold eIf
  rw [h1]
  exact h2
abbrev nsA : GD := gTupD 2 (gsCons (gNm 2) (gsCons (gNm 3) (gsNil)))
abbrev nsB : SD := sSeq (sSet 4 (eIf (tV (eOp gtD (eVar 3) (eC (.int 0)))) (eDef g_many_orders [.ex (eDef g_less_one [.ex (eVar 0), .ex (eVar 2)])]) (eC (.int 0))))
  (sSeq (sIf (tV (eOp ltD (eVar 1) (eVar 4))) (sRet (eTup [.ex (eVar 2), .ex (eVar 1)])) (sNx))
  (sSet 1 (eOp subD (eVar 1) (eVar 4))))
theorem ns_times (lot : List Nat) (j n : Nat) (x : SV) (hj : j < lot.length) (hl : lot.length ≤ 6) (hs : lot.sum ≤ 40) :
    sSet 4 (eIf (tV (eOp gtD (eVar 3) (eC (.int 0)))) (eDef g_many_orders [.ex (eDef g_less_one [.ex (eVar 0), .ex (eVar 2)])]) (eC (.int 0))) [.dat (tn lot), .dat (nI n), .dat (nI j), .dat (nI (lot.getD j 0)), x] = some (.nx, [.dat (tn lot), .dat (nI n), .dat (nI j), .dat (nI (lot.getD j 0)), .dat (nI (term lot j))]) := by
  by_cases hp : 0 < lot.getD j 0
  · have h1 : gtD (nI (lot.getD j 0)) (.int 0) = some (.dat (.bool true)) := by rw [ap_gt]; simp; simpa using hp
    have ht : term lot j = M (dec lot j) := by unfold term; rw [if_pos hp]
    rw [ht]
    exact sSet_run (ρ1 := [.dat (tn lot), .dat (nI n), .dat (nI j), .dat (nI (lot.getD j 0)), x]) (if_run_t (ρ1 := [.dat (tn lot), .dat (nI n), .dat (nI j), .dat (nI (lot.getD j 0)), x]) (tV_run (op_runD rfl rfl h1)) (def_run (runD_consD (def_run (runD_consD rfl (runD_consD rfl runD_nil)) (r_less_one lot j hj hp (by omega))) runD_nil) (r_less_many lot j hp hl hs)))
  · have h1 : gtD (nI (lot.getD j 0)) (.int 0) = some (.dat (.bool false)) := by rw [ap_gt]; simp; simpa using hp
    have ht : term lot j = 0 := by unfold term; rw [if_neg hp]
    rw [ht]
    exact sSet_run (ρ1 := [.dat (tn lot), .dat (nI n), .dat (nI j), .dat (nI (lot.getD j 0)), x]) (if_run_f (ρ1 := [.dat (tn lot), .dat (nI n), .dat (nI j), .dat (nI (lot.getD j 0)), x]) (tV_run (op_runD rfl rfl h1)) (show eC (.int 0) _ = some (.dat (nI 0), _) from rfl))
theorem pairs_cons (lot : List Nat) (j : Nat) (hj : j < lot.length) : pairsFrom j ((lot.drop j).map nI) = .tuple [nI j, nI (lot.getD j 0)] :: pairsFrom (j + 1) ((lot.drop (j + 1)).map nI) := by
  rw [List.drop_eq_getElem_cons hj, List.map_cons, pairsFrom]
  congr 3
  rw [List.getD_eq_getElem?_getD, List.getElem?_eq_getElem hj]
  rfl
theorem ns_loop (lot : List Nat) (s q : Nat) (hp : 0 < lot.getD s 0) (hq : q < term lot s) (hl : lot.length ≤ 6) (hs : lot.sum ≤ 40) : ∀ (d j : Nat) (x y z : SV), j + d = s →
    ∃ ρ', loopD nsA nsB (pairsFrom j ((lot.drop j).map nI)) [.dat (tn lot), .dat (nI (below lot s - below lot j + q)), x, y, z] = some (.rt (.dat (.tuple [nI s, nI q])), .dat (tn lot) :: .dat (nI q) :: ρ')
  | 0, j, x, y, z, h => by
    have h : j = s := by omega
    subst h
    have hj := lt_of_pos lot j hp
    rw [pairs_cons lot j hj, Nat.sub_self, Nat.zero_add]
    have hlt : ltD (nI q) (nI (term lot j)) = some (.dat (.bool true)) := by rw [ap_lt]; simp <;> omega
    refine ⟨_, loop_rt (ρ' := [.dat (tn lot), .dat (nI q), .dat (nI j), .dat (nI (lot.getD j 0)), .dat (nI (term lot j))]) (lp_run (ρ1 := [.dat (tn lot), .dat (nI q), .dat (nI j), .dat (nI (lot.getD j 0)), z]) rfl (sSeq_run (ns_times lot j q z hj hl hs) (sSeq_rt (sIf_t (tV_run (op_runD rfl rfl hlt)) (sRet_run (tup_run (runD_consD rfl (runD_consD rfl runD_nil)) (fits (by simp))))))))⟩
  | d + 1, j, x, y, z, h => by
    have hj : j < lot.length := by have := lt_of_pos lot s hp; omega
    rw [pairs_cons lot j hj]
    have hb := below_mono lot (show j + 1 ≤ s by omega)
    rw [below_succ] at hb
    have hn : below lot s - below lot j + q = (below lot s - below lot (j + 1) + q) + term lot j := by rw [below_succ]; omega
    rw [hn]
    have hlt : ltD (nI ((below lot s - below lot (j + 1) + q) + term lot j)) (nI (term lot j)) = some (.dat (.bool false)) := by rw [ap_lt]; simp <;> omega
    have hsub : subD (nI ((below lot s - below lot (j + 1) + q) + term lot j)) (nI (term lot j)) = some (.dat (nI (below lot s - below lot (j + 1) + q))) := by rw [ap_sub]; simp <;> omega
    obtain ⟨ρ', e⟩ := ns_loop lot s q hp hq hl hs d (j + 1) (.dat (nI j)) (.dat (nI (lot.getD j 0))) (.dat (nI (term lot j))) (by omega)
    refine ⟨ρ', (loop_cons (lp_run (ρ1 := [.dat (tn lot), .dat (nI ((below lot s - below lot (j + 1) + q) + term lot j)), .dat (nI j), .dat (nI (lot.getD j 0)), z]) rfl (sSeq_run (ns_times lot j _ z hj hl hs) (sSeq_run (sIf_f (tV_run (op_runD rfl rfl hlt)) rfl) (sSet_run (ρ1 := [.dat (tn lot), .dat (nI ((below lot s - below lot (j + 1) + q) + term lot j)), .dat (nI j), .dat (nI (lot.getD j 0)), .dat (nI (term lot j))]) (op_runD rfl rfl hsub)))))).trans e⟩
theorem r_next_sign (lot : List Nat) (s q : Nat) (hp : 0 < lot.getD s 0) (hq : q < term lot s) (hl : lot.length ≤ 6) (hs : lot.sum ≤ 40) :
    ∃ a2, g_next_sign [.dat (tn lot), .dat (nI (below lot s + q))] = some (.dat (.tuple [nI s, nI q]), a2) := by
  obtain ⟨ρ', e⟩ := ns_loop lot s q hp hq hl hs s 0 .un .un .un (by omega)
  rw [below_zero, Nat.sub_zero, List.drop_zero] at e
  refine ⟨_, fn_rt (ρ := .dat (tn lot) :: .dat (nI q) :: ρ') rfl rfl (sSeq_rt (sFor_run (it := iEnumD [.ex (eVar 0)]) (ds := pairsFrom 0 (lot.map nI)) (ρ1 := [.dat (tn lot), .dat (nI (below lot s + q)), .un, .un, .un]) rfl e)) rfl⟩
/-! ### order_at -/
abbrev oaB : SD := sSeq (sAsg (eDef g_next_sign [.ex (eVar 2), .ex (eVar 1)]) (gTupD 2 (gsCons (gNm 5) (gsCons (gNm 1) (gsNil)))))
  (sSeq (sApp 3 (eVar 5))
  (sSet 2 (eDef g_less_one [.ex (eVar 2), .ex (eVar 5)])))
theorem asg_run {f : ED} {a : GD} {ρ ρ1 ρ2 : DE} {r : RV} (h1 : f ρ = some (r, ρ1)) (h2 : a r.d ρ1 = some ρ2) : sAsg f a ρ = some (.nx, ρ2) := by
  unfold sAsg
  rw [h1]
  simp only
  rw [h2]
theorem app_run {i : Nat} {f : ED} {ρ ρ1 : DE} {r : RV} {ds : List PyData} (h0 : isGro ρ[i]? = true) (h1 : f ρ = some (r, ρ1)) (h2 : ρ1[i]? = some (.gro ds)) (hz : ds.length < sizeLine) : sApp i f ρ = some (.nx, ρ1.set i (.gro (ds ++ [r.d]))) := by
  unfold sApp
  rw [if_pos h0, h1]
  simp only
  rw [h2]
  simp only
  rw [if_pos hz]
theorem cnt_len_le (k : Nat) (row : List Nat) (hk : k ≤ 6) : (cnt k row).length ≤ 6 := by rw [cnt_length]; exact hk
theorem oa_loop (k : Nat) (hk : k ≤ 6) (L : SV) : ∀ (row acc : List Nat) (ds : List PyData) (x y : SV), (∀ v ∈ row, v < k) → acc.length + row.length ≤ 40 → ds.length = row.length →
    ∃ n l u v, loopD (gNm 4) oaB ds [L, .dat (nI (pl k row)), .dat (tn (cnt k row)), .gro (acc.map nI), x, y] = some (.nx, [L, n, l, .gro ((acc ++ row).map nI), u, v])
  | [], acc, ds, x, y, _, _, hd => by
    have : ds = [] := List.length_eq_zero_iff.mp hd
    subst this
    exact ⟨_, _, _, _, by rw [List.append_nil]; rfl⟩
  | s :: row, acc, [], x, y, _, _, hd => by simp at hd
  | s :: row, acc, d :: ds, x, y, h, hz, hd => by
    have hsk := h s (by simp)
    have hrow : ∀ v ∈ row, v < k := fun v hv => h v (by simp [hv])
    simp only [List.length_cons] at hz hd
    have hp := cnt_pos k s row hsk
    have hsum : (cnt k (s :: row)).sum ≤ 40 := by rw [cnt_sum k _ h]; simp; omega
    have hq : pl k row < term (cnt k (s :: row)) s := by rw [term_cnt k s row hsk]; exact pl_lt k row hrow
    obtain ⟨a2, e1⟩ := r_next_sign (cnt k (s :: row)) s (pl k row) hp hq (cnt_len_le k _ hk) hsum
    rw [← pl_cons k s row hsk] at e1
    have e2 := r_less_one (cnt k (s :: row)) s (by rw [cnt_length]; exact hsk) hp (by rw [cnt_length]; omega)
    rw [cnt_dec k s row hsk] at e2
    obtain ⟨n, l, u, v, e⟩ := oa_loop k hk L row (acc ++ [s]) ds (.dat d) (.dat (nI s)) hrow (by simp; omega) (by omega)
    rw [List.append_assoc, List.singleton_append] at e
    refine ⟨n, l, u, v, (loop_cons (lp_run (ρ1 := [L, .dat (nI (pl k (s :: row))), .dat (tn (cnt k (s :: row))), .gro (acc.map nI), .dat d, y]) rfl ?_)).trans e⟩
    refine sSeq_run (ρ1 := [L, .dat (nI (pl k row)), .dat (tn (cnt k (s :: row))), .gro (acc.map nI), .dat d, .dat (nI s)]) (asg_run (def_run (runD_consD rfl (runD_consD rfl runD_nil)) e1) rfl) ?_
    refine sSeq_run (ρ1 := [L, .dat (nI (pl k row)), .dat (tn (cnt k (s :: row))), .gro ((acc ++ [s]).map nI), .dat d, .dat (nI s)]) ?_ ?_
    · rw [List.map_append]
      exact app_run rfl (var_run (d := nI s) rfl) rfl (Nat.lt_of_lt_of_le (show (acc.map nI).length < 10000 by simp; omega) (fits (Nat.le_refl _)))
    · have e3 : eDef g_less_one [.ex (eVar 2), .ex (eVar 5)] [L, .dat (nI (pl k row)), .dat (tn (cnt k (s :: row))), .gro ((acc ++ [s]).map nI), .dat d, .dat (nI s)] = some (.dat (tn (cnt k row)), [L, .dat (nI (pl k row)), .dat (tn (cnt k (s :: row))), .gro ((acc ++ [s]).map nI), .dat d, .dat (nI s)]) := def_run (runD_consD rfl (runD_consD rfl runD_nil)) e2
      exact sSet_run e3
theorem r_order_at (k : Nat) (hk : 2 ≤ k ∧ k ≤ 6) (row : List Nat) (h : ∀ v ∈ row, v < k) (hz : row.length ≤ 40) : ∃ a2, g_order_at [.dat (tn (cnt k row)), .dat (nI (pl k row))] = some (.dat (tn row), a2) := by
  have hsum : (cnt k row).sum = row.length := cnt_sum k row h
  have hlen := cnt_length k row
  have hM := r_many_orders (cnt k row) (by omega) (by omega)
  have hlt := pl_lt k row h
  have hMp := M_pos (cnt k row)
  unfold MR at hlt
  obtain ⟨n, l, u, v, e⟩ := oa_loop k hk.2 (.dat (tn (cnt k row))) row [] ((List.range row.length).map nI) .un .un h (by simpa using hz) (by simp)
  have hb : g_is_between [.dat (nI (pl k row)), .dat (.int 0), .dat (.int ((M (cnt k row) : Nat) - 1))] = some (.dat (.bool true), [.dat (nI (pl k row)), .dat (.int 0), .dat (.int ((M (cnt k row) : Nat) - 1))]) := by
    rw [r_is_between]
    have h1 : (0 : Int) ≤ (pl k row : Int) := by omega
    have h2 : ((pl k row : Nat) : Int) ≤ (M (cnt k row) : Nat) - 1 := by omega
    simp [h1, h2]
  have hs : eCall sumD [.ex (eVar 0)] [.dat (tn (cnt k row)), .dat (nI (pl k row)), .dat (tn (cnt k row)), .gro [], .un, .un] = some (.dat (nI row.length), [.dat (tn (cnt k row)), .dat (nI (pl k row)), .dat (tn (cnt k row)), .gro [], .un, .un]) := by
    refine call1_run (var_run (d := tn (cnt k row)) rfl) ?_
    show sumD [.tuple ((cnt k row).map nI)] = _
    simp only [sumD, ints_map, Option.map_some, sum_cast, hsum]
  have it : iRg1 [.ex (eCall sumD [.ex (eVar 0)])] [.dat (tn (cnt k row)), .dat (nI (pl k row)), .dat (tn (cnt k row)), .gro [], .un, .un] = some ((List.range row.length).map nI, [.dat (tn (cnt k row)), .dat (nI (pl k row)), .dat (tn (cnt k row)), .gro [], .un, .un]) := by
    unfold iRg1
    rw [runD_consD hs runD_nil]
    simp only
    rw [if_pos (small_nat (by omega)), Int.toNat_natCast, rgD_range]
  have c0 : sExpr (eDef g_checked_lot [.ex (eVar 0)]) [.dat (tn (cnt k row)), .dat (nI (pl k row)), .un, .un, .un, .un] = some (.nx, [.dat (tn (cnt k row)), .dat (nI (pl k row)), .un, .un, .un, .un]) := sExpr_run (def_run (runD_consD rfl runD_nil) (r_checked_lot (cnt k row) (by omega) (by omega)))
  have c1 : eDef g_is_between [.ex (eVar 1), .ex (eC (.int 0)), .ex (eOp subD (eDef g_many_orders [.ex (eVar 0)]) (eC (.int 1)))] [.dat (tn (cnt k row)), .dat (nI (pl k row)), .un, .un, .un, .un] = some (.dat (.bool true), [.dat (tn (cnt k row)), .dat (nI (pl k row)), .un, .un, .un, .un]) :=
    def_run (runD_consD rfl (runD_consD rfl (runD_consD (op_runD (def_run (runD_consD rfl runD_nil) hM) rfl (ap_sub _ _)) runD_nil))) hb
  have c2 : sParV 2 3 [eVar 0, eLst []] [.dat (tn (cnt k row)), .dat (nI (pl k row)), .un, .un, .un, .un] = some (.nx, [.dat (tn (cnt k row)), .dat (nI (pl k row)), .dat (tn (cnt k row)), .gro [], .un, .un]) := by
    have e2 : eLst [] [.dat (tn (cnt k row)), .dat (nI (pl k row)), .un, .un, .un, .un] = some (.new [], [.dat (tn (cnt k row)), .dat (nI (pl k row)), .un, .un, .un, .un]) := lst_run runD_nil (Nat.zero_le _)
    unfold sParV runV
    rw [var_run (d := tn (cnt k row)) rfl]
    simp only
    unfold runV
    rw [e2]
    rfl
  have c3 : eCall tupleD [.ex (eVar 3)] [.dat (tn (cnt k row)), n, l, .gro (row.map nI), u, v] = some (.dat (tn row), [.dat (tn (cnt k row)), n, l, .dat (.list (row.map nI)), u, v]) := rfl
  have lf : sFor (iRg1 [.ex (eCall sumD [.ex (eVar 0)])]) (gNm 4) oaB [.dat (tn (cnt k row)), .dat (nI (pl k row)), .dat (tn (cnt k row)), .gro [], .un, .un] = some (.nx, [.dat (tn (cnt k row)), n, l, .gro (row.map nI), u, v]) := sFor_run it e
  have c4 : sIf (tNotD (tV (eDef g_is_between [.ex (eVar 1), .ex (eC (.int 0)), .ex (eOp subD (eDef g_many_orders [.ex (eVar 0)]) (eC (.int 1)))]))) (sNo) (sNx) [.dat (tn (cnt k row)), .dat (nI (pl k row)), .un, .un, .un, .un] = some (.nx, [.dat (tn (cnt k row)), .dat (nI (pl k row)), .un, .un, .un, .un]) := sIf_f (tNot_run (tV_run c1)) rfl
  have body : b_order_at [.dat (tn (cnt k row)), .dat (nI (pl k row)), .un, .un, .un, .un] = some (.rt (.dat (tn row)), [.dat (tn (cnt k row)), n, l, .dat (.list (row.map nI)), u, v]) := sSeq_run c0 (sSeq_run c4 (sSeq_run c2 (sSeq_run lf (sRet_run c3))))
  exact ⟨_, fn_rt (ρ := [.dat (tn (cnt k row)), n, l, .dat (.list (row.map nI)), u, v]) rfl rfl body rfl⟩
/-! ### place_of -/
abbrev poL : ED := eLc [5] (iRg1 [.ex (eVar 4)]) (gNm 5) (tV (eOp gtD (eIxG 2 (eVar 5)) (eC (.int 0)))) (eDef g_many_orders [.ex (eDef g_less_one [.ex (eVar 2), .ex (eVar 5)])])
theorem sum_terms (lot : List Nat) : ∀ s, ((List.range s).filterMap fun t => if 0 < lot.getD t 0 then some (M (dec lot t)) else none).sum = below lot s
  | 0 => rfl
  | s + 1 => by
    rw [List.range_succ, List.filterMap_append, List.sum_append, sum_terms lot s, below_succ]
    congr 1
    unfold term
    by_cases h : 0 < lot.getD s 0
    · simp only [List.filterMap_cons, List.filterMap_nil, if_pos h, List.sum_cons, List.sum_nil, Nat.add_zero]
    · simp only [List.filterMap_cons, List.filterMap_nil, if_neg h, List.sum_nil]
theorem po_comp (lot : List Nat) (s : Nat) (A B C : SV) (h : s < lot.length) (hl : lot.length ≤ 6) (hs : lot.sum ≤ 40) :
    eCall sumD [.ex poL] [A, B, .dat (tn lot), C, .dat (nI s), .un] = some (.dat (nI (below lot s)), [A, B, .dat (tn lot), C, .dat (nI s), .un]) := by
  have it : iRg1 [.ex (eVar 4)] [A, B, .dat (tn lot), C, .dat (nI s), .un] = some ((List.range s).map nI, [A, B, .dat (tn lot), C, .dat (nI s), .un]) := by
    unfold iRg1
    rw [runD_consD (d := nI s) rfl runD_nil]
    simp only
    rw [if_pos (small_nat (by omega)), Int.toNat_natCast, rgD_range]
  have lc := lc_fun (own := [5]) (a := gNm 5) (c := tV (eOp gtD (eIxG 2 (eVar 5)) (eC (.int 0)))) (f := eDef g_many_orders [.ex (eDef g_less_one [.ex (eVar 2), .ex (eVar 5)])]) ((List.range s).map nI) [] (fun _ => [A, B, .dat (tn lot), C, .dat (nI s), .un]) (fun t => if 0 < lot.getD t 0 then some (nI (M (dec lot t))) else none) (fits (by simp; omega)) fun i d hd => by
    rw [List.getElem?_map] at hd
    by_cases hi : i < s
    · have hd : nI i = d := by simpa [hi] using hd
      subst hd
      have hx : eIxG 2 (eVar 5) [A, B, .dat (tn lot), C, .dat (nI s), .dat (nI i)] = some (.dat (nI (lot.getD i 0)), [A, B, .dat (tn lot), C, .dat (nI s), .dat (nI i)]) := ix_run rfl rfl (.inl rfl) (at_ints lot i (by omega))
      by_cases hp : 0 < lot.getD i 0
      · have h1 : gtD (nI (lot.getD i 0)) (.int 0) = some (.dat (.bool true)) := by rw [ap_gt]; simp; simpa using hp
        rw [if_pos hp]
        exact lcs_run (r := .dat (nI (M (dec lot i)))) (ρ1 := [A, B, .dat (tn lot), C, .dat (nI s), .dat (nI i)]) rfl (tV_run (op_runD hx rfl h1)) (def_run (runD_consD (def_run (runD_consD rfl (runD_consD rfl runD_nil)) (r_less_one lot i (by omega) hp (by omega))) runD_nil) (r_less_many lot i hp hl hs)) rfl
      · have h1 : gtD (nI (lot.getD i 0)) (.int 0) = some (.dat (.bool false)) := by rw [ap_gt]; simp; simpa using hp
        rw [if_neg hp]
        exact lcs_no (ρ1 := [A, B, .dat (tn lot), C, .dat (nI s), .dat (nI i)]) rfl (tV_run (op_runD hx rfl h1)) rfl
    · rw [List.getElem?_eq_none (by simp; omega)] at hd; cases hd
  rw [List.length_map, List.length_range, List.nil_append] at lc
  have e := eLc_run (own := [5]) it rfl lc
  refine call1_run e ?_
  have e2 : (List.range s).filterMap (fun t => if 0 < lot.getD t 0 then some (nI (M (dec lot t))) else none) = ((List.range s).filterMap fun t => if 0 < lot.getD t 0 then some (M (dec lot t)) else none).map nI := by
    have e0 : (fun t => if 0 < lot.getD t 0 then some (nI (M (dec lot t))) else none) = fun t => Option.map nI (if 0 < lot.getD t 0 then some (M (dec lot t)) else none) := by
      funext t
      by_cases h : 0 < lot.getD t 0
      · rw [if_pos h, if_pos h]; rfl
      · rw [if_neg h, if_neg h]; rfl
    rw [e0, List.map_filterMap]
  have e3 : (RV.new ((List.range s).filterMap fun t => if 0 < lot.getD t 0 then some (nI (M (dec lot t))) else none)).d = .list (((List.range s).filterMap fun t => if 0 < lot.getD t 0 then some (M (dec lot t)) else none).map nI) := by rw [e2]; rfl
  rw [e3]
  simp only [sumD, ints_map, Option.map_some, sum_cast, sum_terms]
abbrev poB : SD := sSeq (sSet 3 (eOp addD (eVar 3) (eCall sumD [.ex poL]))) (sSet 2 (eDef g_less_one [.ex (eVar 2), .ex (eVar 4)]))
theorem po_loop (k : Nat) (hk : k ≤ 6) (A B : SV) : ∀ (row : List Nat) (c : Nat) (x : SV), (∀ v ∈ row, v < k) → row.length ≤ 40 →
    ∃ l y, loopD (gNm 4) poB (row.map nI) [A, B, .dat (tn (cnt k row)), .dat (nI c), x, .un] = some (.nx, [A, B, l, .dat (nI (c + pl k row)), y, .un])
  | [], c, x, _, _ => ⟨_, _, by rw [show pl k [] = 0 from rfl, Nat.add_zero]; rfl⟩
  | s :: row, c, x, h, hz => by
    have hsk := h s (by simp)
    have hrow : ∀ v ∈ row, v < k := fun v hv => h v (by simp [hv])
    simp only [List.length_cons] at hz
    have hp := cnt_pos k s row hsk
    have hsum : (cnt k (s :: row)).sum ≤ 40 := by rw [cnt_sum k _ h]; simp; omega
    have e1 := po_comp (cnt k (s :: row)) s A B (.dat (nI c)) (by rw [cnt_length]; exact hsk) (cnt_len_le k _ hk) hsum
    have e2 := r_less_one (cnt k (s :: row)) s (by rw [cnt_length]; exact hsk) hp (by rw [cnt_length]; omega)
    rw [cnt_dec k s row hsk] at e2
    have ha : addD (nI c) (nI (below (cnt k (s :: row)) s)) = some (.dat (nI (c + below (cnt k (s :: row)) s))) := by rw [ap_add]; simp
    obtain ⟨l, y, e⟩ := po_loop k hk A B row (c + below (cnt k (s :: row)) s) (.dat (nI s)) hrow (by omega)
    rw [Nat.add_assoc, ← pl_cons k s row hsk] at e
    have e3 : eDef g_less_one [.ex (eVar 2), .ex (eVar 4)] [A, B, .dat (tn (cnt k (s :: row))), .dat (nI (c + below (cnt k (s :: row)) s)), .dat (nI s), .un] = some (.dat (tn (cnt k row)), [A, B, .dat (tn (cnt k (s :: row))), .dat (nI (c + below (cnt k (s :: row)) s)), .dat (nI s), .un]) := def_run (runD_consD rfl (runD_consD rfl runD_nil)) e2
    have e4 : sSet 2 (eDef g_less_one [.ex (eVar 2), .ex (eVar 4)]) [A, B, .dat (tn (cnt k (s :: row))), .dat (nI (c + below (cnt k (s :: row)) s)), .dat (nI s), .un] = some (.nx, [A, B, .dat (tn (cnt k row)), .dat (nI (c + below (cnt k (s :: row)) s)), .dat (nI s), .un]) := sSet_run e3
    have e5 : sSet 3 (eOp addD (eVar 3) (eCall sumD [.ex poL])) [A, B, .dat (tn (cnt k (s :: row))), .dat (nI c), .dat (nI s), .un] = some (.nx, [A, B, .dat (tn (cnt k (s :: row))), .dat (nI (c + below (cnt k (s :: row)) s)), .dat (nI s), .un]) := sSet_run (op_runD (a := nI c) rfl e1 ha)
    exact ⟨l, y, (loop_cons (lp_run (ρ1 := [A, B, .dat (tn (cnt k (s :: row))), .dat (nI c), .dat (nI s), .un]) rfl (sSeq_run e5 e4))).trans e⟩
theorem r_place_of (k : Nat) (hk : 2 ≤ k ∧ k ≤ 6) (row : List Nat) (h : ∀ v ∈ row, v < k) (hz : row.length ≤ 40) : g_place_of [.dat (tn row), .dat (nI k)] = some (.dat (nI (pl k row)), [.dat (tn row), .dat (nI k)]) := by
  obtain ⟨l, y, e⟩ := po_loop k hk.2 (.dat (tn row)) (.dat (nI k)) row 0 .un h hz
  rw [Nat.zero_add] at e
  have c0 : sAsg (eTup [.ex (eDef g_lot_of [.ex (eVar 0), .ex (eVar 1)]), .ex (eC (.int 0))]) (gTupD 2 (gsCons (gNm 2) (gsCons (gNm 3) (gsNil)))) [.dat (tn row), .dat (nI k), .un, .un, .un, .un] = some (.nx, [.dat (tn row), .dat (nI k), .dat (tn (cnt k row)), .dat (nI 0), .un, .un]) :=
    asg_run (tup_run (runD_consD (def_run (runD_consD rfl (runD_consD rfl runD_nil)) (r_lot_of row k hk hz h)) (runD_consD rfl runD_nil)) (fits (by simp))) rfl
  have body : b_place_of [.dat (tn row), .dat (nI k), .un, .un, .un, .un] = some (.rt (.dat (nI (pl k row))), [.dat (tn row), .dat (nI k), l, .dat (nI (pl k row)), y, .un]) :=
    sSeq_run c0 (sSeq_run (sFor_run (it := iAny (eVar 0)) (ds := row.map nI) (ρ1 := [.dat (tn row), .dat (nI k), .dat (tn (cnt k row)), .dat (nI 0), .un, .un]) rfl e) (sRet_run (var_run (d := nI (pl k row)) rfl)))
  exact fn_rt (ρ := [.dat (tn row), .dat (nI k), l, .dat (nI (pl k row)), y, .un]) rfl rfl body rfl
end K80
namespace K80
open PySem DL
theorem sSet_to {i : Nat} {f : ED} {ρ ρ1 ρ2 : DE} {r : RV} (h : f ρ = some (r, ρ1)) (e : ρ1.set i r.sv = ρ2 := by rfl) : sSet i f ρ = some (.nx, ρ2) := by
  rw [← e]
  exact sSet_run h
/-! ### the pot -/
def Pot (n : Nat) (p : List PyData) : Prop := ∃ a b c : Nat, p = [nI a, nI b, nI c] ∧ a < 2 ^ 1000 ∧ b < 2 ^ 62 ∧ c ≤ n
theorem Pot.mono {n m : Nat} {p : List PyData} (h : Pot n p) (hm : n ≤ m) : Pot m p := by
  obtain ⟨a, b, c, e, h1, h2, h3⟩ := h
  exact ⟨a, b, c, e, h1, h2, by omega⟩
theorem ix_gro {i j : Nat} {g : ED} {ρ : DE} {ds : List PyData} {d : PyData} (h1 : g ρ = some (.dat (.int (j : Int)), ρ)) (h2 : ρ[i]? = some (.gro ds)) (h3 : ds[j]? = some d) : eIxG i g ρ = some (.dat d, ρ) :=
  ix_run (by rw [h2]; rfl) h1 (.inr (.inr h2)) (by rw [atI_nat]; exact h3)
theorem setIx_run {i j : Nat} {g f : ED} {ρ ρ1 : DE} {r : RV} {ds : List PyData} (h1 : f ρ = some (r, ρ1)) (h2 : ρ1[i]? = some (.gro ds)) (h3 : g ρ1 = some (.dat (.int (j : Int)), ρ1)) (h4 : j < ds.length) : sSetIx i g f ρ = some (.nx, ρ1.set i (.gro (ds.set j r.d))) := by
  have hs : isSeq ρ1[i]? = true := by rw [h2]; rfl
  unfold sSetIx
  rw [h1]
  simp only
  rw [if_pos hs, h3]
  simp only
  rw [h2]
  simp only
  rw [ixN_nat h4]
theorem int_run {f : ED} {ρ ρ1 : DE} {i : Int} (h : f ρ = some (.dat (.int i), ρ1)) : eCall intD [.ex f] ρ = some (.dat (.int i), ρ1) := call1_run h rfl
theorem mod_nat {a u : Nat} (hu : 0 < u) : modD (nI a) (nI u) = some (.dat (nI (a % u))) := by
  have : (0 : Int) < u := by omega
  rw [ap_mod, if_pos (decide_eq_true this)]
  rfl
theorem div_nat {a u : Nat} (hu : 0 < u) (hb : u < 2 ^ 100) : divD (nI a) (nI u) = some (.dat (nI (a / u))) := by
  rw [ap_div, if_pos (div_of 100 (by omega) (by rw [natAbs_nat]; exact hb))]
  rfl
theorem add_nat (a b : Nat) : addD (nI a) (nI b) = some (.dat (nI (a + b))) := by rw [ap_add]; simp
theorem mul_nat {a b : Nat} (x y : Nat) (ha : a < 2 ^ x) (hb : b < 2 ^ y) (hx : 0 < x := by decide) (hy : 0 < y := by decide) (h : x + y ≤ 1000000 := by decide) : mulD (nI a) (nI b) = some (.dat (nI (a * b))) := by
  rw [ap_mul, if_pos (bits_of x y (by rw [natAbs_nat]; exact ha) (by rw [natAbs_nat]; exact hb) hx hy h)]
  simp
theorem pow3_nat {a : Nat} (ha : a < 2 ^ 200) : powD (nI a) (nI 3) = some (.dat (nI (a ^ 3))) := by
  have h := log2_lt ha (by decide)
  have hb : powOk (a : Int) ((3 : Nat) : Int) = true := by
    unfold powOk
    simp only [Bool.and_eq_true, decide_eq_true_eq]
    refine ⟨by decide, ?_⟩
    have : Builtin.Int.intBits (a : Int) ≤ 201 := by
      unfold Builtin.Int.intBits
      split <;> (try rw [natAbs_nat]) <;> omega
    omega
  rw [ap_pow, if_pos hb]
  show some (RV.dat (.int ((a : Int) ^ 3))) = _
  rw [← Int.natCast_pow]
theorem primes (m : Nat) (hm : m < 5) : ∃ pr : Nat, 0 < pr ∧ pr < 2 ^ 31 ∧ L2.atI [PyData.int 2147483647, .int 2147483629, .int 2147483587, .int 2147483579, .int 2147483563] (m : Int) = some (nI pr) := by
  match m, hm with
  | 0, _ => exact ⟨2147483647, by decide, by decide, rfl⟩
  | 1, _ => exact ⟨2147483629, by decide, by decide, rfl⟩
  | 2, _ => exact ⟨2147483587, by decide, by decide, rfl⟩
  | 3, _ => exact ⟨2147483579, by decide, by decide, rfl⟩
  | 4, _ => exact ⟨2147483563, by decide, by decide, rfl⟩
theorem r_take (n u : Nat) (p : List PyData) (hP : Pot n p) (hn : n ≤ 1000000) (hu : 0 < u) (hu2 : u ≤ 100000) : ∃ (v : Nat) (p' : List PyData), v < u ∧ Pot (n + 1) p' ∧ g__law_take [.gro p, .dat (nI u)] = some (.dat (nI v), [.gro p', .dat (nI u)]) := by
  obtain ⟨a, b, c, rfl, ha, hb, hc⟩ := hP
  have x0 : ∀ (C D E : SV), eIxG 0 (eC (.int 0)) [.gro [nI a, nI b, nI c], .dat (nI u), C, D, E] = some (.dat (nI a), [.gro [nI a, nI b, nI c], .dat (nI u), C, D, E]) := fun C D E => ix_gro (j := 0) rfl rfl rfl
  by_cases h0 : 0 < a
  · have g0 : gtD (nI a) (.int 0) = some (.dat (.bool true)) := by rw [ap_gt]; simp; omega
    refine ⟨a % u, [nI (a / u), nI b, nI c], Nat.mod_lt _ hu, ⟨a / u, b, c, rfl, Nat.lt_of_le_of_lt (Nat.div_le_self _ _) ha, hb, by omega⟩, ?_⟩
    have s1 : sSet 2 (eOp modD (eCall intD [.ex (eIxG 0 (eC (.int 0)))]) (eVar 1)) [.gro [nI a, nI b, nI c], .dat (nI u), .un, .un, .un] = some (.nx, [.gro [nI a, nI b, nI c], .dat (nI u), .dat (nI (a % u)), .un, .un]) := sSet_to (ρ1 := [.gro [nI a, nI b, nI c], .dat (nI u), .un, .un, .un]) (op_runD (int_run (x0 _ _ _)) rfl (mod_nat hu))
    have s2 : sSetIx 0 (eC (.int 0)) (eOp divD (eIxG 0 (eC (.int 0))) (eVar 1)) [.gro [nI a, nI b, nI c], .dat (nI u), .dat (nI (a % u)), .un, .un] = some (.nx, [.gro [nI (a / u), nI b, nI c], .dat (nI u), .dat (nI (a % u)), .un, .un]) := setIx_run (j := 0) (i := 0) (ρ1 := [.gro [nI a, nI b, nI c], .dat (nI u), .dat (nI (a % u)), .un, .un]) (ds := [nI a, nI b, nI c]) (op_runD (x0 _ _ _) rfl (div_nat hu (by omega))) rfl rfl (show 0 < 3 by decide)
    have body : b__law_take [.gro [nI a, nI b, nI c], .dat (nI u), .un, .un, .un] = some (.rt (.dat (nI (a % u))), [.gro [nI (a / u), nI b, nI c], .dat (nI u), .dat (nI (a % u)), .un, .un]) :=
      sSeq_rt (sIf_t (tV_run (op_runD (x0 _ _ _) rfl g0)) (sSeq_run s1 (sSeq_run s2 (sRet_run (var_run (d := nI (a % u)) rfl)))))
    exact fn_rt (ρ := [.gro [nI (a / u), nI b, nI c], .dat (nI u), .dat (nI (a % u)), .un, .un]) rfl rfl body rfl
  · have ha0 : a = 0 := by omega
    subst ha0
    have g0 : gtD (nI 0) (.int 0) = some (.dat (.bool false)) := by rw [ap_gt]; simp
    have x2 : ∀ (e : Nat) (C D E : SV), eIxG 0 (eC (.int 2)) [.gro [nI 0, nI b, nI e], .dat (nI u), C, D, E] = some (.dat (nI e), [.gro [nI 0, nI b, nI e], .dat (nI u), C, D, E]) := fun e C D E => ix_gro (j := 2) rfl rfl rfl
    have x1 : ∀ (e : Nat) (C D E : SV), eIxG 0 (eC (.int 1)) [.gro [nI 0, nI b, nI e], .dat (nI u), C, D, E] = some (.dat (nI b), [.gro [nI 0, nI b, nI e], .dat (nI u), C, D, E]) := fun e C D E => ix_gro (j := 1) rfl rfl rfl
    obtain ⟨pr, hpr, hpr2, epr⟩ := primes ((c + 1) % 5) (Nat.mod_lt _ (by decide))
    have s1 : sSetIx 0 (eC (.int 2)) (eOp addD (eIxG 0 (eC (.int 2))) (eC (.int 1))) [.gro [nI 0, nI b, nI c], .dat (nI u), .un, .un, .un] = some (.nx, [.gro [nI 0, nI b, nI (c + 1)], .dat (nI u), .un, .un, .un]) := setIx_run (j := 2) (i := 0) (ρ1 := [.gro [nI 0, nI b, nI c], .dat (nI u), .un, .un, .un]) (ds := [nI 0, nI b, nI c]) (op_runD (x2 c _ _ _) rfl (add_nat c 1)) rfl rfl (show 2 < 3 by decide)
    have hcc : c + 1 < 2 ^ 20 := by omega
    -- prime
    have l5 : ∀ ρ : DE, eLst [.ex (eC (.int 2147483647)), .ex (eC (.int 2147483629)), .ex (eC (.int 2147483587)), .ex (eC (.int 2147483579)), .ex (eC (.int 2147483563))] ρ = some (.new [.int 2147483647, .int 2147483629, .int 2147483587, .int 2147483579, .int 2147483563], ρ) := fun ρ =>
      lst_run (runD_consD rfl (runD_consD rfl (runD_consD rfl (runD_consD rfl (runD_consD rfl runD_nil))))) (fits (by simp))
    have h5 : ixD (RV.new [PyData.int 2147483647, .int 2147483629, .int 2147483587, .int 2147483579, .int 2147483563]).d (RV.dat (nI ((c + 1) % 5))).d = some (.dat (nI pr)) := by
      show (L2.atI [PyData.int 2147483647, .int 2147483629, .int 2147483587, .int 2147483579, .int 2147483563] (((c + 1) % 5 : Nat) : Int)).map RV.dat = _
      rw [epr]; rfl
    have s2 : sSet 3 (eOp ixD (eLst [.ex (eC (.int 2147483647)), .ex (eC (.int 2147483629)), .ex (eC (.int 2147483587)), .ex (eC (.int 2147483579)), .ex (eC (.int 2147483563))]) (eOp modD (eCall intD [.ex (eIxG 0 (eC (.int 2)))]) (eC (.int 5)))) [.gro [nI 0, nI b, nI (c + 1)], .dat (nI u), .un, .un, .un] = some (.nx, [.gro [nI 0, nI b, nI (c + 1)], .dat (nI u), .un, .dat (nI pr), .un]) :=
      sSet_to (r := .dat (nI pr)) (op_run (l5 _) (op_runD (int_run (x2 (c + 1) _ _ _)) rfl (mod_nat (u := 5) (by decide))) h5)
    -- blend
    have m1 := mul_nat (a := 97881) (b := c + 1) 20 20 (by decide) hcc
    have m2 := mul_nat (a := 97881 * (c + 1)) (b := c + 1) 40 20 (by omega) hcc
    have hw : b + 97881 * (c + 1) * (c + 1) + 641 < 2 ^ 200 := by
      have : 97881 * (c + 1) * (c + 1) ≤ 97881 * 2 ^ 20 * 2 ^ 20 := Nat.mul_le_mul (Nat.mul_le_mul_left _ (by omega)) (by omega)
      omega
    have s3 : sSet 4 (eOp modD (eCall intD [.ex (eOp powD (eCall intD [.ex (eOp addD (eOp addD (eIxG 0 (eC (.int 1))) (eOp mulD (eOp mulD (eC (.int 97881)) (eIxG 0 (eC (.int 2)))) (eIxG 0 (eC (.int 2))))) (eC (.int 641)))]) (eC (.int 3)))]) (eVar 3)) [.gro [nI 0, nI b, nI (c + 1)], .dat (nI u), .un, .dat (nI pr), .un] = some (.nx, [.gro [nI 0, nI b, nI (c + 1)], .dat (nI u), .un, .dat (nI pr), .dat (nI ((b + 97881 * (c + 1) * (c + 1) + 641) ^ 3 % pr))]) :=
      sSet_to (op_runD (int_run (op_runD (int_run (op_runD (op_runD (x1 (c + 1) _ _ _) (op_runD (op_runD rfl (x2 (c + 1) _ _ _) m1) (x2 (c + 1) _ _ _) m2) (add_nat _ _)) rfl (add_nat _ 641))) rfl (pow3_nat hw))) rfl (mod_nat hpr))
    have hbl : (b + 97881 * (c + 1) * (c + 1) + 641) ^ 3 % pr < 2 ^ 31 := Nat.lt_trans (Nat.mod_lt _ hpr) hpr2
    generalize (b + 97881 * (c + 1) * (c + 1) + 641) ^ 3 % pr = bl at s3 hbl
    have m3 := mul_nat (a := 151) (b := c + 1) 20 20 (by decide) hcc
    have m4 := mul_nat (a := bl) (b := bl % 10361 + 151 * (c + 1)) 31 40 hbl (by
      have : bl % 10361 < 10361 := Nat.mod_lt _ (by decide)
      omega)
    have s4 : sSet 4 (eOp modD (eCall intD [.ex (eOp mulD (eVar 4) (eOp addD (eOp modD (eCall intD [.ex (eVar 4)]) (eC (.int 10361))) (eOp mulD (eC (.int 151)) (eIxG 0 (eC (.int 2))))))]) (eC (.int 2305843009213693907))) [.gro [nI 0, nI b, nI (c + 1)], .dat (nI u), .un, .dat (nI pr), .dat (nI bl)] = some (.nx, [.gro [nI 0, nI b, nI (c + 1)], .dat (nI u), .un, .dat (nI pr), .dat (nI (bl * (bl % 10361 + 151 * (c + 1)) % 2305843009213693907))]) :=
      sSet_to (op_runD (int_run (op_runD (var_run (d := nI bl) rfl) (op_runD (op_runD (int_run (var_run (d := nI bl) rfl)) rfl (mod_nat (u := 10361) (by decide))) (op_runD rfl (x2 (c + 1) _ _ _) m3) (add_nat _ _)) m4)) rfl (mod_nat (u := 2305843009213693907) (by decide)))
    generalize bl * (bl % 10361 + 151 * (c + 1)) % 2305843009213693907 = b2 at s4
    refine ⟨b2 / 371 % u, [nI 0, nI b, nI (c + 1)], Nat.mod_lt _ hu, ⟨0, b, c + 1, rfl, by omega, hb, by omega⟩, ?_⟩
    have s5 : eOp modD (eCall intD [.ex (eOp divD (eVar 4) (eC (.int 371)))]) (eVar 1) [.gro [nI 0, nI b, nI (c + 1)], .dat (nI u), .un, .dat (nI pr), .dat (nI b2)] = some (.dat (nI (b2 / 371 % u)), [.gro [nI 0, nI b, nI (c + 1)], .dat (nI u), .un, .dat (nI pr), .dat (nI b2)]) :=
      op_runD (int_run (op_runD (var_run (d := nI b2) rfl) rfl (div_nat (u := 371) (by decide) (by decide)))) rfl (mod_nat hu)
    have body : b__law_take [.gro [nI 0, nI b, nI c], .dat (nI u), .un, .un, .un] = some (.rt (.dat (nI (b2 / 371 % u))), [.gro [nI 0, nI b, nI (c + 1)], .dat (nI u), .un, .dat (nI pr), .dat (nI b2)]) :=
      sSeq_run (sIf_f (tV_run (op_runD (x0 _ _ _) rfl g0)) rfl) (sSeq_run s1 (sSeq_run s2 (sSeq_run s3 (sSeq_run s4 (sRet_run s5)))))
    exact fn_rt (ρ := [.gro [nI 0, nI b, nI (c + 1)], .dat (nI u), .un, .dat (nI pr), .dat (nI b2)]) rfl rfl body rfl
end K80
namespace K80
open PySem DL
/-- a call that is handed a list to be changed -/
theorem mv_run {g : FD} {i : Nat} {as : List Ar} {ρ ρ1 : DE} {p0 p1 p' : List PyData} {ds : List PyData} {r : RV} {tl : List SV} (h0 : ρ[i]? = some (.gro p0)) (hD : runD as ρ = some (ds, ρ1)) (h2 : ρ1[i]? = some (.gro p1)) (h3 : g (.gro p1 :: ds.map .dat) = some (r, .gro p' :: tl)) :
    eDef g (.mv i :: as) ρ = some (r, ρ1.set i (.gro p')) := by
  unfold runD at hD
  unfold eDef
  simp only [runA, h0]
  cases e : runA as ρ with
  | none => rw [e] at hD; cases hD
  | some q =>
    obtain ⟨xs, ρ2⟩ := q
    rw [e] at hD
    simp only at hD ⊢
    cases e2 : allDat xs with
    | none => rw [e2] at hD; cases hD
    | some es =>
      rw [e2] at hD
      cases hD
      have key : ∀ (xs : List XV) (es : List PyData), allDat xs = some es → xs.map (toSV ρ1) = es.map .dat ∧ ∀ j, groIx ρ1 xs j = [] := by
        intro xs
        induction xs with
        | nil => intro es h; cases h; exact ⟨rfl, fun _ => rfl⟩
        | cons x xs ih =>
          intro es h
          cases x with
          | sl i => cases h
          | dat d =>
            simp only [allDat, Option.map_eq_some_iff] at h
            obtain ⟨fs, h1, rfl⟩ := h
            obtain ⟨k1, k2⟩ := ih fs h1
            exact ⟨by simp [toSV, k1], fun j => by simp [groIx, k2]⟩
      obtain ⟨k1, k2⟩ := key xs ds e2
      have e3 : groIx ρ1 (.sl i :: xs) 0 = [(0, i)] := by simp [groIx, h2, k2]
      have e4 : (XV.sl i :: xs).map (toSV ρ1) = .gro p1 :: ds.map .dat := by
        rw [List.map_cons, k1]
        simp [toSV, h2]
      rw [e3, e4, h3]
      rfl
theorem len_gro (l : List PyData) (h : l.length ≤ 1000) : lenD [.list l] = some (.dat (nI l.length)) := rfl
/-- pot from a cell of any size -/
theorem mod_any (i : Int) (u : Nat) (hu : 0 < u) : ∃ v : Nat, v < u ∧ modD (.int i) (nI u) = some (.dat (nI v)) := by
  have hp : (0 : Int) < u := by omega
  have h0 := Int.emod_nonneg i (show (u : Int) ≠ 0 by omega)
  have h1 := Int.emod_lt_of_pos i hp
  refine ⟨(i % u).toNat, by omega, ?_⟩
  rw [ap_mod, if_pos (decide_eq_true hp)]
  show some (RV.dat (.int (i % u))) = some (RV.dat (.int (((i % (u : Int)).toNat : Nat) : Int)))
  rw [show (((i % (u : Int)).toNat : Nat) : Int) = i % u by omega]
theorem pow_ok {a b : Nat} (h : powOk (a : Int) (b : Int) = true) : powD (nI a) (nI b) = some (.dat (nI (a ^ b))) := by
  rw [ap_pow, if_pos h]
  show some (RV.dat (.int ((a : Int) ^ b))) = _
  rw [← Int.natCast_pow]
theorem abs_run (i : Int) : absD [.int i] = some (.dat (nI i.natAbs)) := rfl
theorem r_pot (ns : List Int) (p : Nat) (hp : p ≤ 1000) : ∃ pot a2, Pot 0 pot ∧ g__law_pot [.dat (.list (ns.map .int)), .dat (nI p)] = some (.new pot, a2) := by
  have cell : ∃ c : Int, eIf (tV (eOp ltD (eVar 1) (eCall lenD [.ex (eVar 0)]))) (eIxG 0 (eVar 1)) (eOp addD (eOp mulD (eC (.int 1741)) (eVar 1)) (eC (.int 1063))) [.dat (.list (ns.map .int)), .dat (nI p), .un, .un, .un] = some (.dat (.int c), [.dat (.list (ns.map .int)), .dat (nI p), .un, .un, .un]) := by
    have hl : eCall lenD [.ex (eVar 0)] [.dat (.list (ns.map .int)), .dat (nI p), .un, .un, .un] = some (.dat (nI ns.length), [.dat (.list (ns.map .int)), .dat (nI p), .un, .un, .un]) := by
      refine call1_run (var_run (d := .list (ns.map .int)) rfl) ?_
      show some (RV.dat (.int ((ns.map PyData.int).length : Nat))) = _
      rw [List.length_map]
    by_cases h : p < ns.length
    · have hc : ltD (nI p) (nI ns.length) = some (.dat (.bool true)) := by rw [ap_lt]; simp; omega
      refine ⟨ns[p], if_run_t (tV_run (op_runD rfl hl hc)) (ix_run rfl rfl (.inr (.inl rfl)) ?_)⟩
      rw [atI_nat, List.getElem?_map, List.getElem?_eq_getElem h]
      rfl
    · have hc : ltD (nI p) (nI ns.length) = some (.dat (.bool false)) := by rw [ap_lt]; simp; omega
      exact ⟨_, if_run_f (tV_run (op_runD rfl hl hc)) (op_runD (op_runD rfl rfl (mul_nat (a := 1741) (b := p) 20 20 (by decide) (by omega))) rfl (add_nat _ 1063))⟩
  obtain ⟨c, ec⟩ := cell
  have q1 : powD (.int 10) (.int 60) = some (.dat (nI (10 ^ 60))) := pow_ok (a := 10) (b := 60) (by decide +kernel)
  have q2 : powD (nI (10 ^ 60)) (.int 5) = some (.dat (nI ((10 ^ 60) ^ 5))) := pow_ok (a := 10 ^ 60) (b := 5) (by decide +kernel)
  have q3 : powD (.int 10) (.int 18) = some (.dat (nI (10 ^ 18))) := pow_ok (a := 10) (b := 18) (by decide +kernel)
  have hbig : ((10 ^ 60) ^ 5 : Nat) < 2 ^ 997 := by decide +kernel
  have hpos : 0 < ((10 ^ 60) ^ 5 : Nat) := by decide +kernel
  obtain ⟨v, hv, ev⟩ := mod_any (c.natAbs : Int) ((10 ^ 60) ^ 5) hpos
  generalize ((10 ^ 60) ^ 5 : Nat) = B at q2 hbig hpos hv ev
  generalize (10 ^ 60 : Nat) = B0 at q1 q2
  generalize (10 ^ 18 : Nat) = B1 at q3
  have hb : ∃ w : Nat, w ≤ 1 ∧ eCall intD [.ex (eOp geD (eCall absD [.ex (eVar 2)]) (eOp powD (eC (.int 10)) (eC (.int 18))))] [.dat (.list (ns.map .int)), .dat (nI p), .dat (.int c), .un, .un] = some (.dat (nI w), [.dat (.list (ns.map .int)), .dat (nI p), .dat (.int c), .un, .un]) := by
    have e1 : eOp geD (eCall absD [.ex (eVar 2)]) (eOp powD (eC (.int 10)) (eC (.int 18))) [.dat (.list (ns.map .int)), .dat (nI p), .dat (.int c), .un, .un] = some (.dat (.bool (decide ((B1 : Int) ≤ c.natAbs))), [.dat (.list (ns.map .int)), .dat (nI p), .dat (.int c), .un, .un]) := op_runD (call1_run (var_run (d := .int c) rfl) (abs_run c)) (op_runD rfl rfl q3) (ap_ge _ _)
    refine ⟨if decide ((B1 : Int) ≤ c.natAbs) = true then 1 else 0, by split <;> omega, call1_run e1 ?_⟩
    show some (RV.dat (.int (if decide ((B1 : Int) ≤ c.natAbs) = true then 1 else 0))) = _
    split <;> rfl
  obtain ⟨w, hw, ew⟩ := hb
  have hm := mul_nat (a := v) (b := w) 997 2 (by omega) (by omega)
  have s1 : sSet 3 (eOp mulD (eOp modD (eCall intD [.ex (eCall absD [.ex (eVar 2)])]) (eOp powD (eOp powD (eC (.int 10)) (eC (.int 60))) (eC (.int 5)))) (eCall intD [.ex (eOp geD (eCall absD [.ex (eVar 2)]) (eOp powD (eC (.int 10)) (eC (.int 18))))])) [.dat (.list (ns.map .int)), .dat (nI p), .dat (.int c), .un, .un] = some (.nx, [.dat (.list (ns.map .int)), .dat (nI p), .dat (.int c), .dat (nI (v * w)), .un]) :=
    sSet_to (op_runD (op_runD (int_run (call1_run (var_run (d := .int c) rfl) (abs_run c))) (op_runD (op_runD rfl rfl q1) rfl q2) ev) ew hm)
  obtain ⟨x, hx, ex⟩ := mod_any c 2305843009213693951 (by decide)
  have s2 : sSet 4 (eOp modD (eCall intD [.ex (eVar 2)]) (eC (.int 2305843009213693951))) [.dat (.list (ns.map .int)), .dat (nI p), .dat (.int c), .dat (nI (v * w)), .un] = some (.nx, [.dat (.list (ns.map .int)), .dat (nI p), .dat (.int c), .dat (nI (v * w)), .dat (nI x)]) := sSet_to (op_runD (int_run (var_run (d := .int c) rfl)) rfl ex)
  have m1 := mul_nat (a := x) (b := 76441) 61 20 (by omega) (by decide)
  have m2 := mul_nat (a := 10831) (b := p) 20 20 (by decide) (by omega)
  have m3 := mul_nat (a := 10831 * p) (b := p) 40 20 (by omega) (by omega)
  have e3 : eOp modD (eCall intD [.ex (eOp addD (eOp addD (eOp mulD (eVar 4) (eC (.int 76441))) (eOp mulD (eOp mulD (eC (.int 10831)) (eVar 1)) (eVar 1))) (eC (.int 1377)))]) (eC (.int 2305843009213693921)) [.dat (.list (ns.map .int)), .dat (nI p), .dat (.int c), .dat (nI (v * w)), .dat (nI x)] = some (.dat (nI ((x * 76441 + 10831 * p * p + 1377) % 2305843009213693921)), [.dat (.list (ns.map .int)), .dat (nI p), .dat (.int c), .dat (nI (v * w)), .dat (nI x)]) :=
    op_runD (int_run (op_runD (op_runD (op_runD (var_run (d := nI x) rfl) rfl m1) (op_runD (op_runD rfl rfl m2) rfl m3) (add_nat _ _)) rfl (add_nat _ 1377))) rfl (mod_nat (u := 2305843009213693921) (by decide))
  have hy : (x * 76441 + 10831 * p * p + 1377) % 2305843009213693921 < 2 ^ 62 := Nat.lt_trans (Nat.mod_lt _ (by decide)) (by decide)
  generalize (x * 76441 + 10831 * p * p + 1377) % 2305843009213693921 = y at e3 hy
  have e4 : eLst [.ex (eVar 3), .ex (eOp modD (eCall intD [.ex (eOp addD (eOp addD (eOp mulD (eVar 4) (eC (.int 76441))) (eOp mulD (eOp mulD (eC (.int 10831)) (eVar 1)) (eVar 1))) (eC (.int 1377)))]) (eC (.int 2305843009213693921))), .ex (eC (.int 0))] [.dat (.list (ns.map .int)), .dat (nI p), .dat (.int c), .dat (nI (v * w)), .dat (nI x)] = some (.new [nI (v * w), nI y, nI 0], [.dat (.list (ns.map .int)), .dat (nI p), .dat (.int c), .dat (nI (v * w)), .dat (nI x)]) :=
    lst_run (runD_consD (var_run (d := nI (v * w)) rfl) (runD_consD e3 (runD_consD rfl runD_nil))) (fits (by simp))
  have hvw : v * w < 2 ^ 1000 := by
    have : v * w ≤ v * 1 := Nat.mul_le_mul_left v hw
    omega
  refine ⟨[nI (v * w), nI y, nI 0], _, ⟨v * w, y, 0, rfl, hvw, hy, Nat.le_refl _⟩, fn_rt (ρ := [.dat (.list (ns.map .int)), .dat (nI p), .dat (.int c), .dat (nI (v * w)), .dat (nI x)]) rfl rfl ?_ rfl⟩
  exact sSeq_run (sSet_to (ρ2 := [.dat (.list (ns.map .int)), .dat (nI p), .dat (.int c), .un, .un]) ec) (sSeq_run s1 (sSeq_run s2 (sRet_run e4)))
theorem r_of (n : Nat) (p : List PyData) (xs : List Nat) (hP : Pot n p) (hn : n ≤ 1000000) (h0 : 0 < xs.length) (h1 : xs.length ≤ 100) : ∃ (v : Nat) (p' : List PyData) (tl : List SV), v ∈ xs ∧ Pot (n + 1) p' ∧ g__law_of [.gro p, .dat (.list (xs.map nI))] = some (.dat (nI v), .gro p' :: tl) := by
  obtain ⟨v, p', hv, hP', e⟩ := r_take n xs.length p hP hn h0 (by omega)
  have hl : eCall lenD [.ex (eVar 1)] [.gro p, .dat (.list (xs.map nI))] = some (.dat (nI xs.length), [.gro p, .dat (.list (xs.map nI))]) := by
    refine call1_run (var_run (d := .list (xs.map nI)) rfl) ?_
    show some (RV.dat (.int ((xs.map nI).length : Nat))) = _
    rw [List.length_map]
  have e1 : eDef g__law_take [.mv 0, .ex (eCall lenD [.ex (eVar 1)])] [.gro p, .dat (.list (xs.map nI))] = some (.dat (nI v), [.gro p', .dat (.list (xs.map nI))]) := mv_run rfl (runD_consD hl runD_nil) rfl e
  refine ⟨xs[v], p', _, List.getElem_mem hv, hP', fn_rt (ρ := [.gro p', .dat (.list (xs.map nI))]) rfl rfl (sRet_run (ix_run rfl e1 (.inr (.inl rfl)) ?_)) rfl⟩
  rw [atI_nat, List.getElem?_map, List.getElem?_eq_getElem hv]
  rfl
theorem r_cells (ns : List Int) (h : ns.length ≤ 1000) : ∃ c, c ≤ 2 ∧ g__law_cells [.dat (.list (ns.map .int)), .dat (nI 2)] = some (.new ((List.range c).map nI), [.dat (.list (ns.map .int)), .dat (nI 2)]) := by
  have hl : eCall lenD [.ex (eVar 0)] [.dat (.list (ns.map .int)), .dat (nI 2)] = some (.dat (nI ns.length), [.dat (.list (ns.map .int)), .dat (nI 2)]) := by
    refine call1_run (var_run (d := .list (ns.map .int)) rfl) ?_
    show some (RV.dat (.int ((ns.map PyData.int).length : Nat))) = _
    rw [List.length_map]
  have call2 : ∀ {g : List PyData → Option RV} {f f2 : ED} {ρ : DE} {a b : PyData} {x : RV}, f ρ = some (.dat a, ρ) → f2 ρ = some (.dat b, ρ) → g [a, b] = some x → eCall g [.ex f, .ex f2] ρ = some (x, ρ) := fun h1 h2 h3 => by
    unfold eCall
    rw [runD_consD h1 (runD_consD h2 runD_nil)]
    simp only
    rw [h3]
  have e1 : minD2 [nI 2, nI ns.length] = some (.dat (nI (min 2 ns.length))) := by
    show some (RV.dat (.int (min ((2 : Nat) : Int) (ns.length : Nat)))) = _
    rw [show min ((2 : Nat) : Int) ((ns.length : Nat) : Int) = ((min 2 ns.length : Nat) : Int) by omega]
  have e2 : maxD2 [nI 1, nI (min 2 ns.length)] = some (.dat (nI (max 1 (min 2 ns.length)))) := by
    show some (RV.dat (.int (max ((1 : Nat) : Int) ((min 2 ns.length : Nat) : Int)))) = _
    rw [show max ((1 : Nat) : Int) ((min 2 ns.length : Nat) : Int) = ((max 1 (min 2 ns.length) : Nat) : Int) by omega]
  refine ⟨max 1 (min 2 ns.length), by omega, fn_rt (ρ := [.dat (.list (ns.map .int)), .dat (nI 2)]) rfl rfl (sRet_run ?_) rfl⟩
  have e5 : runD [.ex (eCall maxD2 [.ex (eC (.int 1)), .ex (eCall minD2 [.ex (eVar 1), .ex (eCall lenD [.ex (eVar 0)])])])] [.dat (.list (ns.map .int)), .dat (nI 2)] = some ([nI (max 1 (min 2 ns.length))], [.dat (.list (ns.map .int)), .dat (nI 2)]) := runD_consD (call2 rfl (call2 rfl hl e1) e2) runD_nil
  show eLstRg [.ex (eCall maxD2 [.ex (eC (.int 1)), .ex (eCall minD2 [.ex (eVar 1), .ex (eCall lenD [.ex (eVar 0)])])])] [.dat (.list (ns.map .int)), .dat (nI 2)] = _
  unfold eLstRg
  rw [e5]
  simp only
  rw [small_nat (by omega), rgD_range, Int.toNat_natCast]
  rw [if_pos (by simp; omega)]
end K80
namespace K80
open PySem DL
theorem rg_run {f : ED} {ρ ρ1 : DE} {n : Nat} (h : f ρ = some (.dat (nI n), ρ1)) (hn : n ≤ 10000) : iRg1 [.ex f] ρ = some ((List.range n).map nI, ρ1) := by
  unfold iRg1
  rw [runD_consD h runD_nil]
  simp only
  rw [if_pos (small_nat hn), Int.toNat_natCast, rgD_range]
theorem rg_get {n i : Nat} {d : PyData} (h : ((List.range n).map nI)[i]? = some d) : i < n ∧ d = nI i := by
  rw [List.getElem?_map] at h
  by_cases hi : i < n
  · have h : nI i = d := by simpa [hi] using h
    exact ⟨hi, h.symm⟩
  · rw [List.getElem?_eq_none (by simp; omega)] at h; cases h
theorem call2_run {g : List PyData → Option RV} {f f2 : ED} {ρ ρ1 ρ2 : DE} {a b : PyData} {x : RV} (h1 : f ρ = some (.dat a, ρ1)) (h2 : f2 ρ1 = some (.dat b, ρ2)) (h3 : g [a, b] = some x) : eCall g [.ex f, .ex f2] ρ = some (x, ρ2) := by
  unfold eCall
  rw [runD_consD h1 (runD_consD h2 runD_nil)]
  simp only
  rw [h3]
/-! ### a drawn lot -/
abbrev dlB : SD := sSeq (sApp 3 (eCall intD [.ex (eCall minD2 [.ex (eVar 4), .ex (eDef g__law_take [.mv 0, .ex (eC (.int 5))])])]))
  (sSet 4 (eOp subD (eVar 4) (eIxG 3 (eNeg (eC (.int 1))))))
theorem r_drawn (n k : Nat) (p : List PyData) (hP : Pot n p) (hn : n ≤ 1000) (hk : k ≤ 10) : ∃ (l : List Nat) (p' : List PyData) (tl : List SV), l.length = k ∧ l.sum ≤ 7 ∧ Pot (n + k) p' ∧ g__law_drawn_lot [.gro p, .dat (nI k), .dat (nI 7)] = some (.dat (tn l), .gro p' :: tl) := by
  have step : ∀ (i : Nat) (ρ' : DE) (d : PyData), ((List.range k).map nI)[i]? = some d → (∃ (p' : List PyData) (l : List Nat) (left : Nat) (x : SV), ρ' = [.gro p', .dat (nI k), .dat (nI 7), .gro (l.map nI), .dat (nI left), x] ∧ Pot (n + (0 + i)) p' ∧ l.length = 0 + i ∧ l.sum + left = 7) →
      ∃ ρ2, lpStep (gNm 5) dlB d ρ' = some (.nx, ρ2) ∧ ∃ (p' : List PyData) (l : List Nat) (left : Nat) (x : SV), ρ2 = [.gro p', .dat (nI k), .dat (nI 7), .gro (l.map nI), .dat (nI left), x] ∧ Pot (n + (0 + i + 1)) p' ∧ l.length = 0 + i + 1 ∧ l.sum + left = 7 := by
    rintro i ρ' d hd ⟨p', l, left, x, rfl, hP', hl, hs⟩
    obtain ⟨hi, rfl⟩ := rg_get hd
    obtain ⟨v, p2, hv, hP2, e⟩ := r_take (n + (0 + i)) 5 p' hP' (by omega) (by decide) (by decide)
    have e1 : eDef g__law_take [.mv 0, .ex (eC (.int 5))] [.gro p', .dat (nI k), .dat (nI 7), .gro (l.map nI), .dat (nI left), .dat (nI i)] = some (.dat (nI v), [.gro p2, .dat (nI k), .dat (nI 7), .gro (l.map nI), .dat (nI left), .dat (nI i)]) := mv_run (ρ1 := [.gro p', .dat (nI k), .dat (nI 7), .gro (l.map nI), .dat (nI left), .dat (nI i)]) rfl (runD_consD (d := nI 5) rfl runD_nil) rfl e
    have hmin : minD2 [nI left, nI v] = some (.dat (nI (min left v))) := by
      show some (RV.dat (.int (min ((left : Nat) : Int) (v : Nat)))) = _
      rw [show min ((left : Nat) : Int) ((v : Nat) : Int) = ((min left v : Nat) : Int) by omega]
    have e2 : eCall intD [.ex (eCall minD2 [.ex (eVar 4), .ex (eDef g__law_take [.mv 0, .ex (eC (.int 5))])])] [.gro p', .dat (nI k), .dat (nI 7), .gro (l.map nI), .dat (nI left), .dat (nI i)] = some (.dat (nI (min left v)), [.gro p2, .dat (nI k), .dat (nI 7), .gro (l.map nI), .dat (nI left), .dat (nI i)]) := int_run (call2_run rfl e1 hmin)
    have e3 : sApp 3 (eCall intD [.ex (eCall minD2 [.ex (eVar 4), .ex (eDef g__law_take [.mv 0, .ex (eC (.int 5))])])]) [.gro p', .dat (nI k), .dat (nI 7), .gro (l.map nI), .dat (nI left), .dat (nI i)] = some (.nx, [.gro p2, .dat (nI k), .dat (nI 7), .gro ((l ++ [min left v]).map nI), .dat (nI left), .dat (nI i)]) := by
      rw [List.map_append]
      exact app_run rfl e2 rfl (Nat.lt_of_lt_of_le (show (l.map nI).length < 10000 by simp; omega) (fits (Nat.le_refl _)))
    have e4 : eIxG 3 (eNeg (eC (.int 1))) [.gro p2, .dat (nI k), .dat (nI 7), .gro ((l ++ [min left v]).map nI), .dat (nI left), .dat (nI i)] = some (.dat (nI (min left v)), [.gro p2, .dat (nI k), .dat (nI 7), .gro ((l ++ [min left v]).map nI), .dat (nI left), .dat (nI i)]) := by
      refine ix_run (j := -1) rfl rfl (.inr (.inr rfl)) ?_
      rw [atI_last]
      simp
    have hsub : subD (nI left) (nI (min left v)) = some (.dat (nI (left - min left v))) := by
      rw [ap_sub]
      show some (RV.dat (.int (((left : Nat) : Int) - ((min left v : Nat) : Int)))) = some (RV.dat (.int ((left - min left v : Nat) : Int)))
      rw [show ((left : Nat) : Int) - ((min left v : Nat) : Int) = ((left - min left v : Nat) : Int) by omega]
    refine ⟨[.gro p2, .dat (nI k), .dat (nI 7), .gro ((l ++ [min left v]).map nI), .dat (nI (left - min left v)), .dat (nI i)], lp_run (ρ1 := [.gro p', .dat (nI k), .dat (nI 7), .gro (l.map nI), .dat (nI left), .dat (nI i)]) rfl (sSeq_run e3 (sSet_to (op_runD rfl e4 hsub))), p2, l ++ [min left v], left - min left v, _, rfl, hP2, by simp [hl], ?_⟩
    simp only [List.sum_append, List.sum_cons, List.sum_nil]
    omega
  obtain ⟨ρ2, e, p', l, left, x, rfl, hP', hl, hs⟩ := loop_R (a := gNm 5) (body := dlB) (fun i ρ' => ∃ (p' : List PyData) (l : List Nat) (left : Nat) (x : SV), ρ' = [.gro p', .dat (nI k), .dat (nI 7), .gro (l.map nI), .dat (nI left), x] ∧ Pot (n + i) p' ∧ l.length = i ∧ l.sum + left = 7) ((List.range k).map nI) 0 [.gro p, .dat (nI k), .dat (nI 7), .gro [], .dat (nI 7), .un] ⟨p, [], 7, .un, rfl, hP, rfl, rfl⟩ step
  simp only [List.length_map, List.length_range, Nat.zero_add] at hP' hl
  have c0 : sParV 3 4 [eLst [], eVar 2] [.gro p, .dat (nI k), .dat (nI 7), .un, .un, .un] = some (.nx, [.gro p, .dat (nI k), .dat (nI 7), .gro [], .dat (nI 7), .un]) := by
    have e2 : eLst [] [.gro p, .dat (nI k), .dat (nI 7), .un, .un, .un] = some (.new [], [.gro p, .dat (nI k), .dat (nI 7), .un, .un, .un]) := lst_run runD_nil (Nat.zero_le _)
    unfold sParV runV
    rw [e2]
    rfl
  have body : b__law_drawn_lot [.gro p, .dat (nI k), .dat (nI 7), .un, .un, .un] = some (.rt (.dat (tn l)), [.gro p', .dat (nI k), .dat (nI 7), .dat (.list (l.map nI)), .dat (nI left), x]) :=
    sSeq_run c0 (sSeq_run (sFor_run (rg_run (var_run (d := nI k) rfl) (by omega)) e) (sRet_run rfl))
  exact ⟨l, p', _, hl, by omega, hP', fn_rt (ρ := [.gro p', .dat (nI k), .dat (nI 7), .dat (.list (l.map nI)), .dat (nI left), x]) rfl rfl body rfl⟩
/-! ### all orders -/
abbrev rows (l : List (List Nat)) : List PyData := l.map tn
theorem ao_ext (lot row : List Nat) (A B : SV) (L : List PyData) (C : PyData) (hl : lot.length ≤ 10) (hr : row.length ≤ 40) :
    eLc [5] (iRg1 [.ex (eCall lenD [.ex (eVar 0)])]) (gNm 5) (tV (eOp ltD (eCount (eVar 4) (eVar 5)) (eIxG 0 (eVar 5)))) (eOp addD (eVar 4) (eTup [.ex (eCall intD [.ex (eVar 5)])])) [.dat (tn lot), A, B, .gro L, .dat (tn row), .un] = some (.new (rows (ext lot.length lot row)), [.dat (tn lot), A, B, .gro L, .dat (tn row), .un]) := by
  have hlen : eCall lenD [.ex (eVar 0)] [.dat (tn lot), A, B, .gro L, .dat (tn row), .un] = some (.dat (nI lot.length), [.dat (tn lot), A, B, .gro L, .dat (tn row), .un]) := by
    refine call1_run (var_run (d := tn lot) rfl) ?_
    show some (RV.dat (.int ((lot.map nI).length : Nat))) = _
    rw [List.length_map]
  have lc := lc_fun (own := [5]) (a := gNm 5) (c := tV (eOp ltD (eCount (eVar 4) (eVar 5)) (eIxG 0 (eVar 5)))) (f := eOp addD (eVar 4) (eTup [.ex (eCall intD [.ex (eVar 5)])])) ((List.range lot.length).map nI) [] (fun _ => [.dat (tn lot), A, B, .gro L, .dat (tn row), .un]) (fun i => if decide (row.count i < lot.getD i 0) = true then some (tn (row ++ [i])) else none) (fits (by simp; omega)) fun i d hd => by
    obtain ⟨hi, rfl⟩ := rg_get hd
    have hx : eIxG 0 (eVar 5) [.dat (tn lot), A, B, .gro L, .dat (tn row), .dat (nI i)] = some (.dat (nI (lot.getD i 0)), [.dat (tn lot), A, B, .gro L, .dat (tn row), .dat (nI i)]) := ix_run rfl rfl (.inl rfl) (at_ints lot i hi)
    have hc : eCount (eVar 4) (eVar 5) [.dat (tn lot), A, B, .gro L, .dat (tn row), .dat (nI i)] = some (.dat (nI (row.count i)), [.dat (tn lot), A, B, .gro L, .dat (tn row), .dat (nI i)]) := by
      have e := countP_ints row i
      unfold eCount
      rw [var_run (d := tn row) rfl]
      simp only [RV.d]
      rw [var_run (d := nI i) rfl]
      simp only [RV.d, countOk_ints, if_true, e]
    by_cases h : row.count i < lot.getD i 0
    · have h1 : ltD (nI (row.count i)) (nI (lot.getD i 0)) = some (.dat (.bool true)) := by
        rw [ap_lt]
        have : ((row.count i : Nat) : Int) < ((lot.getD i 0 : Nat) : Int) := by omega
        rw [decide_eq_true this]
      have h2 : addD (tn row) (tn [i]) = some (.dat (tn (row ++ [i]))) := by
        show (if (row.map nI).length + [nI i].length ≤ sizeLine then some (RV.dat (.tuple (row.map nI ++ [nI i]))) else none) = _
        rw [if_pos (fits (by simp; omega))]
        simp
      rw [if_pos (decide_eq_true h)]
      exact lcs_run (r := .dat (tn (row ++ [i]))) (ρ1 := [.dat (tn lot), A, B, .gro L, .dat (tn row), .dat (nI i)]) rfl (tV_run (op_runD hc hx h1)) (op_runD (var_run (d := tn row) rfl) (tup_run (runD_consD (int_run (var_run (d := nI i) rfl)) runD_nil) (fits (by simp))) h2) rfl
    · have h1 : ltD (nI (row.count i)) (nI (lot.getD i 0)) = some (.dat (.bool false)) := by
        rw [ap_lt]
        have : ¬ ((row.count i : Nat) : Int) < ((lot.getD i 0 : Nat) : Int) := by omega
        rw [decide_eq_false this]
      rw [if_neg (by simpa using h)]
      exact lcs_no (ρ1 := [.dat (tn lot), A, B, .gro L, .dat (tn row), .dat (nI i)]) rfl (tV_run (op_runD hc hx h1)) rfl
  rw [List.length_map, List.length_range, List.nil_append] at lc
  have e2 : (List.range lot.length).filterMap (fun i => if decide (row.count i < lot.getD i 0) = true then some (tn (row ++ [i])) else none) = rows (ext lot.length lot row) := by
    unfold ext rows
    rw [List.map_map]
    generalize List.range lot.length = l
    induction l with
    | nil => rfl
    | cons a l ih =>
      rw [List.filterMap_cons, List.filter_cons]
      by_cases h : decide (row.count a < lot.getD a 0) = true
      · rw [if_pos h, if_pos h, List.map_cons, ih]; rfl
      · rw [if_neg h, if_neg h]; exact ih
  rw [e2] at lc
  exact eLc_run (own := [5]) (rg_run hlen (by omega)) rfl lc
theorem ext_run {i : Nat} {f : ED} {ρ ρ1 : DE} {es ds : List PyData} (h0 : isGro ρ[i]? = true) (h1 : f ρ = some (.new es, ρ1)) (h2 : ρ1[i]? = some (.gro ds)) (hz : ds.length + es.length ≤ sizeLine) : sExt i f ρ = some (.nx, ρ1.set i (.gro (ds ++ es))) := by
  unfold sExt
  rw [if_pos h0, h1]
  simp only
  rw [h2]
  simp only
  rw [if_pos hz]
end K80
namespace K80
open PySem DL
theorem ext_len (k : Nat) (lot row : List Nat) : (ext k lot row).length ≤ k := by
  unfold ext
  rw [List.length_map]
  exact Nat.le_trans (List.length_filter_le _ _) (by simp)
theorem flat_len (k : Nat) (lot : List Nat) : ∀ fs : List (List Nat), (fs.flatMap (ext k lot)).length ≤ fs.length * k
  | [] => by simp
  | f :: fs => by
    have h1 := ext_len k lot f
    have h2 := flat_len k lot fs
    rw [List.flatMap_cons, List.length_append, List.length_cons, Nat.succ_mul]
    omega
theorem bfs_len_le (k : Nat) (lot : List Nat) : ∀ n, (bfs k lot n).length ≤ k ^ n
  | 0 => Nat.le_refl _
  | n + 1 => by
    have h1 := flat_len k lot (bfs k lot n)
    have h2 := Nat.mul_le_mul_right k (bfs_len_le k lot n)
    rw [Nat.pow_succ]
    exact Nat.le_trans h1 h2
theorem bfs_row_len (k : Nat) (lot : List Nat) : ∀ n, ∀ r ∈ bfs k lot n, r.length = n
  | 0, r, h => by
    have h : r ∈ [[]] := h
    rw [List.mem_singleton.mp h]; rfl
  | n + 1, r, h => by
    have h : r ∈ (bfs k lot n).flatMap (ext k lot) := h
    obtain ⟨f, hf, hr⟩ := List.mem_flatMap.mp h
    unfold ext at hr
    obtain ⟨s, _, rfl⟩ := List.mem_map.mp hr
    rw [List.length_append, bfs_row_len k lot n f hf]; rfl
abbrev aoI : SD := sExt 3 (eLc [5] (iRg1 [.ex (eCall lenD [.ex (eVar 0)])]) (gNm 5) (tV (eOp ltD (eCount (eVar 4) (eVar 5)) (eIxG 0 (eVar 5)))) (eOp addD (eVar 4) (eTup [.ex (eCall intD [.ex (eVar 5)])])))
theorem ao_inner (lot : List Nat) (A B : SV) (hl : lot.length ≤ 4) : ∀ (fs acc : List (List Nat)) (x : SV), (∀ r ∈ fs, r.length ≤ 40) → acc.length + fs.length * lot.length ≤ 100000 →
    ∃ y, loopD (gNm 4) aoI (rows fs) [.dat (tn lot), A, B, .gro (rows acc), x, .un] = some (.nx, [.dat (tn lot), A, B, .gro (rows (acc ++ fs.flatMap (ext lot.length lot))), y, .un])
  | [], acc, x, _, _ => ⟨x, by rw [List.flatMap_nil, List.append_nil]; rfl⟩
  | f :: fs, acc, x, hf, hz => by
    have h1 := ext_len lot.length lot f
    rw [List.length_cons, Nat.succ_mul] at hz
    have e := ao_ext lot f A B (rows acc) .none (by omega) (hf f (by simp))
    have s : aoI [.dat (tn lot), A, B, .gro (rows acc), .dat (tn f), .un] = some (.nx, [.dat (tn lot), A, B, .gro (rows (acc ++ ext lot.length lot f)), .dat (tn f), .un]) := by
      have z := ext_run (i := 3) rfl e rfl (by rw [sizeLine_eq]; simp; omega)
      rw [show rows (acc ++ ext lot.length lot f) = rows acc ++ rows (ext lot.length lot f) by simp]
      exact z
    obtain ⟨y, q⟩ := ao_inner lot A B hl fs (acc ++ ext lot.length lot f) (.dat (tn f)) (fun r hr => hf r (by simp [hr])) (by rw [List.length_append]; omega)
    rw [List.append_assoc, ← List.flatMap_cons] at q
    exact ⟨y, (loop_cons (lp_run (ρ1 := [.dat (tn lot), A, B, .gro (rows acc), .dat (tn f), .un]) rfl s)).trans q⟩
theorem pow4 {k n : Nat} (hk : k ≤ 4) (hn : n ≤ 7) : k ^ n ≤ 16384 := by
  have h1 : k ^ n ≤ 4 ^ n := Nat.pow_le_pow_left hk n
  have h2 : 4 ^ n ≤ 4 ^ 7 := Nat.pow_le_pow_right (by decide) hn
  have : (4 : Nat) ^ 7 = 16384 := rfl
  omega
abbrev aoB : SD := sSeq (sSet 3 (eLst [])) (sSeq (sFor (iAny (eVar 1)) (gNm 4) aoI) (sSet 1 (eVar 3)))
theorem ao_step (lot : List Nat) (n : Nat) (A C D : SV) (d : PyData) (hl : lot.length ≤ 4) (hn : n < 7) (hA : A = .gro (rows (bfs lot.length lot n)) ∨ A = .dat (.list (rows (bfs lot.length lot n)))) :
    ∃ y z, aoB [.dat (tn lot), A, .dat d, C, D, .un] = some (.nx, [.dat (tn lot), .dat (.list (rows (bfs lot.length lot (n + 1)))), .dat d, y, z, .un]) := by
  have hb := bfs_len_le lot.length lot n
  have hp := pow4 hl (Nat.le_of_lt hn)
  have hbk : (bfs lot.length lot n).length * lot.length ≤ 16384 * 4 := Nat.mul_le_mul (Nat.le_trans hb hp) hl
  obtain ⟨y, q⟩ := ao_inner lot (.dat (.list (rows (bfs lot.length lot n)))) (.dat d) hl (bfs lot.length lot n) [] D (fun r hr => by rw [bfs_row_len _ _ _ r hr]; omega) (by simp; omega)
  rw [List.nil_append] at q
  have e1 : sSet 3 (eLst []) [.dat (tn lot), A, .dat d, C, D, .un] = some (.nx, [.dat (tn lot), A, .dat d, .gro [], D, .un]) := sSet_to (lst_run runD_nil (Nat.zero_le _))
  have e2 : iAny (eVar 1) [.dat (tn lot), A, .dat d, .gro [], D, .un] = some (rows (bfs lot.length lot n), [.dat (tn lot), .dat (.list (rows (bfs lot.length lot n))), .dat d, .gro [], D, .un]) := by
    rcases hA with rfl | rfl <;> rfl
  have e3 : sSet 1 (eVar 3) [.dat (tn lot), .dat (.list (rows (bfs lot.length lot n))), .dat d, .gro (rows ((bfs lot.length lot n).flatMap (ext lot.length lot))), y, .un] = some (.nx, [.dat (tn lot), .dat (.list (rows (bfs lot.length lot (n + 1)))), .dat d, .dat (.list (rows (bfs lot.length lot (n + 1)))), y, .un]) := rfl
  exact ⟨_, y, sSeq_run e1 (sSeq_run (sFor_run e2 q) e3)⟩
theorem r_all_orders (lot : List Nat) (hl : lot.length ≤ 4) (hs : lot.sum ≤ 7) : ∃ a2, g__law_all_orders [.dat (tn lot)] = some (.dat (.list (rows (bfs lot.length lot lot.sum))), a2) := by
  have step : ∀ (i : Nat) (ρ' : DE) (d : PyData), ((List.range lot.sum).map nI)[i]? = some d → (∃ A B C D : SV, ρ' = [.dat (tn lot), A, B, C, D, .un] ∧ (A = .gro (rows (bfs lot.length lot (0 + i))) ∨ A = .dat (.list (rows (bfs lot.length lot (0 + i)))))) →
      ∃ ρ2, lpStep (gNm 2) aoB d ρ' = some (.nx, ρ2) ∧ ∃ A B C D : SV, ρ2 = [.dat (tn lot), A, B, C, D, .un] ∧ (A = .gro (rows (bfs lot.length lot (0 + i + 1))) ∨ A = .dat (.list (rows (bfs lot.length lot (0 + i + 1))))) := by
    rintro i ρ' d hd ⟨A, B, C, D, rfl, hA⟩
    obtain ⟨hi, rfl⟩ := rg_get hd
    obtain ⟨y, z, q⟩ := ao_step lot (0 + i) A C D (nI i) hl (by omega) hA
    exact ⟨_, lp_run (ρ1 := [.dat (tn lot), A, .dat (nI i), C, D, .un]) rfl q, _, _, _, _, rfl, .inr rfl⟩
  obtain ⟨ρ2, e, A, B, C, D, rfl, hA⟩ := loop_R (a := gNm 2) (body := aoB) (fun i ρ' => ∃ A B C D : SV, ρ' = [.dat (tn lot), A, B, C, D, .un] ∧ (A = .gro (rows (bfs lot.length lot i)) ∨ A = .dat (.list (rows (bfs lot.length lot i))))) ((List.range lot.sum).map nI) 0 [.dat (tn lot), .gro (rows [[]]), .un, .un, .un, .un] ⟨_, _, _, _, rfl, .inl rfl⟩ step
  simp only [List.length_map, List.length_range, Nat.zero_add] at hA
  have hsum : eCall sumD [.ex (eVar 0)] [.dat (tn lot), .gro (rows [[]]), .un, .un, .un, .un] = some (.dat (nI lot.sum), [.dat (tn lot), .gro (rows [[]]), .un, .un, .un, .un]) := by
    refine call1_run (var_run (d := tn lot) rfl) ?_
    show sumD [.tuple (lot.map nI)] = _
    simp only [sumD, ints_map, Option.map_some, sum_cast]
  have c0 : sSet 1 (eLst [.ex (eTup [])]) [.dat (tn lot), .un, .un, .un, .un, .un] = some (.nx, [.dat (tn lot), .gro (rows [[]]), .un, .un, .un, .un]) := sSet_to (lst_run (runD_consD (tup_run runD_nil (Nat.zero_le _)) runD_nil) (fits (by simp)))
  have cr : eVar 1 [.dat (tn lot), A, B, C, D, .un] = some (.dat (.list (rows (bfs lot.length lot lot.sum))), [.dat (tn lot), .dat (.list (rows (bfs lot.length lot lot.sum))), B, C, D, .un]) := by
    rcases hA with rfl | rfl <;> rfl
  have body : b__law_all_orders [.dat (tn lot), .un, .un, .un, .un, .un] = some (.rt (.dat (.list (rows (bfs lot.length lot lot.sum)))), [.dat (tn lot), .dat (.list (rows (bfs lot.length lot lot.sum))), B, C, D, .un]) :=
    sSeq_run c0 (sSeq_run (sFor_run (rg_run hsum (by omega)) e) (sRet_run cr))
  exact ⟨_, fn_rt (ρ := [.dat (tn lot), .dat (.list (rows (bfs lot.length lot lot.sum))), B, C, D, .un]) rfl rfl body rfl⟩
/-! ### the law's own product -/
theorem fct_le : ∀ n, n ≤ 40 → fct n ≤ 2 ^ (6 * n)
  | 0, _ => Nat.le_refl _
  | n + 1, h => by
    have ih := fct_le n (by omega)
    have e : fct (n + 1) = (n + 1) * fct n := rfl
    rw [e, show 6 * (n + 1) = 6 + 6 * n by omega, Nat.pow_add]
    exact Nat.mul_le_mul (by have : (2 : Nat) ^ 6 = 64 := rfl; omega) ih
theorem fct_succ (f n : Nat) : f * fct n * (n + 1) = f * fct (n + 1) := by
  show f * fct n * (n + 1) = f * ((n + 1) * fct n)
  rw [Nat.mul_assoc, Nat.mul_comm (fct n)]
theorem many_loop1 (A C E : SV) (n : Nat) (hn : n ≤ 40) (x : SV) : ∃ y, loopD (gNm 3) (sSet 1 (eOp mulD (eVar 1) (eOp addD (eVar 3) (eC (.int 1))))) ((List.range n).map nI) [A, .dat (nI 1), C, x, E] = some (.nx, [A, .dat (nI (fct n)), C, y, E]) := by
  have lp := loop_fun (a := gNm 3) (body := sSet 1 (eOp mulD (eVar 1) (eOp addD (eVar 3) (eC (.int 1))))) ((List.range n).map nI) (fun i => [A, .dat (nI (fct i)), C, if i = 0 then x else .dat (nI (i - 1)), E]) fun i d hd => by
    obtain ⟨hi, rfl⟩ := rg_get hd
    have hf := fct_le i (by omega)
    have hb : (2 : Nat) ^ (6 * i) ≤ 2 ^ 240 := Nat.pow_le_pow_right (by decide) (by omega)
    have hm := mul_nat (a := fct i) (b := i + 1) 241 20 (Nat.lt_of_le_of_lt (Nat.le_trans hf hb) (by decide)) (by omega)
    have e : fct i * (i + 1) = fct (i + 1) := by have := fct_succ 1 i; simpa using this
    rw [e] at hm
    exact lp_run (ρ1 := [A, .dat (nI (fct i)), C, .dat (nI i), E]) rfl (sSet_to (op_runD rfl (op_runD rfl rfl (add_nat i 1)) hm))
  rw [List.length_map, List.length_range] at lp
  exact ⟨_, lp⟩
theorem many_loop2 (A B : SV) (f n s : Nat) (hn : n + s ≤ 40) (hf : f ≤ 2 ^ (6 * s)) (m : SV) (x : SV) : ∃ y, loopD (gNm 3) (sSet 2 (eOp mulD (eVar 2) (eOp addD (eVar 3) (eC (.int 1))))) ((List.range n).map nI) [A, B, .dat (nI f), x, m] = some (.nx, [A, B, .dat (nI (f * fct n)), y, m]) := by
  have lp := loop_fun (a := gNm 3) (body := sSet 2 (eOp mulD (eVar 2) (eOp addD (eVar 3) (eC (.int 1))))) ((List.range n).map nI) (fun i => [A, B, .dat (nI (f * fct i)), if i = 0 then x else .dat (nI (i - 1)), m]) fun i d hd => by
    obtain ⟨hi, rfl⟩ := rg_get hd
    have h1 := fct_le i (by omega)
    have hb : f * fct i ≤ 2 ^ 240 := by
      refine Nat.le_trans (Nat.mul_le_mul hf h1) ?_
      rw [← Nat.pow_add]
      exact Nat.pow_le_pow_right (by decide) (by omega)
    have hm := mul_nat (a := f * fct i) (b := i + 1) 241 20 (Nat.lt_of_le_of_lt hb (by decide)) (by omega)
    rw [fct_succ] at hm
    exact lp_run (ρ1 := [A, B, .dat (nI (f * fct i)), .dat (nI i), m]) rfl (sSet_to (op_runD rfl (op_runD rfl rfl (add_nat i 1)) hm))
  rw [List.length_map, List.length_range] at lp
  have e0 : f * fct 0 = f := Nat.mul_one f
  simp only [e0, if_true] at lp
  exact ⟨_, lp⟩
abbrev mnB : SD := sFor (iRg1 [.ex (eVar 4)]) (gNm 3) (sSet 2 (eOp mulD (eVar 2) (eOp addD (eVar 3) (eC (.int 1)))))
theorem many_outer (A B : SV) : ∀ (ms : List Nat) (f s : Nat) (x m : SV), s + ms.sum ≤ 40 → f ≤ 2 ^ (6 * s) → ∃ y z, loopD (gNm 4) mnB (ms.map nI) [A, B, .dat (nI f), x, m] = some (.nx, [A, B, .dat (nI (f * pf ms)), y, z])
  | [], f, s, x, m, _, _ => ⟨x, m, by rw [show f * pf [] = f from Nat.mul_one f]; rfl⟩
  | n :: ms, f, s, x, m, hs, hf => by
    simp only [List.sum_cons] at hs
    obtain ⟨y, e1⟩ := many_loop2 A B f n s (by omega) hf (.dat (nI n)) x
    obtain ⟨y2, z2, e2⟩ := many_outer A B ms (f * fct n) (s + n) y (.dat (nI n)) (by omega) (by
      refine Nat.le_trans (Nat.mul_le_mul hf (fct_le n (by omega))) ?_
      rw [← Nat.pow_add, Nat.mul_add]
      exact Nat.le_refl _)
    rw [show f * fct n * pf ms = f * pf (n :: ms) from Nat.mul_assoc _ _ _] at e2
    exact ⟨y2, z2, (loop_cons (lp_run (ρ1 := [A, B, .dat (nI f), x, .dat (nI n)]) rfl (sFor_run (rg_run (var_run (d := nI n) rfl) (by omega)) e1))).trans e2⟩
theorem pf_le : ∀ l : List Nat, l.sum ≤ 40 → pf l ≤ 2 ^ (6 * l.sum)
  | [], _ => Nat.le_refl _
  | n :: ms, h => by
    simp only [List.sum_cons] at h ⊢
    rw [Nat.mul_add, Nat.pow_add]
    exact Nat.mul_le_mul (fct_le n (by omega)) (pf_le ms (by omega))
theorem r_law_many (lot : List Nat) (hs : lot.sum ≤ 40) : ∃ a2, g__law_many [.dat (tn lot)] = some (.dat (nI (M lot)), a2) := by
  have hsum : eCall sumD [.ex (eVar 0)] [.dat (tn lot), .dat (nI 1), .dat (nI 1), .un, .un] = some (.dat (nI lot.sum), [.dat (tn lot), .dat (nI 1), .dat (nI 1), .un, .un]) := by
    refine call1_run (var_run (d := tn lot) rfl) ?_
    show sumD [.tuple (lot.map nI)] = _
    simp only [sumD, ints_map, Option.map_some, sum_cast]
  obtain ⟨y, e1⟩ := many_loop1 (.dat (tn lot)) (.dat (nI 1)) .un lot.sum hs .un
  obtain ⟨y2, z2, e2⟩ := many_outer (.dat (tn lot)) (.dat (nI (fct lot.sum))) lot 1 0 y .un (by omega) (by decide)
  rw [Nat.one_mul] at e2
  have c0 : sAsg (eTup [.ex (eC (.int 1)), .ex (eC (.int 1))]) (gTupD 2 (gsCons (gNm 1) (gsCons (gNm 2) (gsNil)))) [.dat (tn lot), .un, .un, .un, .un] = some (.nx, [.dat (tn lot), .dat (nI 1), .dat (nI 1), .un, .un]) := asg_run (tup_run (runD_consD (d := nI 1) rfl (runD_consD (d := nI 1) rfl runD_nil)) (fits (by simp))) rfl
  have hpf := pf_le lot hs
  have hb : (2 : Nat) ^ (6 * lot.sum) ≤ 2 ^ 240 := Nat.pow_le_pow_right (by decide) (by omega)
  have hd : divD (nI (fct lot.sum)) (nI (pf lot)) = some (.dat (nI (M lot))) := by
    have h0 := pf_pos lot
    rw [ap_div, if_pos (div_of 241 (by omega) (by rw [natAbs_nat]; exact Nat.lt_of_le_of_lt (Nat.le_trans hpf hb) (by decide)))]
    show some (RV.dat (.int (((fct lot.sum : Nat) : Int) / ((pf lot : Nat) : Int)))) = some (RV.dat (.int ((M lot : Nat) : Int)))
    rw [← Int.natCast_ediv, M_div]
  have body : b__law_many [.dat (tn lot), .un, .un, .un, .un] = some (.rt (.dat (nI (M lot))), [.dat (tn lot), .dat (nI (fct lot.sum)), .dat (nI (pf lot)), y2, z2]) :=
    sSeq_run c0 (sSeq_run (sFor_run (rg_run hsum (by omega)) e1) (sSeq_run (sFor_run (it := iAny (eVar 0)) (ds := lot.map nI) (ρ1 := [.dat (tn lot), .dat (nI (fct lot.sum)), .dat (nI 1), y, .un]) rfl e2) (sRet_run (int_run (op_runD (var_run (d := nI (fct lot.sum)) rfl) (var_run (d := nI (pf lot)) rfl) hd)))))
  exact ⟨_, fn_rt (ρ := [.dat (tn lot), .dat (nI (fct lot.sum)), .dat (nI (pf lot)), y2, z2]) rfl rfl body rfl⟩
end K80
namespace K80
open PySem DL
/-! ### the next order -/
/-- how a descending list parts at a: what is greater, what is not -/
theorem part_desc (a : Nat) : ∀ (S : List Nat), S.Pairwise (· ≥ ·) → (∃ x ∈ S, a < x) → ∃ S1 b S2, S = S1 ++ b :: S2 ∧ (∀ x ∈ S1, a < x) ∧ a < b ∧ ∀ x ∈ S2, x ≤ a
  | [], _, ⟨x, hx, _⟩ => by cases hx
  | s :: S, h, hx => by
    have hp := List.pairwise_cons.mp h
    by_cases hex : ∃ x ∈ S, a < x
    · obtain ⟨S1, b, S2, e, h1, h2, h3⟩ := part_desc a S hp.2 hex
      obtain ⟨x, hx1, hx2⟩ := hex
      have := hp.1 x hx1
      refine ⟨s :: S1, b, S2, by rw [e]; rfl, fun y hy => ?_, h2, h3⟩
      rcases List.mem_cons.mp hy with rfl | hy
      · omega
      · exact h1 y hy
    · obtain ⟨x, hx1, hx2⟩ := hx
      rcases List.mem_cons.mp hx1 with rfl | hx1
      · exact ⟨[], x, S, rfl, by simp, hx2, fun y hy => Nat.le_of_not_lt fun q => hex ⟨y, hy, q⟩⟩
      · exact absurd ⟨x, hx1, hx2⟩ hex
abbrev nxL : ED := eLc [4] (iRg2 [.ex (eOp addD (eVar 1) (eC (.int 1))), .ex (eCall lenD [.ex (eVar 0)])]) (gNm 4) (tV (eOp gtD (eIxG 0 (eVar 4)) (eIxG 0 (eVar 1)))) (eVar 4)
abbrev nxS : SD := sSeq (sSet 2 nxL)
  (sSeq (sSet 3 (eCall listD [.ex (eVar 0)]))
  (sSeq (sAsg (eTup [.ex (eIxG 3 (eIxG 2 (eNeg (eC (.int 1))))), .ex (eIxG 3 (eVar 1))]) (gTupD 2 (gsCons (gSetIx 3 (eVar 1)) (gsCons (gSetIx 3 (eIxG 2 (eNeg (eC (.int 1))))) (gsNil)))))
  (sRet (eCall tupleD [.ex (eOp addD (eSl (eVar 3) pNo (pSome (eOp addD (eVar 1) (eC (.int 1))))) (eRev (eSl (eVar 3) (pSome (eOp addD (eVar 1) (eC (.int 1)))) pNo)))]))))
abbrev nxB : SD := sIf (tV (eOp ltD (eIxG 0 (eVar 1)) (eIxG 0 (eOp addD (eVar 1) (eC (.int 1)))))) nxS (sNx)
theorem get_mid (pre : List Nat) (a : Nat) (S : List Nat) : (pre ++ a :: S)[pre.length]? = some a := by
  rw [List.getElem?_append_right (Nat.le_refl _)]; simp
theorem at_nat (row : List Nat) (i v : Nat) (h : row[i]? = some v) : L2.atI (row.map nI) (i : Int) = some (nI v) := by
  rw [atI_nat, List.getElem?_map, h]; rfl
theorem rg2_run {f g : ED} {ρ ρ1 ρ2 : DE} {a b : Nat} (h : f ρ = some (.dat (nI a), ρ1)) (h2 : g ρ1 = some (.dat (nI b), ρ2)) (ha : a ≤ 10000) (hb : b ≤ 10000) : iRg2 [.ex f, .ex g] ρ = some ((List.range (b - a)).map (fun i => nI (a + i)), ρ2) := by
  unfold iRg2
  rw [runD_consD h (runD_consD h2 runD_nil)]
  simp only
  rw [small_nat ha, small_nat hb]
  rw [if_pos (by rfl), show (((b : Nat) : Int) - ((a : Nat) : Int)).toNat = b - a by omega]
  unfold rgD
  have e : (List.range (b - a)).map (fun (i : Nat) => PyData.int ((a : Int) + (i : Int))) = (List.range (b - a)).map (fun i => nI (a + i)) := by
    apply List.map_congr_left
    intro i _
    rw [show ((a : Int) + (i : Int)) = ((a + i : Nat) : Int) by omega]
  rw [e]
theorem nx_some (pre S1 S2 : List Nat) (a b : Nat) (h1 : ∀ x ∈ S1, a < x) (hab : a < b) (h2 : ∀ x ∈ S2, x ≤ a) (hz : (pre ++ a :: (S1 ++ b :: S2)).length ≤ 1000) (C D : SV) :
    nxL [.dat (tn (pre ++ a :: (S1 ++ b :: S2))), .dat (nI pre.length), C, D, .un] = some (.new ((List.range (S1.length + 1)).map fun i => nI (pre.length + 1 + i)), [.dat (tn (pre ++ a :: (S1 ++ b :: S2))), .dat (nI pre.length), C, D, .un]) := by
  generalize hrow : pre ++ a :: (S1 ++ b :: S2) = row at hz
  have hL : row.length = pre.length + 1 + (S1.length + 1 + S2.length) := by rw [← hrow]; simp; omega
  have hlen : eCall lenD [.ex (eVar 0)] [.dat (tn row), .dat (nI pre.length), C, D, .un] = some (.dat (nI row.length), [.dat (tn row), .dat (nI pre.length), C, D, .un]) := by
    refine call1_run (var_run (d := tn row) rfl) ?_
    show some (RV.dat (.int ((row.map nI).length : Nat))) = _
    rw [List.length_map]
  have it := rg2_run (f := eOp addD (eVar 1) (eC (.int 1))) (ρ := [.dat (tn row), .dat (nI pre.length), C, D, .un]) (a := pre.length + 1) (op_runD rfl rfl (add_nat pre.length 1)) hlen (by omega) (by omega)
  have hn : row.length - (pre.length + 1) = (S1.length + 1) + S2.length := by omega
  rw [hn] at it
  have ga : row[pre.length]? = some a := by rw [← hrow]; exact get_mid pre a _
  have gi : ∀ i, row[pre.length + 1 + i]? = (S1 ++ b :: S2)[i]? := fun i => by
    rw [← hrow, List.getElem?_append_right (by omega), show pre.length + 1 + i - pre.length = i + 1 by omega]
    simp
  have lc := lc_fun (own := [4]) (a := gNm 4) (c := tV (eOp gtD (eIxG 0 (eVar 4)) (eIxG 0 (eVar 1)))) (f := eVar 4) ((List.range (S1.length + 1 + S2.length)).map (fun i => nI (pre.length + 1 + i))) [] (fun _ => [.dat (tn row), .dat (nI pre.length), C, D, .un]) (fun i => if i < S1.length + 1 then some (nI (pre.length + 1 + i)) else none) (fits (by simp; omega)) fun i d hd => by
    rw [List.getElem?_map] at hd
    by_cases hi : i < S1.length + 1 + S2.length
    · have hd : nI (pre.length + 1 + i) = d := by simpa [hi] using hd
      subst hd
      obtain ⟨v, hv⟩ : ∃ v, (S1 ++ b :: S2)[i]? = some v := ⟨_, List.getElem?_eq_getElem (by simp; omega)⟩
      have e1 : eIxG 0 (eVar 4) [.dat (tn row), .dat (nI pre.length), C, D, .dat (nI (pre.length + 1 + i))] = some (.dat (nI v), [.dat (tn row), .dat (nI pre.length), C, D, .dat (nI (pre.length + 1 + i))]) := ix_run rfl rfl (.inl rfl) (at_nat row _ v (by rw [gi]; exact hv))
      have e2 : eIxG 0 (eVar 1) [.dat (tn row), .dat (nI pre.length), C, D, .dat (nI (pre.length + 1 + i))] = some (.dat (nI a), [.dat (tn row), .dat (nI pre.length), C, D, .dat (nI (pre.length + 1 + i))]) := ix_run rfl rfl (.inl rfl) (at_nat row _ a ga)
      by_cases h : i < S1.length + 1
      · have hav : a < v := by
          by_cases hs : i < S1.length
          · rw [List.getElem?_append_left hs] at hv
            exact h1 v (List.mem_of_getElem? hv)
          · have : i = S1.length := by omega
            subst this
            rw [get_mid] at hv
            cases hv
            exact hab
        have g0 : gtD (nI v) (nI a) = some (.dat (.bool true)) := by
          rw [ap_gt]
          have : ((a : Nat) : Int) < ((v : Nat) : Int) := by omega
          rw [decide_eq_true this]
        rw [if_pos h]
        exact lcs_run (r := .dat (nI (pre.length + 1 + i))) (ρ1 := [.dat (tn row), .dat (nI pre.length), C, D, .dat (nI (pre.length + 1 + i))]) rfl (tV_run (op_runD e1 e2 g0)) rfl rfl
      · have hav : v ≤ a := by
          rw [List.getElem?_append_right (by omega)] at hv
          have : i - S1.length = (i - S1.length - 1) + 1 := by omega
          rw [this, List.getElem?_cons_succ] at hv
          exact h2 v (List.mem_of_getElem? hv)
        have g0 : gtD (nI v) (nI a) = some (.dat (.bool false)) := by
          rw [ap_gt]
          have : ¬ ((a : Nat) : Int) < ((v : Nat) : Int) := by omega
          rw [decide_eq_false this]
        rw [if_neg h]
        exact lcs_no (ρ1 := [.dat (tn row), .dat (nI pre.length), C, D, .dat (nI (pre.length + 1 + i))]) rfl (tV_run (op_runD e1 e2 g0)) rfl
    · rw [List.getElem?_eq_none (by simp; omega)] at hd; cases hd
  rw [List.length_map, List.length_range, List.nil_append] at lc
  have e3 : ∀ (m n : Nat), (List.range (m + n)).filterMap (fun i => if i < m then some (nI (pre.length + 1 + i)) else none) = (List.range m).map fun i => nI (pre.length + 1 + i) := fun m n => by
    induction n with
    | zero =>
      rw [Nat.add_zero]
      have key : ∀ l : List Nat, (∀ i ∈ l, i < m) → l.filterMap (fun i => if i < m then some (nI (pre.length + 1 + i)) else none) = l.map fun i => nI (pre.length + 1 + i) := fun l => by
        induction l with
        | nil => intro _; rfl
        | cons x l ih =>
          intro h
          rw [List.filterMap_cons, if_pos (h x (by simp)), List.map_cons, ih fun i hi => h i (by simp [hi])]
      exact key _ fun i hi => by simpa using hi
    | succ n ih =>
      rw [← Nat.add_assoc, List.range_succ, List.filterMap_append, ih]
      simp
  rw [e3] at lc
  exact eLc_run (own := [4]) it rfl lc
theorem set_mid (pre : List Nat) (a v : Nat) (S : List Nat) : (pre ++ a :: S).set pre.length v = pre ++ v :: S := by
  rw [List.set_append_right _ _ (Nat.le_refl _)]; simp
theorem gs_run {a : GD} {b : GsD} {d : PyData} {ds : List PyData} {ρ ρ1 : DE} {x : Option DE} (h1 : a d ρ = some ρ1) (h2 : b ds ρ1 = x) : gsCons a b (d :: ds) ρ = x := by
  unfold gsCons
  simp only
  rw [h1]
  exact h2
theorem gtup_run {n : Nat} {b : GsD} {ds : List PyData} {ρ : DE} {x : Option DE} (hn : ds.length = n) (h : b ds ρ = x) : gTupD n b (.tuple ds) ρ = x := by
  unfold gTupD
  simp only
  rw [if_pos hn]
  exact h
theorem nx_swap (pre S1 S2 : List Nat) (a b : Nat) (hz : (pre ++ a :: (S1 ++ b :: S2)).length ≤ 1000) (A : SV) :
    sAsg (eTup [.ex (eIxG 3 (eIxG 2 (eNeg (eC (.int 1))))), .ex (eIxG 3 (eVar 1))]) (gTupD 2 (gsCons (gSetIx 3 (eVar 1)) (gsCons (gSetIx 3 (eIxG 2 (eNeg (eC (.int 1))))) (gsNil)))) [A, .dat (nI pre.length), .gro ((List.range (S1.length + 1)).map fun i => nI (pre.length + 1 + i)), .gro ((pre ++ a :: (S1 ++ b :: S2)).map nI), .un] =
      some (.nx, [A, .dat (nI pre.length), .gro ((List.range (S1.length + 1)).map fun i => nI (pre.length + 1 + i)), .gro ((pre ++ b :: (S1 ++ a :: S2)).map nI), .un]) := by
  have last : ∀ X : SV, eIxG 2 (eNeg (eC (.int 1))) [A, .dat (nI pre.length), .gro ((List.range (S1.length + 1)).map fun i => nI (pre.length + 1 + i)), X, .un] = some (.dat (nI (pre.length + 1 + S1.length)), [A, .dat (nI pre.length), .gro ((List.range (S1.length + 1)).map fun i => nI (pre.length + 1 + i)), X, .un]) := fun X => by
    refine ix_run (j := -1) rfl rfl (.inr (.inr rfl)) ?_
    rw [atI_last, List.range_succ]
    simp
  have gb : (pre ++ a :: (S1 ++ b :: S2))[pre.length + 1 + S1.length]? = some b := by
    rw [List.getElem?_append_right (by omega), show pre.length + 1 + S1.length - pre.length = S1.length + 1 by omega, List.getElem?_cons_succ]
    exact get_mid S1 b S2
  have e1 : eIxG 3 (eIxG 2 (eNeg (eC (.int 1)))) [A, .dat (nI pre.length), .gro ((List.range (S1.length + 1)).map fun i => nI (pre.length + 1 + i)), .gro ((pre ++ a :: (S1 ++ b :: S2)).map nI), .un] = some (.dat (nI b), [A, .dat (nI pre.length), .gro ((List.range (S1.length + 1)).map fun i => nI (pre.length + 1 + i)), .gro ((pre ++ a :: (S1 ++ b :: S2)).map nI), .un]) := ix_run rfl (last _) (.inr (.inr rfl)) (at_nat _ _ b gb)
  have e2 : eIxG 3 (eVar 1) [A, .dat (nI pre.length), .gro ((List.range (S1.length + 1)).map fun i => nI (pre.length + 1 + i)), .gro ((pre ++ a :: (S1 ++ b :: S2)).map nI), .un] = some (.dat (nI a), [A, .dat (nI pre.length), .gro ((List.range (S1.length + 1)).map fun i => nI (pre.length + 1 + i)), .gro ((pre ++ a :: (S1 ++ b :: S2)).map nI), .un]) := ix_run rfl rfl (.inr (.inr rfl)) (at_nat _ _ a (get_mid pre a _))
  have e3 : ∀ (ds es : List PyData) (g : ED) (i n : Nat) (d : PyData) (X Y Z W : SV), g [X, Y, Z, .gro ds, W] = some (.dat (nI n), [X, Y, Z, .gro ds, W]) → n < ds.length → ds.set n d = es → gSetIx 3 g d [X, Y, Z, .gro ds, W] = some [X, Y, Z, .gro es, W] := fun ds es g i n d X Y Z W h1 h2 h3 => by
    have hs : isSeq ([X, Y, Z, .gro ds, W] : DE)[3]? = true := rfl
    unfold gSetIx
    rw [if_pos hs, h1]
    show (match L2.ixN ds.length ((n : Nat) : Int) with | some m => some (([X, Y, Z, .gro ds, W] : DE).set 3 (.gro (ds.set m d))) | none => none) = _
    rw [ixN_nat h2, ← h3]
    rfl
  have t := tup_run (runD_consD e1 (runD_consD e2 runD_nil)) (fits (by simp))
  refine asg_run t ?_
  have f1 := e3 ((pre ++ a :: (S1 ++ b :: S2)).map nI) ((pre ++ b :: (S1 ++ b :: S2)).map nI) (eVar 1) 3 pre.length (nI b) A (.dat (nI pre.length)) (.gro ((List.range (S1.length + 1)).map fun i => nI (pre.length + 1 + i))) .un rfl (by simp) (by rw [← List.map_set, set_mid])
  have f2 := e3 ((pre ++ b :: (S1 ++ b :: S2)).map nI) ((pre ++ b :: (S1 ++ a :: S2)).map nI) (eIxG 2 (eNeg (eC (.int 1)))) 3 (pre.length + 1 + S1.length) (nI a) A (.dat (nI pre.length)) (.gro ((List.range (S1.length + 1)).map fun i => nI (pre.length + 1 + i))) .un (last _) (by simp; omega) (by
    rw [← List.map_set]
    congr 1
    rw [List.set_append_right _ _ (by omega), show pre.length + 1 + S1.length - pre.length = S1.length + 1 by omega, List.set_cons_succ, set_mid])
  exact gtup_run rfl (gs_run f1 (gs_run f2 rfl))
theorem nx_found (pre S1 S2 : List Nat) (a b : Nat) (h1 : ∀ x ∈ S1, a < x) (hab : a < b) (h2 : ∀ x ∈ S2, x ≤ a) (hz : (pre ++ a :: (S1 ++ b :: S2)).length ≤ 1000) :
    ∃ C D, nxS [.dat (tn (pre ++ a :: (S1 ++ b :: S2))), .dat (nI pre.length), .un, .un, .un] = some (.rt (.dat (tn (pre ++ b :: (S1 ++ a :: S2).reverse))), [.dat (tn (pre ++ a :: (S1 ++ b :: S2))), .dat (nI pre.length), C, D, .un]) := by
  have s1 : sSet 2 nxL [.dat (tn (pre ++ a :: (S1 ++ b :: S2))), .dat (nI pre.length), .un, .un, .un] = some (.nx, [.dat (tn (pre ++ a :: (S1 ++ b :: S2))), .dat (nI pre.length), .gro ((List.range (S1.length + 1)).map fun i => nI (pre.length + 1 + i)), .un, .un]) := sSet_to (nx_some pre S1 S2 a b h1 hab h2 hz .un .un)
  have s2 : sSet 3 (eCall listD [.ex (eVar 0)]) [.dat (tn (pre ++ a :: (S1 ++ b :: S2))), .dat (nI pre.length), .gro ((List.range (S1.length + 1)).map fun i => nI (pre.length + 1 + i)), .un, .un] = some (.nx, [.dat (tn (pre ++ a :: (S1 ++ b :: S2))), .dat (nI pre.length), .gro ((List.range (S1.length + 1)).map fun i => nI (pre.length + 1 + i)), .gro ((pre ++ a :: (S1 ++ b :: S2)).map nI), .un]) := sSet_to (call1_run (var_run (d := tn (pre ++ a :: (S1 ++ b :: S2))) rfl) rfl)
  have s3 := nx_swap pre S1 S2 a b hz (.dat (tn (pre ++ a :: (S1 ++ b :: S2))))
  have hlen : (pre ++ b :: (S1 ++ a :: S2)).length = (pre ++ a :: (S1 ++ b :: S2)).length := by simp
  generalize hG : SV.gro ((List.range (S1.length + 1)).map fun i => nI (pre.length + 1 + i)) = G at s1 s2 s3
  generalize hR : pre ++ a :: (S1 ++ b :: S2) = row at s1 s2 s3 hz hlen ⊢
  have p1 : ∀ Z : SV, eOp addD (eVar 1) (eC (.int 1)) [.dat (tn row), .dat (nI pre.length), G, Z, .un] = some (.dat (nI (pre.length + 1)), [.dat (tn row), .dat (nI pre.length), G, Z, .un]) := fun Z => op_runD rfl rfl (add_nat pre.length 1)
  have q1 : ∀ Z : SV, pSome (eOp addD (eVar 1) (eC (.int 1))) [.dat (tn row), .dat (nI pre.length), G, Z, .un] = some (some ((pre.length + 1 : Nat) : Int), [.dat (tn row), .dat (nI pre.length), G, Z, .un]) := fun Z => by
    unfold pSome
    rw [p1 Z]
  have l1 : eSl (eVar 3) pNo (pSome (eOp addD (eVar 1) (eC (.int 1)))) [.dat (tn row), .dat (nI pre.length), G, .gro ((pre ++ b :: (S1 ++ a :: S2)).map nI), .un] = some (.new ((pre ++ [b]).map nI), [.dat (tn row), .dat (nI pre.length), G, .dat (.list ((pre ++ b :: (S1 ++ a :: S2)).map nI)), .un]) := by
    have e0 : eVar 3 [.dat (tn row), .dat (nI pre.length), G, .gro ((pre ++ b :: (S1 ++ a :: S2)).map nI), .un] = some (.dat (.list ((pre ++ b :: (S1 ++ a :: S2)).map nI)), [.dat (tn row), .dat (nI pre.length), G, .dat (.list ((pre ++ b :: (S1 ++ a :: S2)).map nI)), .un]) := rfl
    unfold eSl
    rw [e0]
    simp only [pNo, q1, slD, RV.d]
    rw [cut_take _ (pre.length + 1) (by simp)]
    rw [← List.map_take, show (pre ++ b :: (S1 ++ a :: S2)).take (pre.length + 1) = pre ++ [b] by rw [List.take_length_add_append]; simp]
  have l2 : eSl (eVar 3) (pSome (eOp addD (eVar 1) (eC (.int 1)))) pNo [.dat (tn row), .dat (nI pre.length), G, .dat (.list ((pre ++ b :: (S1 ++ a :: S2)).map nI)), .un] = some (.new ((S1 ++ a :: S2).map nI), [.dat (tn row), .dat (nI pre.length), G, .dat (.list ((pre ++ b :: (S1 ++ a :: S2)).map nI)), .un]) := by
    unfold eSl
    rw [var_run (d := .list ((pre ++ b :: (S1 ++ a :: S2)).map nI)) rfl]
    simp only [pNo, q1, slD, RV.d]
    rw [cut_drop _ (pre.length + 1) (by simp)]
    rw [← List.map_drop, show (pre ++ b :: (S1 ++ a :: S2)).drop (pre.length + 1) = S1 ++ a :: S2 by rw [List.drop_length_add_append]; simp]
  have l3 : eRev (eSl (eVar 3) (pSome (eOp addD (eVar 1) (eC (.int 1)))) pNo) [.dat (tn row), .dat (nI pre.length), G, .dat (.list ((pre ++ b :: (S1 ++ a :: S2)).map nI)), .un] = some (.new ((S1 ++ a :: S2).reverse.map nI), [.dat (tn row), .dat (nI pre.length), G, .dat (.list ((pre ++ b :: (S1 ++ a :: S2)).map nI)), .un]) := by
    unfold eRev
    rw [l2]
    simp only [RV.d]
    rw [List.map_reverse]
  have hadd : addD (RV.new ((pre ++ [b]).map nI)).d (RV.new ((S1 ++ a :: S2).reverse.map nI)).d = some (.new ((pre ++ b :: (S1 ++ a :: S2).reverse).map nI)) := by
    show (if ((pre ++ [b]).map nI).length + ((S1 ++ a :: S2).reverse.map nI).length ≤ sizeLine then some (RV.new ((pre ++ [b]).map nI ++ (S1 ++ a :: S2).reverse.map nI)) else none) = _
    rw [if_pos (fits (by rw [← hR] at hz; simp at hz ⊢; omega)), ← List.map_append, List.append_assoc, List.singleton_append]
  have s4 : sRet (eCall tupleD [.ex (eOp addD (eSl (eVar 3) pNo (pSome (eOp addD (eVar 1) (eC (.int 1))))) (eRev (eSl (eVar 3) (pSome (eOp addD (eVar 1) (eC (.int 1)))) pNo)))]) [.dat (tn row), .dat (nI pre.length), G, .gro ((pre ++ b :: (S1 ++ a :: S2)).map nI), .un] = some (.rt (.dat (tn (pre ++ b :: (S1 ++ a :: S2).reverse))), [.dat (tn row), .dat (nI pre.length), G, .dat (.list ((pre ++ b :: (S1 ++ a :: S2)).map nI)), .un]) :=
    sRet_run (call1_run (op_run l1 l3 hadd) rfl)
  exact ⟨_, _, sSeq_run s1 (sSeq_run s2 (sSeq_run s3 s4))⟩
/-- the loop: m values are to come, the readings from m on descend -/
def dn (m : Nat) : List PyData := (List.range m).map fun i => nI (m - 1 - i)
theorem dn_succ (m : Nat) : dn (m + 1) = nI m :: dn m := by
  unfold dn
  rw [List.range_succ_eq_map, List.map_cons, List.map_map]
  congr 1
  apply List.map_congr_left
  intro i _
  show nI (m + 1 - 1 - (i + 1)) = nI (m - 1 - i)
  rw [show m + 1 - 1 - (i + 1) = m - 1 - i by omega]
theorem nx_loop (row : List Nat) (hz : row.length ≤ 1000) : ∀ (m : Nat) (x : SV), m + 1 ≤ row.length → (row.drop m).Pairwise (· ≥ ·) →
    (row.Pairwise (· ≥ ·) ∧ ∃ y, loopD (gNm 1) nxB (dn m) [.dat (tn row), x, .un, .un, .un] = some (.nx, [.dat (tn row), y, .un, .un, .un])) ∨
    (∃ pre S1 S2 a b, row = pre ++ a :: (S1 ++ b :: S2) ∧ (S1 ++ b :: S2).Pairwise (· ≥ ·) ∧ a < b ∧ (∀ y ∈ S2, y ≤ a) ∧
      ∃ ρ', loopD (gNm 1) nxB (dn m) [.dat (tn row), x, .un, .un, .un] = some (.rt (.dat (tn (pre ++ b :: (S1 ++ a :: S2).reverse))), .dat (tn row) :: ρ'))
  | 0, x, _, h => .inl ⟨by simpa using h, x, rfl⟩
  | m + 1, x, hm, h => by
    obtain ⟨a, ha⟩ : ∃ a, row[m]? = some a := ⟨_, List.getElem?_eq_getElem (by omega)⟩
    obtain ⟨c, hc⟩ : ∃ c, row[m + 1]? = some c := ⟨_, List.getElem?_eq_getElem (by omega)⟩
    have hdrop : row.drop m = a :: row.drop (m + 1) := by
      rw [List.drop_eq_getElem_cons (by omega)]
      congr 1
      have := List.getElem?_eq_getElem (show m < row.length by omega)
      rw [ha] at this
      exact (Option.some.inj this).symm
    have hdrop2 : row.drop (m + 1) = c :: row.drop (m + 2) := by
      rw [List.drop_eq_getElem_cons (by omega)]
      congr 1
      have := List.getElem?_eq_getElem (show m + 1 < row.length by omega)
      rw [hc] at this
      exact (Option.some.inj this).symm
    rw [dn_succ]
    have e1 : eIxG 0 (eVar 1) [.dat (tn row), .dat (nI m), .un, .un, .un] = some (.dat (nI a), [.dat (tn row), .dat (nI m), .un, .un, .un]) := ix_run rfl rfl (.inl rfl) (at_nat row m a ha)
    have e2 : eIxG 0 (eOp addD (eVar 1) (eC (.int 1))) [.dat (tn row), .dat (nI m), .un, .un, .un] = some (.dat (nI c), [.dat (tn row), .dat (nI m), .un, .un, .un]) := ix_run rfl (op_runD rfl rfl (add_nat m 1)) (.inl rfl) (at_nat row (m + 1) c hc)
    by_cases hac : a < c
    · right
      have g0 : ltD (nI a) (nI c) = some (.dat (.bool true)) := by
        rw [ap_lt]
        have : ((a : Nat) : Int) < ((c : Nat) : Int) := by omega
        rw [decide_eq_true this]
      obtain ⟨S1, b, S2, eS, p1, p2, p3⟩ := part_desc a (row.drop (m + 1)) h ⟨c, by rw [hdrop2]; simp, hac⟩
      have erow : row = row.take m ++ a :: (S1 ++ b :: S2) := by
        rw [← eS, ← hdrop, List.take_append_drop]
      have hpl : (row.take m).length = m := by simp; omega
      obtain ⟨C, D, q⟩ := nx_found (row.take m) S1 S2 a b p1 p2 p3 (by rw [← erow]; exact hz)
      rw [← erow, hpl] at q
      refine ⟨row.take m, S1, S2, a, b, erow, by rw [← eS]; exact h, p2, p3, _, loop_rt (ρ' := [.dat (tn row), .dat (nI m), C, D, .un]) (lp_run (ρ1 := [.dat (tn row), .dat (nI m), .un, .un, .un]) rfl (sIf_t (tV_run (op_runD e1 e2 g0)) q))⟩
    · have g0 : ltD (nI a) (nI c) = some (.dat (.bool false)) := by
        rw [ap_lt]
        have : ¬ ((a : Nat) : Int) < ((c : Nat) : Int) := by omega
        rw [decide_eq_false this]
      have hd : (row.drop m).Pairwise (· ≥ ·) := by
        rw [hdrop]
        refine List.pairwise_cons.mpr ⟨fun y hy => ?_, h⟩
        rw [hdrop2] at hy h
        rcases List.mem_cons.mp hy with rfl | hy
        · omega
        · have := (List.pairwise_cons.mp h).1 y hy
          omega
      have st : lpStep (gNm 1) nxB (nI m) [.dat (tn row), x, .un, .un, .un] = some (.nx, [.dat (tn row), .dat (nI m), .un, .un, .un]) := lp_run (ρ1 := [.dat (tn row), .dat (nI m), .un, .un, .un]) rfl (sIf_f (tV_run (op_runD e1 e2 g0)) rfl)
      rcases nx_loop row hz m (.dat (nI m)) (by omega) hd with ⟨k1, y, k2⟩ | ⟨pre, S1, S2, a2, b2, k1, k2, k3, k4, ρ', k5⟩
      · exact .inl ⟨k1, y, (loop_cons st).trans k2⟩
      · exact .inr ⟨pre, S1, S2, a2, b2, k1, k2, k3, k4, ρ', (loop_cons st).trans k5⟩
theorem dnD_dn (n : Nat) : dnD (((n + 2 : Nat) : Int) - 2) (n + 1) = dn (n + 1) := by
  unfold dnD dn
  apply List.map_congr_left
  intro i hi
  have hi : i < n + 1 := by simpa using hi
  rw [show ((n + 2 : Nat) : Int) - 2 - (i : Int) = ((n + 1 - 1 - i : Nat) : Int) by omega]
theorem nx_range (row : List Nat) (hz : row.length ≤ 1000) : iRgDn [.ex (eOp subD (eCall lenD [.ex (eVar 0)]) (eC (.int 2))), .ex (eNeg (eC (.int 1))), .ex (eNeg (eC (.int 1)))] [.dat (tn row), .un, .un, .un, .un] = some (dn (row.length - 1), [.dat (tn row), .un, .un, .un, .un]) := by
  have hlen : eCall lenD [.ex (eVar 0)] [.dat (tn row), .un, .un, .un, .un] = some (.dat (nI row.length), [.dat (tn row), .un, .un, .un, .un]) := by
    refine call1_run (var_run (d := tn row) rfl) ?_
    show some (RV.dat (.int ((row.map nI).length : Nat))) = _
    rw [List.length_map]
  have e : runD [.ex (eOp subD (eCall lenD [.ex (eVar 0)]) (eC (.int 2))), .ex (eNeg (eC (.int 1))), .ex (eNeg (eC (.int 1)))] [.dat (tn row), .un, .un, .un, .un] = some ([.int ((row.length : Int) - 2), .int (-1), .int (-1)], [.dat (tn row), .un, .un, .un, .un]) :=
    runD_consD (op_runD hlen rfl (ap_sub _ _)) (runD_consD rfl (runD_consD rfl runD_nil))
  unfold iRgDn
  rw [e]
  simp only
  have h1 : small62 ((row.length : Int) - 2) = true := by
    unfold small62
    simp only [Bool.and_eq_true, decide_eq_true_eq]
    omega
  have h2 : small62 (-1) = true := by decide
  rw [h1, h2, if_pos (by rfl)]
  match hl : row.length with
  | 0 => rfl
  | 1 => rfl
  | n + 2 =>
    have e2 : (((n + 2 : Nat) : Int) - 2 - -1).toNat = n + 1 := by omega
    rw [e2, dnD_dn]
    rfl
theorem r_next (row : List Nat) (hz : row.length ≤ 1000) :
    (row.Pairwise (· ≥ ·) ∧ ∃ a2, g__law_next [.dat (tn row)] = some (.dat .none, a2)) ∨
    (∃ pre S1 S2 a b, row = pre ++ a :: (S1 ++ b :: S2) ∧ (S1 ++ b :: S2).Pairwise (· ≥ ·) ∧ a < b ∧ (∀ y ∈ S2, y ≤ a) ∧ ∃ a2, g__law_next [.dat (tn row)] = some (.dat (tn (pre ++ b :: (S1 ++ a :: S2).reverse)), a2)) := by
  by_cases h0 : row.length = 0
  · left
    have : row = [] := List.length_eq_zero_iff.mp h0
    subst this
    refine ⟨.nil, _, fn_rt (ρ := [.dat (tn []), .un, .un, .un, .un]) rfl rfl (sSeq_run (sFor_run (nx_range [] (by simp)) rfl) (sRet_run rfl)) rfl⟩
  · have hlast : (row.drop (row.length - 1)).Pairwise (· ≥ ·) := by
      rw [List.drop_eq_getElem_cons (by omega), show row.length - 1 + 1 = row.length by omega, List.drop_length]
      simp
    rcases nx_loop row hz (row.length - 1) .un (by omega) hlast with ⟨k1, y, k2⟩ | ⟨pre, S1, S2, a, b, k1, k2, k3, k4, ρ', k5⟩
    · left
      exact ⟨k1, _, fn_rt (ρ := [.dat (tn row), y, .un, .un, .un]) rfl rfl (sSeq_run (sFor_run (nx_range row hz) k2) (sRet_run rfl)) rfl⟩
    · right
      exact ⟨pre, S1, S2, a, b, k1, k2, k3, k4, _, fn_rt (ρ := .dat (tn row) :: ρ') rfl rfl (sSeq_rt (sFor_run (nx_range row hz) k5)) rfl⟩
end K80
namespace K80
open PySem DL
theorem M_small (k n : Nat) (lot : List Nat) (hk : lot.length = k) (hn : lot.sum = n) : M lot ≤ k ^ n := by
  rw [← bfs_len k n lot hk hn]
  exact bfs_len_le k lot n
theorem M_lt (lot : List Nat) (hl : lot.length ≤ 6) (hs : lot.sum ≤ 40) : M lot < 2 ^ 200 := by
  have h := M_small lot.length lot.sum lot rfl rfl
  have h1 : lot.length ^ lot.sum ≤ 6 ^ lot.sum := Nat.pow_le_pow_left hl _
  have h2 : 6 ^ lot.sum ≤ 6 ^ 40 := Nat.pow_le_pow_right (by decide) hs
  have h3 : (6 : Nat) ^ 40 < 2 ^ 200 := by decide
  omega
theorem rok_nat {m n : Nat} (h : n < 2 ^ 200) : rok m (nI n) := rok_int (by rw [natAbs_nat]; exact h)
theorem rok_tn {m : Nat} {l : List Nat} (hl : l.length ≤ 60) (h : ∀ x ∈ l, x < 2 ^ 200) : rok (m + 1) (tn l) := by
  refine .inr ⟨l.map nI, .inr rfl, by simpa using hl, fun x hx => ?_⟩
  obtain ⟨y, hy, rfl⟩ := List.mem_map.mp hx
  exact rok_nat (h y hy)
theorem rok_two {a b : PyData} (ha : rok 1 a) (hb : rok 1 b) : rok 2 (.list [a, b]) := by
  refine .inr ⟨[a, b], .inl rfl, by simp, fun x hx => ?_⟩
  simp only [List.mem_cons, List.not_mem_nil, or_false] at hx
  rcases hx with rfl | rfl
  · exact ha
  · exact hb
theorem low_lt {l : List Nat} {k : Nat} (hk : k ≤ 1000) (h : ∀ x ∈ l, x < k) : ∀ x ∈ l, x < 2 ^ 200 := fun x hx => by
  have := h x hx
  have h3 : (1000 : Nat) < 2 ^ 200 := by decide
  omega
/-! ### small -/
abbrev smB : SD := sSeq (sSet 5 (eCall intD [.ex (eDef g__law_take [.mv 0, .ex (eCall lenD [.ex (eVar 3)])])]))
  (sSeq (sIf (tV (eOp neD (eCall reprD [.ex (eDef g_order_at [.ex (eVar 2), .ex (eVar 5)])]) (eCall reprD [.ex (eIxG 3 (eVar 5))]))) (sRet (eC (.bool false))) (sNx))
  (sSeq (sSet 6 (eIxG 3 (eVar 5)))
  (sIf (tV (eOp neD (eCall reprD [.ex (eLst [.ex (eDef g_place_of [.ex (eVar 6), .ex (eVar 1)]), .ex (eDef g_lot_of [.ex (eVar 6), .ex (eVar 1)])])]) (eCall reprD [.ex (eLst [.ex (eVar 5), .ex (eVar 2)])]))) (sRet (eC (.bool false))) (sNx))))
theorem sm_step (n k : Nat) (p : List PyData) (lot : List Nat) (L : SV) (C D : SV) (hP : Pot n p) (hn : n ≤ 1000000) (hk : 2 ≤ k ∧ k ≤ 4) (hl : lot.length = k) (hs : lot.sum ≤ 7) :
    ∃ p' C' D', Pot (n + 1) p' ∧ smB [.gro p, .dat (nI k), .dat (tn lot), .dat (.list (rows (bfs k lot lot.sum))), L, C, D] = some (.nx, [.gro p', .dat (nI k), .dat (tn lot), .dat (.list (rows (bfs k lot lot.sum))), L, C', D']) := by
  have hblen := bfs_len k lot.sum lot hl rfl
  have hM := M_small k lot.sum lot hl rfl
  have h4 := pow4 hk.2 hs
  have hMp := M_pos lot
  obtain ⟨v, p', hv, hP', e⟩ := r_take n (M lot) p hP hn hMp (by omega)
  have hlenr : ∀ (P : SV) (C D : SV), eCall lenD [.ex (eVar 3)] [P, .dat (nI k), .dat (tn lot), .dat (.list (rows (bfs k lot lot.sum))), L, C, D] = some (.dat (nI (M lot)), [P, .dat (nI k), .dat (tn lot), .dat (.list (rows (bfs k lot lot.sum))), L, C, D]) := fun P C D => by
    refine call1_run (var_run (d := .list (rows (bfs k lot lot.sum))) rfl) ?_
    show some (RV.dat (.int ((rows (bfs k lot lot.sum)).length : Nat))) = _
    rw [List.length_map, hblen]
  have e0 : eDef g__law_take [.mv 0, .ex (eCall lenD [.ex (eVar 3)])] [.gro p, .dat (nI k), .dat (tn lot), .dat (.list (rows (bfs k lot lot.sum))), L, C, D] = some (.dat (nI v), [.gro p', .dat (nI k), .dat (tn lot), .dat (.list (rows (bfs k lot lot.sum))), L, C, D]) := mv_run (ρ1 := [.gro p, .dat (nI k), .dat (tn lot), .dat (.list (rows (bfs k lot lot.sum))), L, C, D]) rfl (runD_consD (hlenr _ _ _) runD_nil) rfl e
  obtain ⟨r, hr⟩ : ∃ r, (bfs k lot lot.sum)[v]? = some r := ⟨_, List.getElem?_eq_getElem (by rw [hblen]; exact hv)⟩
  obtain ⟨r1, r2, r3, r4⟩ := bfs_get k lot.sum lot hl rfl v r hr
  generalize hρ : (fun (C D : SV) => ([.gro p', .dat (nI k), .dat (tn lot), .dat (.list (rows (bfs k lot lot.sum))), L, C, D] : DE)) = ρ5
  have s1 : sSet 5 (eCall intD [.ex (eDef g__law_take [.mv 0, .ex (eCall lenD [.ex (eVar 3)])])]) [.gro p, .dat (nI k), .dat (tn lot), .dat (.list (rows (bfs k lot lot.sum))), L, C, D] = some (.nx, [.gro p', .dat (nI k), .dat (tn lot), .dat (.list (rows (bfs k lot lot.sum))), L, .dat (nI v), D]) := sSet_to (int_run e0)
  obtain ⟨a2, eo⟩ := r_order_at k ⟨hk.1, by omega⟩ r r1 (by omega)
  rw [r2, r3] at eo
  have x3 : ∀ D : SV, eIxG 3 (eVar 5) [.gro p', .dat (nI k), .dat (tn lot), .dat (.list (rows (bfs k lot lot.sum))), L, .dat (nI v), D] = some (.dat (tn r), [.gro p', .dat (nI k), .dat (tn lot), .dat (.list (rows (bfs k lot lot.sum))), L, .dat (nI v), D]) := fun D =>
    ix_run rfl rfl (.inr (.inl rfl)) (by rw [atI_nat, List.getElem?_map, hr]; rfl)
  have hr60 : r.length ≤ 60 := by omega
  have c1 := reprNe (f := eDef g_order_at [.ex (eVar 2), .ex (eVar 5)]) (g := eIxG 3 (eVar 5)) (ρ := [.gro p', .dat (nI k), .dat (tn lot), .dat (.list (rows (bfs k lot lot.sum))), L, .dat (nI v), D]) (r := .dat (tn r)) (s := .dat (tn r)) (def_run (runD_consD rfl (runD_consD rfl runD_nil)) eo) (x3 D) rfl (rok_tn hr60 (low_lt (by omega) r1))
  have s3 : sSet 6 (eIxG 3 (eVar 5)) [.gro p', .dat (nI k), .dat (tn lot), .dat (.list (rows (bfs k lot lot.sum))), L, .dat (nI v), D] = some (.nx, [.gro p', .dat (nI k), .dat (tn lot), .dat (.list (rows (bfs k lot lot.sum))), L, .dat (nI v), .dat (tn r)]) := sSet_to (x3 D)
  have ep := r_place_of k ⟨hk.1, by omega⟩ r r1 (by omega)
  have el := r_lot_of r k ⟨hk.1, by omega⟩ (by omega) r1
  rw [r3] at ep
  rw [r2] at el
  have l1 : eLst [.ex (eDef g_place_of [.ex (eVar 6), .ex (eVar 1)]), .ex (eDef g_lot_of [.ex (eVar 6), .ex (eVar 1)])] [.gro p', .dat (nI k), .dat (tn lot), .dat (.list (rows (bfs k lot lot.sum))), L, .dat (nI v), .dat (tn r)] = some (.new [nI v, tn lot], [.gro p', .dat (nI k), .dat (tn lot), .dat (.list (rows (bfs k lot lot.sum))), L, .dat (nI v), .dat (tn r)]) :=
    lst_run (runD_consD (def_run (runD_consD rfl (runD_consD rfl runD_nil)) ep) (runD_consD (def_run (runD_consD rfl (runD_consD rfl runD_nil)) el) runD_nil)) (fits (by simp))
  have l2 : eLst [.ex (eVar 5), .ex (eVar 2)] [.gro p', .dat (nI k), .dat (tn lot), .dat (.list (rows (bfs k lot lot.sum))), L, .dat (nI v), .dat (tn r)] = some (.new [nI v, tn lot], [.gro p', .dat (nI k), .dat (tn lot), .dat (.list (rows (bfs k lot lot.sum))), L, .dat (nI v), .dat (tn r)]) :=
    lst_run (runD_consD rfl (runD_consD rfl runD_nil)) (fits (by simp))
  have h200 : (100000 : Nat) < 2 ^ 200 := by decide
  have hlot : ∀ x ∈ lot, x < 2 ^ 200 := fun x hx => by have := le_sum lot x hx; omega
  have c2 := reprNe l1 l2 rfl (rok_two (rok_nat (by omega)) (rok_tn (by omega) hlot))
  exact ⟨p', _, _, hP', sSeq_run s1 (sSeq_run (sIf_f c1 rfl) (sSeq_run s3 (sIf_f c2 rfl)))⟩
theorem r_small (n : Nat) (p : List PyData) (hP : Pot n p) (hn : n ≤ 900) : ∃ p' tl, Pot (n + 13) p' ∧ g__law_is_small_right [.gro p] = some (.dat (.bool true), .gro p' :: tl) := by
  obtain ⟨v, p1, hv, hP1, e1⟩ := r_take n 3 p hP (by omega) (by decide) (by decide)
  have hk : 2 ≤ 2 + v ∧ 2 + v ≤ 4 := by omega
  have s1 : sSet 1 (eOp addD (eC (.int 2)) (eDef g__law_take [.mv 0, .ex (eC (.int 3))])) [.gro p, .un, .un, .un, .un, .un, .un] = some (.nx, [.gro p1, .dat (nI (2 + v)), .un, .un, .un, .un, .un]) :=
    sSet_to (ρ1 := [.gro p1, .un, .un, .un, .un, .un, .un]) (op_runD (a := nI 2) rfl (mv_run (ρ1 := [.gro p, .un, .un, .un, .un, .un, .un]) rfl (runD_consD (d := nI 3) rfl runD_nil) rfl e1) (add_nat 2 v))
  generalize 2 + v = k at hk s1
  obtain ⟨lot, p2, tl, hl, hs, hP2, e2⟩ := r_drawn (n + 1) k p1 hP1 (by omega) (by omega)
  obtain ⟨a2, e3⟩ := r_all_orders lot (by omega) hs
  rw [hl] at e3
  have s2 : sSet 2 (eDef g__law_drawn_lot [.mv 0, .ex (eVar 1), .ex (eC (.int 7))]) [.gro p1, .dat (nI k), .un, .un, .un, .un, .un] = some (.nx, [.gro p2, .dat (nI k), .dat (tn lot), .un, .un, .un, .un]) :=
    sSet_to (ρ1 := [.gro p2, .dat (nI k), .un, .un, .un, .un, .un]) (mv_run (ρ1 := [.gro p1, .dat (nI k), .un, .un, .un, .un, .un]) rfl (runD_consD (d := nI k) rfl (runD_consD (d := nI 7) rfl runD_nil)) rfl e2)
  have s3 : sSet 3 (eDef g__law_all_orders [.ex (eVar 2)]) [.gro p2, .dat (nI k), .dat (tn lot), .un, .un, .un, .un] = some (.nx, [.gro p2, .dat (nI k), .dat (tn lot), .dat (.list (rows (bfs k lot lot.sum))), .un, .un, .un]) :=
    sSet_to (def_run (runD_consD (d := tn lot) rfl runD_nil) e3)
  have hblen := bfs_len k lot.sum lot hl rfl
  have hM := M_small k lot.sum lot hl rfl
  have h4 := pow4 hk.2 hs
  have h200 : (100000 : Nat) < 2 ^ 200 := by decide
  have eo := r_orders_of lot (by omega) (by omega)
  have hlenr : eCall lenD [.ex (eVar 3)] [.gro p2, .dat (nI k), .dat (tn lot), .dat (.list (rows (bfs k lot lot.sum))), .un, .un, .un] = some (.dat (nI (M lot)), [.gro p2, .dat (nI k), .dat (tn lot), .dat (.list (rows (bfs k lot lot.sum))), .un, .un, .un]) := by
    refine call1_run (var_run (d := .list (rows (bfs k lot lot.sum))) rfl) ?_
    show some (RV.dat (.int ((rows (bfs k lot lot.sum)).length : Nat))) = _
    rw [List.length_map, hblen]
  have c4 := reprNe (f := eDef g_orders_of [.ex (eVar 2)]) (ρ := [.gro p2, .dat (nI k), .dat (tn lot), .dat (.list (rows (bfs k lot lot.sum))), .un, .un, .un]) (r := .dat (nI (M lot))) (s := .dat (nI (M lot))) (def_run (runD_consD (d := tn lot) rfl runD_nil) eo) hlenr rfl (rok_nat (by omega))
  have step : ∀ (i : Nat) (ρ' : DE) (d : PyData), ((List.range 8).map nI)[i]? = some d → (∃ (p' : List PyData) (L C D : SV), ρ' = [.gro p', .dat (nI k), .dat (tn lot), .dat (.list (rows (bfs k lot lot.sum))), L, C, D] ∧ Pot (n + 1 + k + (0 + i)) p') →
      ∃ ρ2, lpStep (gNm 4) smB d ρ' = some (.nx, ρ2) ∧ ∃ (p' : List PyData) (L C D : SV), ρ2 = [.gro p', .dat (nI k), .dat (tn lot), .dat (.list (rows (bfs k lot lot.sum))), L, C, D] ∧ Pot (n + 1 + k + (0 + i + 1)) p' := by
    rintro i ρ' d hd ⟨p', L, C, D, rfl, hP'⟩
    obtain ⟨hi, rfl⟩ := rg_get hd
    obtain ⟨p3, C', D', hP3, q⟩ := sm_step (n + 1 + k + (0 + i)) k p' lot (.dat (nI i)) C D hP' (by omega) hk hl hs
    exact ⟨_, lp_run (ρ1 := [.gro p', .dat (nI k), .dat (tn lot), .dat (.list (rows (bfs k lot lot.sum))), .dat (nI i), C, D]) rfl q, p3, _, _, _, rfl, hP3⟩
  obtain ⟨ρ2, e, p', L, C, D, rfl, hP'⟩ := loop_R (a := gNm 4) (body := smB) (fun i ρ' => ∃ (p' : List PyData) (L C D : SV), ρ' = [.gro p', .dat (nI k), .dat (tn lot), .dat (.list (rows (bfs k lot lot.sum))), L, C, D] ∧ Pot (n + 1 + k + i) p') ((List.range 8).map nI) 0 [.gro p2, .dat (nI k), .dat (tn lot), .dat (.list (rows (bfs k lot lot.sum))), .un, .un, .un] ⟨p2, _, _, _, rfl, hP2⟩ step
  simp only [List.length_map, List.length_range, Nat.zero_add] at hP'
  have body : b__law_is_small_right [.gro p, .un, .un, .un, .un, .un, .un] = some (.rt (.dat (.bool true)), [.gro p', .dat (nI k), .dat (tn lot), .dat (.list (rows (bfs k lot lot.sum))), L, C, D]) :=
    sSeq_run s1 (sSeq_run s2 (sSeq_run s3 (sSeq_run (sIf_f c4 rfl) (sSeq_run (sFor_run (rg_run (n := 8) rfl (by decide)) e) (sRet_run rfl)))))
  exact ⟨p', _, hP'.mono (by omega), fn_rt (ρ := [.gro p', .dat (nI k), .dat (tn lot), .dat (.list (rows (bfs k lot lot.sum))), L, C, D]) rfl rfl body rfl⟩
/-! ### great -/
theorem r_drawn_row (n k : Nat) (p : List PyData) (hP : Pot n p) (hn : n ≤ 900) (hk : 0 < k ∧ k ≤ 6) : ∃ (row : List Nat) (p' : List PyData), row.length ≤ 40 ∧ (∀ x ∈ row, x < k) ∧ Pot (n + 50) p' ∧
    sSet 2 (eCall tupleD [.ex (eLc [7] (iRg1 [.ex (eDef g__law_of [.mv 0, .ex (eLst [.ex (eC (.int 40)), .ex (eC (.int 40)), .ex (eC (.int 39)), .ex (eDef g__law_take [.mv 0, .ex (eC (.int 41))])])])]) (gNm 7) (tYesD) (eCall intD [.ex (eDef g__law_take [.mv 0, .ex (eVar 1)])]))]) [.gro p, .dat (nI k), .un, .un, .un, .un, .un, .un] = some (.nx, [.gro p', .dat (nI k), .dat (tn row), .un, .un, .un, .un, .un]) := by
  obtain ⟨v, p1, hv, hP1, e1⟩ := r_take n 41 p hP (by omega) (by decide) (by decide)
  obtain ⟨w, p2, tl, hw, hP2, e2⟩ := r_of (n + 1) p1 [40, 40, 39, v] hP1 (by omega) (by simp) (by simp)
  have hw40 : w ≤ 40 := by
    simp only [List.mem_cons, List.not_mem_nil, or_false] at hw
    omega
  have l1 : eLst [.ex (eC (.int 40)), .ex (eC (.int 40)), .ex (eC (.int 39)), .ex (eDef g__law_take [.mv 0, .ex (eC (.int 41))])] [.gro p, .dat (nI k), .un, .un, .un, .un, .un, .un] = some (.new ([40, 40, 39, v].map nI), [.gro p1, .dat (nI k), .un, .un, .un, .un, .un, .un]) :=
    lst_run (runD_consD rfl (runD_consD rfl (runD_consD rfl (runD_consD (mv_run (ρ1 := [.gro p, .dat (nI k), .un, .un, .un, .un, .un, .un]) rfl (runD_consD (d := nI 41) rfl runD_nil) rfl e1) runD_nil)))) (fits (by simp))
  have l2 : eDef g__law_of [.mv 0, .ex (eLst [.ex (eC (.int 40)), .ex (eC (.int 40)), .ex (eC (.int 39)), .ex (eDef g__law_take [.mv 0, .ex (eC (.int 41))])])] [.gro p, .dat (nI k), .un, .un, .un, .un, .un, .un] = some (.dat (nI w), [.gro p2, .dat (nI k), .un, .un, .un, .un, .un, .un]) :=
    mv_run (ρ1 := [.gro p1, .dat (nI k), .un, .un, .un, .un, .un, .un]) rfl (runD_cons l1 runD_nil) rfl e2
  obtain ⟨acc, ρ2, e, row, p', ⟨rfl, hl, hx, hP'⟩, rfl⟩ := lc_R (own := [7]) (a := gNm 7) (c := tYesD) (f := eCall intD [.ex (eDef g__law_take [.mv 0, .ex (eVar 1)])])
    (fun i acc ρ => ∃ (row : List Nat) (p' : List PyData), (acc = row.map nI ∧ row.length = i ∧ (∀ x ∈ row, x < k) ∧ Pot (n + 2 + i) p') ∧ ρ = [.gro p', .dat (nI k), .un, .un, .un, .un, .un, .un]) ((List.range w).map nI) [] 0 [.gro p2, .dat (nI k), .un, .un, .un, .un, .un, .un] (fits (by simp; omega)) ⟨[], p2, ⟨rfl, rfl, by simp, hP2⟩, rfl⟩ (by
      rintro i acc ρ' d hd ⟨row, p', ⟨rfl, hl, hx, hP'⟩, rfl⟩
      obtain ⟨hi, rfl⟩ := rg_get hd
      obtain ⟨u, p3, hu, hP3, e3⟩ := r_take (n + 2 + (0 + i)) k p' hP' (by omega) hk.1 (by omega)
      have e4 : eDef g__law_take [.mv 0, .ex (eVar 1)] [.gro p', .dat (nI k), .un, .un, .un, .un, .un, .dat (nI i)] = some (.dat (nI u), [.gro p3, .dat (nI k), .un, .un, .un, .un, .un, .dat (nI i)]) := mv_run (ρ1 := [.gro p', .dat (nI k), .un, .un, .un, .un, .un, .dat (nI i)]) rfl (runD_consD (d := nI k) rfl runD_nil) rfl e3
      refine ⟨nI u, [.gro p3, .dat (nI k), .un, .un, .un, .un, .un, .un], lcs_run (r := .dat (nI u)) (ρ1 := [.gro p', .dat (nI k), .un, .un, .un, .un, .un, .dat (nI i)]) rfl rfl (int_run e4) rfl, row ++ [u], p3, ⟨by simp, by simp [hl], fun x hx2 => ?_, hP3⟩, rfl⟩
      rcases List.mem_append.mp hx2 with q | q
      · exact hx x q
      · rw [List.mem_singleton.mp q]; exact hu)
  simp only [List.length_map, List.length_range, Nat.zero_add] at hl hP'
  have e5 := eLc_run (own := [7]) (rg_run l2 (by omega)) rfl e
  refine ⟨row, p', by omega, hx, hP'.mono (by omega), ?_⟩
  exact sSet_to (ρ1 := [.gro p', .dat (nI k), .un, .un, .un, .un, .un, .un]) (call1_run e5 rfl)
theorem asc_of (row : List Nat) : ∃ asc : List Nat, asc.Perm row ∧ asc.Pairwise (· ≤ ·) ∧ sortI (row.map fun (n : Nat) => (n : Int)) = asc.map fun (n : Nat) => (n : Int) := by
  have hp := sortI_perm (row.map fun (n : Nat) => (n : Int))
  have hs := sortI_sorted (row.map fun (n : Nat) => (n : Int))
  generalize sortI (row.map fun (n : Nat) => (n : Int)) = l at hp hs
  have hl : l = (l.map Int.toNat).map fun (n : Nat) => (n : Int) := by
    rw [List.map_map]
    have key : ∀ x ∈ l, ((fun (n : Nat) => (n : Int)) ∘ Int.toNat) x = x := fun x hx => by
      obtain ⟨n, _, rfl⟩ := List.mem_map.mp (hp.mem_iff.mp hx)
      rfl
    rw [List.map_congr_left key]
    simp
  refine ⟨l.map Int.toNat, ?_, ?_, hl⟩
  · have z := hp.map Int.toNat
    rw [List.map_map] at z
    have e : (row.map (Int.toNat ∘ fun (n : Nat) => (n : Int))) = row := by
      have : (Int.toNat ∘ fun (n : Nat) => (n : Int)) = id := by funext n; rfl
      rw [this, List.map_id]
    rw [e] at z
    exact z
  · rw [List.pairwise_map]
    refine hs.imp fun {a b} hab => ?_
    omega
theorem tOr_f {f g : TD} {ρ ρ1 : DE} {x : Option (Bool × DE)} (h1 : f ρ = some (false, ρ1)) (h2 : g ρ1 = x) : tOrD f g ρ = x := by
  unfold tOrD
  rw [h1]
  exact h2
theorem chain_run {o o' : PyData → PyData → Option RV} {f g h : ED} {ρ ρ1 ρ2 ρ3 : DE} {a b c : PyData} {x : RV} (h1 : f ρ = some (.dat a, ρ1)) (h2 : g ρ1 = some (.dat b, ρ2)) (h3 : o a b = some (.dat (.bool true))) (h4 : h ρ2 = some (.dat c, ρ3)) (h5 : o' b c = some x) : eChain o o' f g h ρ = some (x, ρ3) := by
  unfold eChain
  rw [h1]
  simp only
  rw [h2]
  simp only [RV.d]
  rw [h3]
  simp only
  rw [h4]
  simp only
  rw [h5]
theorem and_t {f g : ED} {ρ ρ1 : DE} {x : Option (RV × DE)} (h1 : f ρ = some (.dat (.bool true), ρ1)) (h2 : g ρ1 = x) : eAnd f g ρ = x := by
  unfold eAnd
  rw [h1]
  exact h2
theorem and_f {f g : ED} {ρ ρ1 : DE} (h1 : f ρ = some (.dat (.bool false), ρ1)) : eAnd f g ρ = some (.dat (.bool false), ρ1) := by
  unfold eAnd
  rw [h1]
theorem or_t {f g : ED} {ρ ρ1 : DE} (h1 : f ρ = some (.dat (.bool true), ρ1)) : eOr f g ρ = some (.dat (.bool true), ρ1) := by
  unfold eOr
  rw [h1]
theorem or_f {f g : ED} {ρ ρ1 : DE} {x : Option (RV × DE)} (h1 : f ρ = some (.dat (.bool false), ρ1)) (h2 : g ρ1 = x) : eOr f g ρ = x := by
  unfold eOr
  rw [h1]
  exact h2
theorem eq_nat {a b : Nat} (h : a = b) : eqD (nI a) (nI b) = some (.dat (.bool true)) := by
  subst h
  show some (RV.dat (.bool (decide ((a : Int) = (a : Int))))) = _
  rw [decide_eq_true rfl]
theorem sub_nat {a b : Nat} (h : b ≤ a) : subD (nI a) (nI b) = some (.dat (nI (a - b))) := by
  rw [ap_sub]
  show some (RV.dat (.int (((a : Nat) : Int) - ((b : Nat) : Int)))) = some (RV.dat (.int ((a - b : Nat) : Int)))
  rw [show ((a : Nat) : Int) - ((b : Nat) : Int) = ((a - b : Nat) : Int) by omega]
theorem gr_end (k : Nat) (hk : 2 ≤ k ∧ k ≤ 6) (row : List Nat) (hl : row.length ≤ 40) (hx : ∀ x ∈ row, x < k) (P E : SV) (aM : List SV) (hM : g__law_many [.dat (tn (cnt k row))] = some (.dat (nI (M (cnt k row))), aM)) :
    ∃ L, sSeq (sSet 6 (eDef g__law_next [.ex (eVar 2)]))
      (sRet (eOr (eAnd (eOp isND (eVar 6) (eC .none)) (eOp eqD (eVar 4) (eOp subD (eDef g__law_many [.ex (eVar 3)]) (eC (.int 1))))) (eAnd (eOp notND (eVar 6) (eC .none)) (eOp eqD (eDef g_place_of [.ex (eVar 6), .ex (eVar 1)]) (eOp addD (eVar 4) (eC (.int 1)))))))
      [P, .dat (nI k), .dat (tn row), .dat (tn (cnt k row)), .dat (nI (pl k row)), E, .un, .un] = some (.rt (.dat (.bool true)), [P, .dat (nI k), .dat (tn row), .dat (tn (cnt k row)), .dat (nI (pl k row)), E, L, .un]) := by
  rcases r_next row (by omega) with ⟨hd, a2, e⟩ | ⟨pre, S1, S2, a, b, erow, hd, hab, h2, a2, e⟩
  · have hp := pl_desc k row hx hd
    unfold MR at hp
    refine ⟨.dat .none, sSeq_run (sSet_to (ρ2 := [P, .dat (nI k), .dat (tn row), .dat (tn (cnt k row)), .dat (nI (pl k row)), E, .dat .none, .un]) (def_run (runD_consD (d := tn row) rfl runD_nil) e)) (sRet_run (or_t (and_t (ρ1 := [P, .dat (nI k), .dat (tn row), .dat (tn (cnt k row)), .dat (nI (pl k row)), E, .dat .none, .un]) (op_runD (a := .none) rfl rfl rfl) (op_runD (a := nI (pl k row)) (b := nI (M (cnt k row) - 1)) rfl (op_runD (def_run (runD_consD (d := tn (cnt k row)) rfl runD_nil) hM) (b := nI 1) rfl (sub_nat (by omega))) (eq_nat (by omega))))))⟩
  · have hn := pl_next k pre S1 S2 a b (by rw [← erow]; exact hx) hd hab h2
    rw [← erow] at hn
    generalize hrow2 : pre ++ b :: (S1 ++ a :: S2).reverse = row2 at hn e
    have hl2 : row2.length = row.length := by rw [← hrow2, erow]; simp; omega
    have hx2 : ∀ x ∈ row2, x < k := fun x hm => by
      apply hx x
      rw [← hrow2] at hm
      rw [erow]
      simp only [List.mem_append, List.mem_cons, List.mem_reverse] at hm ⊢
      rcases hm with h | h | h | h | h <;> simp [h]
    have ep := r_place_of k hk row2 hx2 (by omega)
    rw [hn] at ep
    have c1 : eOp isND (eVar 6) (eC .none) [P, .dat (nI k), .dat (tn row), .dat (tn (cnt k row)), .dat (nI (pl k row)), E, .dat (tn row2), .un] = some (.dat (.bool false), [P, .dat (nI k), .dat (tn row), .dat (tn (cnt k row)), .dat (nI (pl k row)), E, .dat (tn row2), .un]) := op_runD (a := tn row2) rfl rfl rfl
    have c2 : eOp notND (eVar 6) (eC .none) [P, .dat (nI k), .dat (tn row), .dat (tn (cnt k row)), .dat (nI (pl k row)), E, .dat (tn row2), .un] = some (.dat (.bool true), [P, .dat (nI k), .dat (tn row), .dat (tn (cnt k row)), .dat (nI (pl k row)), E, .dat (tn row2), .un]) := op_runD (a := tn row2) rfl rfl rfl
    refine ⟨.dat (tn row2), sSeq_run (sSet_to (ρ2 := [P, .dat (nI k), .dat (tn row), .dat (tn (cnt k row)), .dat (nI (pl k row)), E, .dat (tn row2), .un]) (def_run (runD_consD (d := tn row) rfl runD_nil) e)) (sRet_run (or_f (and_f c1) (and_t c2 (op_runD (def_run (runD_consD (d := tn row2) rfl (runD_consD (d := nI k) rfl runD_nil)) ep) (op_runD (a := nI (pl k row)) (b := nI 1) rfl rfl (add_nat _ 1)) (eq_nat rfl)))))⟩
end K80
namespace K80
open PySem DL
theorem par_run {i j : Nat} {f g : ED} {ρ ρ1 ρ2 ρ3 : DE} {r1 r2 : RV} (h1 : f ρ = some (r1, ρ1)) (h2 : g ρ1 = some (r2, ρ2)) (e : (ρ2.set i r1.sv).set j r2.sv = ρ3) : sParV i j [f, g] ρ = some (.nx, ρ3) := by
  rw [← e]
  have z : runV [f, g] ρ = some ([r1, r2], ρ2) := by
    unfold runV
    rw [h1]
    simp only
    unfold runV
    rw [h2]
    rfl
  unfold sParV
  rw [z]
theorem cnt_low (k : Nat) (row : List Nat) (hl : row.length ≤ 40) (hx : ∀ x ∈ row, x < k) : ∀ x ∈ cnt k row, x < 2 ^ 200 := fun x hm => by
  have h1 := le_sum (cnt k row) x hm
  rw [cnt_sum k row hx] at h1
  exact Nat.lt_of_le_of_lt h1 (Nat.lt_of_le_of_lt hl (by decide))
theorem r_great (n : Nat) (p : List PyData) (hP : Pot n p) (hn : n ≤ 800) : ∃ p' tl, Pot (n + 60) p' ∧ g__law_is_great_right [.gro p] = some (.dat (.bool true), .gro p' :: tl) := by
  obtain ⟨v, p1, hv, hP1, e1⟩ := r_take n 5 p hP (by omega) (by decide) (by decide)
  have hk : 2 ≤ 2 + v ∧ 2 + v ≤ 6 := by omega
  have s1 : sSet 1 (eOp addD (eC (.int 2)) (eDef g__law_take [.mv 0, .ex (eC (.int 5))])) [.gro p, .un, .un, .un, .un, .un, .un, .un] = some (.nx, [.gro p1, .dat (nI (2 + v)), .un, .un, .un, .un, .un, .un]) :=
    sSet_to (ρ1 := [.gro p1, .un, .un, .un, .un, .un, .un, .un]) (op_runD (a := nI 2) rfl (mv_run (ρ1 := [.gro p, .un, .un, .un, .un, .un, .un, .un]) rfl (runD_consD (d := nI 5) rfl runD_nil) rfl e1) (add_nat 2 v))
  generalize 2 + v = k at hk s1
  obtain ⟨row, p', hl, hx, hP', s2⟩ := r_drawn_row (n + 1) k p1 hP1 (by omega) (by omega)
  have el := r__law_lot row k (by omega)
  have ep := r_place_of k hk row hx hl
  have s3 : sParV 3 4 [eDef g__law_lot [.ex (eVar 2), .ex (eVar 1)], eDef g_place_of [.ex (eVar 2), .ex (eVar 1)]] [.gro p', .dat (nI k), .dat (tn row), .un, .un, .un, .un, .un] = some (.nx, [.gro p', .dat (nI k), .dat (tn row), .dat (tn (cnt k row)), .dat (nI (pl k row)), .un, .un, .un]) := by
    have f1 : eDef g__law_lot [.ex (eVar 2), .ex (eVar 1)] [.gro p', .dat (nI k), .dat (tn row), .un, .un, .un, .un, .un] = some (.dat (tn (cnt k row)), [.gro p', .dat (nI k), .dat (tn row), .un, .un, .un, .un, .un]) := def_run (runD_consD (d := tn row) rfl (runD_consD (d := nI k) rfl runD_nil)) el
    have f2 : eDef g_place_of [.ex (eVar 2), .ex (eVar 1)] [.gro p', .dat (nI k), .dat (tn row), .un, .un, .un, .un, .un] = some (.dat (nI (pl k row)), [.gro p', .dat (nI k), .dat (tn row), .un, .un, .un, .un, .un]) := def_run (runD_consD (d := tn row) rfl (runD_consD (d := nI k) rfl runD_nil)) ep
    exact par_run f1 f2 rfl
  have hsum := cnt_sum k row hx
  have hlen := cnt_length k row
  have hMlt := M_lt (cnt k row) (by omega) (by omega)
  have hplt := pl_lt k row hx
  unfold MR at hplt
  have hlotx := cnt_low k row (by omega) hx
  have eo := r_orders_of (cnt k row) (by omega) (by omega)
  obtain ⟨aM, eM⟩ := r_law_many (cnt k row) (by omega)
  have elo := r_lot_of row k hk hl hx
  obtain ⟨a2, ea⟩ := r_order_at k hk row hx hl
  have c4a := reprNe (f := eDef g_lot_of [.ex (eVar 2), .ex (eVar 1)]) (g := eVar 3) (ρ := [.gro p', .dat (nI k), .dat (tn row), .dat (tn (cnt k row)), .dat (nI (pl k row)), .un, .un, .un]) (r := .dat (tn (cnt k row))) (s := .dat (tn (cnt k row))) (def_run (runD_consD (d := tn row) rfl (runD_consD (d := nI k) rfl runD_nil)) elo) rfl rfl (rok_tn (by omega) hlotx)
  have c4b := reprNe (f := eDef g_orders_of [.ex (eVar 3)]) (g := eDef g__law_many [.ex (eVar 3)]) (ρ := [.gro p', .dat (nI k), .dat (tn row), .dat (tn (cnt k row)), .dat (nI (pl k row)), .un, .un, .un]) (r := .dat (nI (M (cnt k row)))) (s := .dat (nI (M (cnt k row)))) (def_run (runD_consD (d := tn (cnt k row)) rfl runD_nil) eo) (def_run (runD_consD (d := tn (cnt k row)) rfl runD_nil) eM) rfl (rok_nat hMlt)
  have l0 : leD (.int 0) (nI (pl k row)) = some (.dat (.bool true)) := by
    rw [ap_le]
    have : (0 : Int) ≤ ((pl k row : Nat) : Int) := by omega
    rw [decide_eq_true this]
  have l1 : ltD (nI (pl k row)) (nI (M (cnt k row))) = some (.dat (.bool true)) := by
    rw [ap_lt]
    have : ((pl k row : Nat) : Int) < ((M (cnt k row) : Nat) : Int) := by omega
    rw [decide_eq_true this]
  have c5a : tNotD (tV (eChain leD ltD (eC (.int 0)) (eVar 4) (eDef g__law_many [.ex (eVar 3)]))) [.gro p', .dat (nI k), .dat (tn row), .dat (tn (cnt k row)), .dat (nI (pl k row)), .un, .un, .un] = some (false, [.gro p', .dat (nI k), .dat (tn row), .dat (tn (cnt k row)), .dat (nI (pl k row)), .un, .un, .un]) :=
    tNot_run (b := true) (tV_run (chain_run rfl rfl l0 (def_run (runD_consD (d := tn (cnt k row)) rfl runD_nil) eM) l1))
  have c5b := reprNe (f := eDef g_order_at [.ex (eVar 3), .ex (eVar 4)]) (g := eVar 2) (ρ := [.gro p', .dat (nI k), .dat (tn row), .dat (tn (cnt k row)), .dat (nI (pl k row)), .un, .un, .un]) (r := .dat (tn row)) (s := .dat (tn row)) (def_run (runD_consD (d := tn (cnt k row)) rfl (runD_consD (d := nI (pl k row)) rfl runD_nil)) ea) rfl rfl (rok_tn (by omega) (low_lt (by omega) hx))
  obtain ⟨asc, hperm, hasc, esort⟩ := asc_of row
  have hxa : ∀ x ∈ asc, x < k := fun x hm => hx x (hperm.mem_iff.mp hm)
  have hla : asc.length = row.length := hperm.length_eq
  have hca : cnt k asc = cnt k row := cnt_perm k hperm
  have hpr : asc.reverse.Perm row := (List.reverse_perm asc).trans hperm
  have hxr : ∀ x ∈ asc.reverse, x < k := fun x hm => hx x (hpr.mem_iff.mp hm)
  have hcr : cnt k asc.reverse = cnt k row := cnt_perm k hpr
  have es : ∀ (A B C D E F G H : SV), C = .dat (tn row) → eCall tupleD [.ex (eCall sortedAD [.ex (eVar 2)])] [A, B, C, D, E, F, G, H] = some (.dat (tn asc), [A, B, C, D, E, F, G, H]) := fun A B C D E F G H hC => by
    subst hC
    refine call1_run (call1_run (var_run (d := tn row) rfl) (x := .new (asc.map nI)) ?_) rfl
    show (intsOf (row.map nI)).map (fun ns => RV.new ((sortI ns).map .int)) = _
    rw [ints_map, Option.map_some, esort, List.map_map]
    rfl
  have s6 : sSet 5 (eLst [.ex (eCall tupleD [.ex (eCall sortedAD [.ex (eVar 2)])]), .ex (eRev (eCall tupleD [.ex (eCall sortedAD [.ex (eVar 2)])]))]) [.gro p', .dat (nI k), .dat (tn row), .dat (tn (cnt k row)), .dat (nI (pl k row)), .un, .un, .un] = some (.nx, [.gro p', .dat (nI k), .dat (tn row), .dat (tn (cnt k row)), .dat (nI (pl k row)), .gro [tn asc, tn asc.reverse], .un, .un]) := by
    have er : eRev (eCall tupleD [.ex (eCall sortedAD [.ex (eVar 2)])]) [.gro p', .dat (nI k), .dat (tn row), .dat (tn (cnt k row)), .dat (nI (pl k row)), .un, .un, .un] = some (.dat (tn asc.reverse), [.gro p', .dat (nI k), .dat (tn row), .dat (tn (cnt k row)), .dat (nI (pl k row)), .un, .un, .un]) := by
      unfold eRev
      rw [es _ _ _ _ _ _ _ _ rfl]
      simp only [RV.d]
      rw [← List.map_reverse]
    exact sSet_to (lst_run (runD_consD (es _ _ _ _ _ _ _ _ rfl) (runD_consD er runD_nil)) (fits (by simp)))
  obtain ⟨b1, eb1⟩ := r_order_at k hk asc hxa (by omega)
  rw [hca, pl_asc k asc hxa hasc] at eb1
  obtain ⟨b2, eb2⟩ := r_order_at k hk asc.reverse hxr (by simp; omega)
  have hdesc := pl_desc k asc.reverse hxr (by rw [List.pairwise_reverse]; exact hasc)
  unfold MR at hdesc
  rw [hcr] at eb2 hdesc
  have hsub : subD (nI (M (cnt k row))) (nI 1) = some (.dat (nI (pl k asc.reverse))) := by
    rw [sub_nat (by omega)]
    rw [show M (cnt k row) - 1 = pl k asc.reverse by omega]
  have f7 : eLst [.ex (eDef g_order_at [.ex (eVar 3), .ex (eC (.int 0))]), .ex (eDef g_order_at [.ex (eVar 3), .ex (eOp subD (eDef g__law_many [.ex (eVar 3)]) (eC (.int 1)))])] [.gro p', .dat (nI k), .dat (tn row), .dat (tn (cnt k row)), .dat (nI (pl k row)), .gro [tn asc, tn asc.reverse], .un, .un] = some (.new [tn asc, tn asc.reverse], [.gro p', .dat (nI k), .dat (tn row), .dat (tn (cnt k row)), .dat (nI (pl k row)), .gro [tn asc, tn asc.reverse], .un, .un]) :=
    lst_run (runD_consD (def_run (runD_consD (d := tn (cnt k row)) rfl (runD_consD (d := nI 0) rfl runD_nil)) eb1) (runD_consD (def_run (runD_consD (d := tn (cnt k row)) rfl (runD_consD (op_runD (def_run (runD_consD (d := tn (cnt k row)) rfl runD_nil) eM) (b := nI 1) rfl hsub) runD_nil)) eb2) runD_nil)) (fits (by simp))
  have c7 := reprNe (g := eVar 5) (s := .dat (.list [tn asc, tn asc.reverse])) f7 rfl rfl (rok_two (rok_tn (by omega) (low_lt (by omega) hxa)) (rok_tn (by simp; omega) (low_lt (by omega) hxr)))
  obtain ⟨L, s8⟩ := gr_end k hk row hl hx (.gro p') (.dat (.list [tn asc, tn asc.reverse])) aM eM
  have body : b__law_is_great_right [.gro p, .un, .un, .un, .un, .un, .un, .un] = some (.rt (.dat (.bool true)), [.gro p', .dat (nI k), .dat (tn row), .dat (tn (cnt k row)), .dat (nI (pl k row)), .dat (.list [tn asc, tn asc.reverse]), L, .un]) :=
    sSeq_run s1 (sSeq_run s2 (sSeq_run s3 (sSeq_run (sIf_f (tOr_f c4a c4b) rfl) (sSeq_run (sIf_f (tOr_f c5a c5b) rfl) (sSeq_run s6 (sSeq_run (sIf_f c7 rfl) s8))))))
  exact ⟨p', _, hP'.mono (by omega), fn_rt (ρ := [.gro p', .dat (nI k), .dat (tn row), .dat (tn (cnt k row)), .dat (nI (pl k row)), .dat (.list [tn asc, tn asc.reverse]), L, .un]) rfl rfl body rfl⟩
end K80
namespace K80
open PySem DL
/-! ### the law -/
theorem r_right (n : Nat) (p : List PyData) (hP : Pot n p) (hn : n ≤ 700) : ∃ p' tl, Pot (n + 80) p' ∧ g__law_right [.gro p] = some (.dat (.bool true), .gro p' :: tl) := by
  obtain ⟨p1, t1, hP1, e1⟩ := r_small n p hP (by omega)
  obtain ⟨p2, t2, hP2, e2⟩ := r_great (n + 13) p1 hP1 (by omega)
  have c1 : eDef g__law_is_small_right [.mv 0] [.gro p] = some (.dat (.bool true), [.gro p1]) := mv_run (ρ1 := [.gro p]) rfl runD_nil rfl e1
  have c2 : eDef g__law_is_great_right [.mv 0] [.gro p1] = some (.dat (.bool true), [.gro p2]) := mv_run (ρ1 := [.gro p1]) rfl runD_nil rfl e2
  exact ⟨p2, _, hP2.mono (by omega), fn_rt (ρ := [.gro p2]) rfl rfl (sRet_run (and_t c1 c2)) rfl⟩
abbrev lwB : SD := sSeq (sSet 2 (eDef g__law_pot [.ex (eVar 0), .ex (eVar 1)]))
  (sIf (tNotD (tV (eCall allD [.ex (eLc [3] (iRg1 [.ex (eC (.int 3))]) (gNm 3) (tYesD) (eDef g__law_right [.mv 2]))]))) (sRet (eC (.bool false))) (sNx))
theorem law_step (ns : List Int) (c : Nat) (hc : c ≤ 1000) (X : SV) : ∃ Z, lwB [.dat (.list (ns.map .int)), .dat (nI c), X, .un] = some (.nx, [.dat (.list (ns.map .int)), .dat (nI c), Z, .un]) := by
  obtain ⟨p, a2, hP, e⟩ := r_pot ns c hc
  have s1 : sSet 2 (eDef g__law_pot [.ex (eVar 0), .ex (eVar 1)]) [.dat (.list (ns.map .int)), .dat (nI c), X, .un] = some (.nx, [.dat (.list (ns.map .int)), .dat (nI c), .gro p, .un]) := sSet_to (r := .new p) (def_run (runD_consD (d := .list (ns.map .int)) rfl (runD_consD (d := nI c) rfl runD_nil)) e)
  obtain ⟨acc, ρ2, e2, p', ⟨rfl, hP'⟩, rfl⟩ := lc_R (own := [3]) (a := gNm 3) (c := tYesD) (f := eDef g__law_right [.mv 2])
    (fun i acc ρ => ∃ p' : List PyData, (acc = List.replicate i (.bool true) ∧ Pot (80 * i) p') ∧ ρ = [.dat (.list (ns.map .int)), .dat (nI c), .gro p', .un]) ((List.range 3).map nI) [] 0 [.dat (.list (ns.map .int)), .dat (nI c), .gro p, .un] (fits (by simp)) ⟨p, ⟨rfl, hP⟩, rfl⟩ (by
      rintro i acc ρ' d hd ⟨p', ⟨rfl, hP'⟩, rfl⟩
      obtain ⟨hi, rfl⟩ := rg_get hd
      obtain ⟨p3, tl, hP3, e3⟩ := r_right (80 * (0 + i)) p' hP' (by omega)
      have e4 : eDef g__law_right [.mv 2] [.dat (.list (ns.map .int)), .dat (nI c), .gro p', .dat (nI i)] = some (.dat (.bool true), [.dat (.list (ns.map .int)), .dat (nI c), .gro p3, .dat (nI i)]) := mv_run (ρ1 := [.dat (.list (ns.map .int)), .dat (nI c), .gro p', .dat (nI i)]) rfl runD_nil rfl e3
      refine ⟨.bool true, [.dat (.list (ns.map .int)), .dat (nI c), .gro p3, .un], lcs_run (r := .dat (.bool true)) (ρ1 := [.dat (.list (ns.map .int)), .dat (nI c), .gro p', .dat (nI i)]) rfl rfl e4 rfl, p3, ⟨?_, hP3.mono (by omega)⟩, rfl⟩
      rw [List.replicate_succ'])
  have e5 := eLc_run (own := [3]) (it := iRg1 [.ex (eC (.int 3))]) (ρ := [.dat (.list (ns.map .int)), .dat (nI c), .gro p, .un]) (ρ1 := [.dat (.list (ns.map .int)), .dat (nI c), .gro p, .un]) (rg_run (n := 3) rfl (by decide)) rfl e2
  have e6 := call1_run (g := allD) e5 (all_true _)
  exact ⟨.gro p', sSeq_run s1 (sIf_f (tNot_run (b := true) (tV_run e6)) rfl)⟩
theorem tells : Tells g_law 63 := fun ns hn => by
  obtain ⟨c, hc, ec⟩ := r_cells ns (by omega)
  have key : ∀ (l : List Nat), (∀ x ∈ l, x ≤ 1000) → ∀ (X Y : SV), ∃ X' Y', loopD (gNm 1) lwB (l.map nI) [.dat (.list (ns.map .int)), X, Y, .un] = some (.nx, [.dat (.list (ns.map .int)), X', Y', .un]) := fun l => by
    induction l with
    | nil => intro _ X Y; exact ⟨X, Y, rfl⟩
    | cons a l ih =>
      intro h X Y
      obtain ⟨Z, e⟩ := law_step ns a (h a (by simp)) Y
      obtain ⟨X', Y', q⟩ := ih (fun x hx => h x (by simp [hx])) (.dat (nI a)) Z
      exact ⟨X', Y', (loop_cons (lp_run (ρ1 := [.dat (.list (ns.map .int)), .dat (nI a), Y, .un]) rfl e)).trans q⟩
  obtain ⟨X', Y', q⟩ := key (List.range c) (fun x hx => by have := List.mem_range.mp hx; omega) .un .un
  have it : iAny (eDef g__law_cells [.ex (eVar 0), .ex (eC (.int 2))]) [.dat (.list (ns.map .int)), .un, .un, .un] = some ((List.range c).map nI, [.dat (.list (ns.map .int)), .un, .un, .un]) := by
    have e : eDef g__law_cells [.ex (eVar 0), .ex (eC (.int 2))] [.dat (.list (ns.map .int)), .un, .un, .un] = some (.new ((List.range c).map nI), [.dat (.list (ns.map .int)), .un, .un, .un]) := def_run (runD_consD (d := .list (ns.map .int)) rfl (runD_consD (d := nI 2) rfl runD_nil)) ec
    unfold iAny
    rw [e]
    rfl
  exact ⟨_, fn_rt (ρ := [.dat (.list (ns.map .int)), X', Y', .un]) rfl rfl (sSeq_run (sFor_run it q) (sRet_run rfl)) rfl⟩
end K80
namespace K80
open PySem PySem.Spec PyProof.Rows L2 DL
/-! ### what the top has written -/
structure Tx (K : KF) (mg : Str → Option Value) where
  a_is_integer : Addr
  f_is_integer : FuncData
  d_is_integer : Def K mg "is_integer" s_is_integer ["value"] a_is_integer f_is_integer
  a_is_between : Addr
  f_is_between : FuncData
  d_is_between : Def K mg "is_between" s_is_between ["value", "low", "high"] a_is_between f_is_between
  a_checked_signs : Addr
  f_checked_signs : FuncData
  d_checked_signs : Def K mg "checked_signs" s_checked_signs ["signs"] a_checked_signs f_checked_signs
  a_is_row_of : Addr
  f_is_row_of : FuncData
  d_is_row_of : Def K mg "is_row_of" s_is_row_of ["value", "signs"] a_is_row_of f_is_row_of
  a_is_lot : Addr
  f_is_lot : FuncData
  d_is_lot : Def K mg "is_lot" s_is_lot ["value"] a_is_lot f_is_lot
  a_checked_lot : Addr
  f_checked_lot : FuncData
  d_checked_lot : Def K mg "checked_lot" s_checked_lot ["lot"] a_checked_lot f_checked_lot
  a_is_short_row : Addr
  f_is_short_row : FuncData
  d_is_short_row : Def K mg "is_short_row" s_is_short_row ["value", "signs"] a_is_short_row f_is_short_row
  a_lot_in : Addr
  f_lot_in : FuncData
  d_lot_in : Def K mg "lot_in" s_lot_in ["row", "signs"] a_lot_in f_lot_in
  a_lot_of : Addr
  f_lot_of : FuncData
  d_lot_of : Def K mg "lot_of" s_lot_of ["row", "signs"] a_lot_of f_lot_of
  k_lot_of : KB K f_lot_of ["row", "signs"] ["row", "signs"] 0
  a_choices_of : Addr
  f_choices_of : FuncData
  d_choices_of : Def K mg "choices_of" s_choices_of ["many", "some"] a_choices_of f_choices_of
  a_many_orders : Addr
  f_many_orders : FuncData
  d_many_orders : Def K mg "many_orders" s_many_orders ["lot"] a_many_orders f_many_orders
  a_orders_of : Addr
  f_orders_of : FuncData
  d_orders_of : Def K mg "orders_of" s_orders_of ["lot"] a_orders_of f_orders_of
  k_orders_of : KB K f_orders_of ["lot"] ["lot"] 0
  a_less_one : Addr
  f_less_one : FuncData
  d_less_one : Def K mg "less_one" s_less_one ["lot", "sign"] a_less_one f_less_one
  a_next_sign : Addr
  f_next_sign : FuncData
  d_next_sign : Def K mg "next_sign" s_next_sign ["left", "number"] a_next_sign f_next_sign
  a_order_at : Addr
  f_order_at : FuncData
  d_order_at : Def K mg "order_at" s_order_at ["lot", "number"] a_order_at f_order_at
  k_order_at : KB K f_order_at ["lot", "number"] ["lot", "number"] 0
  a_place_of : Addr
  f_place_of : FuncData
  d_place_of : Def K mg "place_of" s_place_of ["row", "signs"] a_place_of f_place_of
  k_place_of : KB K f_place_of ["row", "signs"] ["row", "signs"] 0
  a__law_pot : Addr
  f__law_pot : FuncData
  d__law_pot : Def K mg "_law_pot" s__law_pot ["script", "place"] a__law_pot f__law_pot
  a__law_take : Addr
  f__law_take : FuncData
  d__law_take : Def K mg "_law_take" s__law_take ["pot", "upto"] a__law_take f__law_take
  a__law_of : Addr
  f__law_of : FuncData
  d__law_of : Def K mg "_law_of" s__law_of ["pot", "some"] a__law_of f__law_of
  a__law_cells : Addr
  f__law_cells : FuncData
  d__law_cells : Def K mg "_law_cells" s__law_cells ["script", "most"] a__law_cells f__law_cells
  a__law_lot : Addr
  f__law_lot : FuncData
  d__law_lot : Def K mg "_law_lot" s__law_lot ["row", "signs"] a__law_lot f__law_lot
  a__law_drawn_lot : Addr
  f__law_drawn_lot : FuncData
  d__law_drawn_lot : Def K mg "_law_drawn_lot" s__law_drawn_lot ["pot", "signs", "most"] a__law_drawn_lot f__law_drawn_lot
  a__law_all_orders : Addr
  f__law_all_orders : FuncData
  d__law_all_orders : Def K mg "_law_all_orders" s__law_all_orders ["lot"] a__law_all_orders f__law_all_orders
  a__law_many : Addr
  f__law_many : FuncData
  d__law_many : Def K mg "_law_many" s__law_many ["lot"] a__law_many f__law_many
  a__law_next : Addr
  f__law_next : FuncData
  d__law_next : Def K mg "_law_next" s__law_next ["row"] a__law_next f__law_next
  a__law_is_small_right : Addr
  f__law_is_small_right : FuncData
  d__law_is_small_right : Def K mg "_law_is_small_right" s__law_is_small_right ["pot"] a__law_is_small_right f__law_is_small_right
  a__law_is_great_right : Addr
  f__law_is_great_right : FuncData
  d__law_is_great_right : Def K mg "_law_is_great_right" s__law_is_great_right ["pot"] a__law_is_great_right f__law_is_great_right
  a__law_right : Addr
  f__law_right : FuncData
  d__law_right : Def K mg "_law_right" s__law_right ["pot"] a__law_right f__law_right
  a_law : Addr
  f_law : FuncData
  d_law : Def K mg "law" s_law ["script"] a_law f_law
  t_LEAST_SIGNS : Tok
  c_LEAST_SIGNS : mg "LEAST_SIGNS" = some (.int 2 t_LEAST_SIGNS)
  t_MOST_IN_LOT : Tok
  c_MOST_IN_LOT : mg "MOST_IN_LOT" = some (.int 40 t_MOST_IN_LOT)
  t_MOST_READINGS : Tok
  c_MOST_READINGS : mg "MOST_READINGS" = some (.int 400 t_MOST_READINGS)
  t_MOST_SIGNS_TOLD : Tok
  c_MOST_SIGNS_TOLD : mg "MOST_SIGNS_TOLD" = some (.int 6 t_MOST_SIGNS_TOLD)
  n_abs : mg "abs" = none
  n_all : mg "all" = none
  n_bool : mg "bool" = none
  n_enumerate : mg "enumerate" = none
  n_int : mg "int" = none
  n_isinstance : mg "isinstance" = none
  n_len : mg "len" = none
  n_list : mg "list" = none
  n_max : mg "max" = none
  n_min : mg "min" = none
  n_range : mg "range" = none
  n_repr : mg "repr" = none
  n_sorted : mg "sorted" = none
  n_sum : mg "sum" = none
  n_tuple : mg "tuple" = none
/-! ### each def keeps its promise -/
section
variable {Pr : Program} {w : World} {K : KF} {mg : Str → Option Value} {base : Heap}
theorem sc_is_integer : FnScope ["value"] ["value"] (defScope s_is_integer) := ⟨rfl, rfl, rfl, by decide +kernel, rfl, by decide +kernel, by decide +kernel⟩
theorem ok_is_integer (T : Tx K mg) : FnG Pr w K mg base 1 T.a_is_integer T.f_is_integer ["value"] (spD K 1 g_is_integer) := fn_ok (k := 0) (P := []) T.d_is_integer.fn sc_is_integer (
  ss_one (s_ret (d_and (d_isi (d_var 0) (fun _ => T.n_isinstance) (fun _ => T.n_int) bl_int) (d_one (d_not (d_isi (d_var 0) (fun _ => T.n_isinstance) (fun _ => T.n_bool) bl_bool))))))
theorem sc_is_between : FnScope ["value", "low", "high"] ["value", "low", "high"] (defScope s_is_between) := ⟨rfl, rfl, rfl, by decide +kernel, rfl, by decide +kernel, by decide +kernel⟩
theorem ok_is_between (T : Tx K mg) : FnG Pr w K mg base 2 T.a_is_between T.f_is_between ["value", "low", "high"] (spD K 3 g_is_between) := fn_ok (k := 1) (P := []) T.d_is_between.fn sc_is_between (
  ss_one (s_ret (d_and (d_call T.d_is_integer (fun _ => ok_is_integer T) (a_cons (d_var 0) (a_nil))) (d_one (d_chainLeLe (d_var 1) (d_var 0) (d_var 2))))))
theorem sc_checked_signs : FnScope ["signs"] ["signs"] (defScope s_checked_signs) := ⟨rfl, rfl, rfl, by decide +kernel, rfl, by decide +kernel, by decide +kernel⟩
theorem ok_checked_signs (T : Tx K mg) : FnG Pr w K mg base 3 T.a_checked_signs T.f_checked_signs ["signs"] (spD K 1 g_checked_signs) := fn_ok (k := 2) (P := []) T.d_checked_signs.fn sc_checked_signs (
  ss_one (s_if (t_not (t_val (d_call T.d_is_between (fun _ => ok_is_between T) (a_cons (d_var 0) (a_cons (d_glob (v := .int 2) (d := .int 2) (fun _ => T.c_LEAST_SIGNS) ⟨_, rfl⟩ (fun _ => .int _)) (a_cons (d_glob (v := .int 6) (d := .int 6) (fun _ => T.c_MOST_SIGNS_TOLD) ⟨_, rfl⟩ (fun _ => .int _)) (a_nil))))))) (ss_one (s_no)) (ss_nil)))
theorem sc_is_row_of : FnScope ["value", "signs", "one"] ["value", "signs"] (defScope s_is_row_of) := ⟨rfl, rfl, rfl, by decide +kernel, rfl, by decide +kernel, by decide +kernel⟩
theorem ok_is_row_of (T : Tx K mg) : FnG Pr w K mg base 3 T.a_is_row_of T.f_is_row_of ["value", "signs"] (spD K 2 g_is_row_of) := fn_ok (k := 2) (P := []) T.d_is_row_of.fn sc_is_row_of (
  ss_cons (s_if ((w_or (t_not (t_val (d_isi (d_var 0) (fun _ => T.n_isinstance) (fun _ => T.n_tuple) bl_tuple))) (w_or1 (t_gt (b_len (fun _ => T.n_len) (a_cons (d_var 0) (a_nil))) (d_glob (v := .int 400) (d := .int 400) (fun _ => T.c_MOST_READINGS) ⟨_, rfl⟩ (fun _ => .int _))))).pt) (ss_one (s_ret (d_bl))) (ss_nil))
  (ss_one (s_ret (b_all (fun _ => T.n_all) (a_cons (d_lc (own := [("one", 2)]) (i_any (d_var 0)) (by kernel_rfl) (o_name 2) (c_nil) (d_call T.d_is_between (fun _ => ok_is_between T) (a_cons (d_var 2) (a_cons (d_int) (a_cons (d_sub (d_var 1) (d_int)) (a_nil)))))) (a_nil))))))
theorem sc_is_lot : FnScope ["value", "many"] ["value"] (defScope s_is_lot) := ⟨rfl, rfl, rfl, by decide +kernel, rfl, by decide +kernel, by decide +kernel⟩
theorem ok_is_lot (T : Tx K mg) : FnG Pr w K mg base 3 T.a_is_lot T.f_is_lot ["value"] (spD K 1 g_is_lot) := fn_ok (k := 2) (P := []) T.d_is_lot.fn sc_is_lot (
  ss_cons (s_if ((w_or (t_not (t_val (d_isi (d_var 0) (fun _ => T.n_isinstance) (fun _ => T.n_tuple) bl_tuple))) (w_or1 (t_not (t_chainLeLe (d_glob (v := .int 2) (d := .int 2) (fun _ => T.c_LEAST_SIGNS) ⟨_, rfl⟩ (fun _ => .int _)) (b_len (fun _ => T.n_len) (a_cons (d_var 0) (a_nil))) (d_glob (v := .int 6) (d := .int 6) (fun _ => T.c_MOST_SIGNS_TOLD) ⟨_, rfl⟩ (fun _ => .int _)))))).pt) (ss_one (s_ret (d_bl))) (ss_nil))
  (ss_one (s_ret (d_and (b_all (fun _ => T.n_all) (a_cons (d_lc (own := [("many", 1)]) (i_any (d_var 0)) (by kernel_rfl) (o_name 1) (c_nil) (d_call T.d_is_between (fun _ => ok_is_between T) (a_cons (d_var 1) (a_cons (d_int) (a_cons (d_glob (v := .int 40) (d := .int 40) (fun _ => T.c_MOST_IN_LOT) ⟨_, rfl⟩ (fun _ => .int _)) (a_nil)))))) (a_nil))) (d_one (d_le (b_sum (fun _ => T.n_sum) (a_cons (d_var 0) (a_nil))) (d_glob (v := .int 40) (d := .int 40) (fun _ => T.c_MOST_IN_LOT) ⟨_, rfl⟩ (fun _ => .int _))))))))
theorem sc_checked_lot : FnScope ["lot"] ["lot"] (defScope s_checked_lot) := ⟨rfl, rfl, rfl, by decide +kernel, rfl, by decide +kernel, by decide +kernel⟩
theorem ok_checked_lot (T : Tx K mg) : FnG Pr w K mg base 4 T.a_checked_lot T.f_checked_lot ["lot"] (spD K 1 g_checked_lot) := fn_ok (k := 3) (P := []) T.d_checked_lot.fn sc_checked_lot (
  ss_one (s_if (t_not (t_val (d_call T.d_is_lot (fun _ => ok_is_lot T) (a_cons (d_var 0) (a_nil))))) (ss_one (s_no)) (ss_nil)))
theorem sc_is_short_row : FnScope ["value", "signs"] ["value", "signs"] (defScope s_is_short_row) := ⟨rfl, rfl, rfl, by decide +kernel, rfl, by decide +kernel, by decide +kernel⟩
theorem ok_is_short_row (T : Tx K mg) : FnG Pr w K mg base 4 T.a_is_short_row T.f_is_short_row ["value", "signs"] (spD K 2 g_is_short_row) := fn_ok (k := 3) (P := []) T.d_is_short_row.fn sc_is_short_row (
  ss_one (s_ret (d_and (d_call T.d_is_row_of (fun _ => ok_is_row_of T) (a_cons (d_var 0) (a_cons (d_var 1) (a_nil)))) (d_one (d_le (b_len (fun _ => T.n_len) (a_cons (d_var 0) (a_nil))) (d_glob (v := .int 40) (d := .int 40) (fun _ => T.c_MOST_IN_LOT) ⟨_, rfl⟩ (fun _ => .int _)))))))
theorem sc_lot_in : FnScope ["row", "signs", "sign"] ["row", "signs"] (defScope s_lot_in) := ⟨rfl, rfl, rfl, by decide +kernel, rfl, by decide +kernel, by decide +kernel⟩
theorem ok_lot_in (T : Tx K mg) : FnG Pr w K mg base 1 T.a_lot_in T.f_lot_in ["row", "signs"] (spD K 2 g_lot_in) := fn_ok (k := 0) (P := []) T.d_lot_in.fn sc_lot_in (
  ss_one (s_ret (b_tuple (fun _ => T.n_tuple) (a_cons (d_lc (own := [("sign", 2)]) (i_rg1 (fun _ => T.n_range) (a_cons (d_var 1) (a_nil))) (by kernel_rfl) (o_name 2) (c_nil) (d_count (d_var 0) (d_var 2))) (a_nil)))))
theorem sc_lot_of : FnScope ["row", "signs"] ["row", "signs"] (defScope s_lot_of) := ⟨rfl, rfl, rfl, by decide +kernel, rfl, by decide +kernel, by decide +kernel⟩
theorem ok_lot_of (T : Tx K mg) : FnG Pr w K mg base 5 T.a_lot_of T.f_lot_of ["row", "signs"] (spD K 2 g_lot_of) := fn_ok (k := 4) (P := []) T.d_lot_of.fn sc_lot_of (
  ss_cons (s_expr (d_call T.d_checked_signs (fun _ => ok_checked_signs T) (a_cons (d_var 1) (a_nil))))
  (ss_cons (s_if (t_not (t_val (d_call T.d_is_short_row (fun _ => ok_is_short_row T) (a_cons (d_var 0) (a_cons (d_var 1) (a_nil)))))) (ss_one (s_no)) (ss_nil))
  (ss_one (s_ret (d_call T.d_lot_in (fun _ => ok_lot_in T) (a_cons (d_var 0) (a_cons (d_var 1) (a_nil))))))))
theorem sc_choices_of : FnScope ["many", "some", "found", "at"] ["many", "some"] (defScope s_choices_of) := ⟨rfl, rfl, rfl, by decide +kernel, rfl, by decide +kernel, by decide +kernel⟩
theorem ok_choices_of (T : Tx K mg) : FnG Pr w K mg base 1 T.a_choices_of T.f_choices_of ["many", "some"] (spD K 2 g_choices_of) := fn_ok (k := 0) (P := []) T.d_choices_of.fn sc_choices_of (
  ss_cons (s_set 2 (d_int))
  (ss_cons (s_for (i_rg1 (fun _ => T.n_range) (a_cons (d_var 1) (a_nil))) (g_name 3) (ss_one (s_set 2 (d_div (d_mul (d_var 2) (d_sub (d_var 0) (d_var 3))) (d_add (d_var 3) (d_int))))))
  (ss_one (s_ret (d_var 2)))))
theorem sc_many_orders : FnScope ["lot", "found", "every", "many"] ["lot"] (defScope s_many_orders) := ⟨rfl, rfl, rfl, by decide +kernel, rfl, by decide +kernel, by decide +kernel⟩
theorem ok_many_orders (T : Tx K mg) : FnG Pr w K mg base 2 T.a_many_orders T.f_many_orders ["lot"] (spD K 1 g_many_orders) := fn_ok (k := 1) (P := []) T.d_many_orders.fn sc_many_orders (
  ss_cons (s_asg (d_tup (a_cons (d_int) (a_cons (d_int) (a_nil)))) (g_tup 2 (gs_cons (g_name 1) (gs_cons (g_name 2) (gs_nil)))))
  (ss_cons (s_for (i_any (d_var 0)) (g_name 3) (ss_cons (s_set 2 (d_add (d_var 2) (d_var 3)))
  (ss_one (s_set 1 (d_mul (d_var 1) (d_call T.d_choices_of (fun _ => ok_choices_of T) (a_cons (d_var 2) (a_cons (d_var 3) (a_nil)))))))))
  (ss_one (s_ret (d_var 1)))))
theorem sc_orders_of : FnScope ["lot"] ["lot"] (defScope s_orders_of) := ⟨rfl, rfl, rfl, by decide +kernel, rfl, by decide +kernel, by decide +kernel⟩
theorem ok_orders_of (T : Tx K mg) : FnG Pr w K mg base 5 T.a_orders_of T.f_orders_of ["lot"] (spD K 1 g_orders_of) := fn_ok (k := 4) (P := []) T.d_orders_of.fn sc_orders_of (
  ss_cons (s_expr (d_call T.d_checked_lot (fun _ => ok_checked_lot T) (a_cons (d_var 0) (a_nil))))
  (ss_one (s_ret (d_call T.d_many_orders (fun _ => ok_many_orders T) (a_cons (d_var 0) (a_nil))))))
theorem sc_less_one : FnScope ["lot", "sign"] ["lot", "sign"] (defScope s_less_one) := ⟨rfl, rfl, rfl, by decide +kernel, rfl, by decide +kernel, by decide +kernel⟩
theorem ok_less_one (T : Tx K mg) : FnG Pr w K mg base 1 T.a_less_one T.f_less_one ["lot", "sign"] (spD K 2 g_less_one) := fn_ok (k := 0) (P := []) T.d_less_one.fn sc_less_one (
  ss_one (s_ret (d_tup (a_st (d_slice (d_var 0) p_none (p_some (d_var 1))) (a_cons (d_sub (d_ixG 0 (d_var 1)) (d_int)) (a_st (d_slice (d_var 0) (p_some (d_add (d_var 1) (d_int))) p_none) (a_nil)))))))
theorem sc_next_sign : FnScope ["left", "number", "sign", "many", "times"] ["left", "number"] (defScope s_next_sign) := ⟨rfl, rfl, rfl, by decide +kernel, rfl, by decide +kernel, by decide +kernel⟩
theorem ok_next_sign (T : Tx K mg) : FnG Pr w K mg base 3 T.a_next_sign T.f_next_sign ["left", "number"] (spD K 2 g_next_sign) := fn_ok (k := 2) (P := []) T.d_next_sign.fn sc_next_sign (
  ss_cons (s_for (i_enum (fun _ => T.n_enumerate) (a_cons (d_var 0) (a_nil))) (g_tup 2 (gs_cons (g_name 2) (gs_cons (g_name 3) (gs_nil)))) (ss_cons (s_set 4 (d_if (t_gt (d_var 3) (d_int)) (d_call T.d_many_orders (fun _ => ok_many_orders T) (a_cons (d_call T.d_less_one (fun _ => ok_less_one T) (a_cons (d_var 0) (a_cons (d_var 2) (a_nil)))) (a_nil))) (d_int)))
  (ss_cons (s_if (t_lt (d_var 1) (d_var 4)) (ss_one (s_ret (d_tup (a_cons (d_var 2) (a_cons (d_var 1) (a_nil)))))) (ss_nil))
  (ss_one (s_set 1 (d_sub (d_var 1) (d_var 4)))))))
  (ss_one (s_ret (d_tup (a_cons (d_non) (a_cons (d_var 1) (a_nil)))))))
theorem sc_order_at : FnScope ["lot", "number", "left", "found", "lap", "sign"] ["lot", "number"] (defScope s_order_at) := ⟨rfl, rfl, rfl, by decide +kernel, rfl, by decide +kernel, by decide +kernel⟩
theorem ok_order_at (T : Tx K mg) : FnG Pr w K mg base 5 T.a_order_at T.f_order_at ["lot", "number"] (spD K 2 g_order_at) := fn_ok (k := 4) (P := []) T.d_order_at.fn sc_order_at (
  ss_cons (s_expr (d_call T.d_checked_lot (fun _ => ok_checked_lot T) (a_cons (d_var 0) (a_nil))))
  (ss_cons (s_if (t_not (t_val (d_call T.d_is_between (fun _ => ok_is_between T) (a_cons (d_var 1) (a_cons (d_int) (a_cons (d_sub (d_call T.d_many_orders (fun _ => ok_many_orders T) (a_cons (d_var 0) (a_nil))) (d_int)) (a_nil))))))) (ss_one (s_no)) (ss_nil))
  (ss_cons (s_parV 2 3 (v_cons (d_var 0) (v_cons (d_lst (a_nil)) (v_nil))))
  (ss_cons (s_for (i_rg1 (fun _ => T.n_range) (a_cons (b_sum (fun _ => T.n_sum) (a_cons (d_var 0) (a_nil))) (a_nil))) (g_name 4) (ss_cons (s_asg (d_call T.d_next_sign (fun _ => ok_next_sign T) (a_cons (d_var 2) (a_cons (d_var 1) (a_nil)))) (g_tup 2 (gs_cons (g_name 5) (gs_cons (g_name 1) (gs_nil)))))
  (ss_cons (s_app 3 (d_var 5))
  (ss_one (s_set 2 (d_call T.d_less_one (fun _ => ok_less_one T) (a_cons (d_var 2) (a_cons (d_var 5) (a_nil)))))))))
  (ss_one (s_ret (b_tuple (fun _ => T.n_tuple) (a_cons (d_var 3) (a_nil)))))))))
theorem sc_place_of : FnScope ["row", "signs", "left", "found", "sign", "its"] ["row", "signs"] (defScope s_place_of) := ⟨rfl, rfl, rfl, by decide +kernel, rfl, by decide +kernel, by decide +kernel⟩
theorem ok_place_of (T : Tx K mg) : FnG Pr w K mg base 6 T.a_place_of T.f_place_of ["row", "signs"] (spD K 2 g_place_of) := fn_ok (k := 5) (P := []) T.d_place_of.fn sc_place_of (
  ss_cons (s_asg (d_tup (a_cons (d_call T.d_lot_of (fun _ => ok_lot_of T) (a_cons (d_var 0) (a_cons (d_var 1) (a_nil)))) (a_cons (d_int) (a_nil)))) (g_tup 2 (gs_cons (g_name 2) (gs_cons (g_name 3) (gs_nil)))))
  (ss_cons (s_for (i_any (d_var 0)) (g_name 4) (ss_cons (s_set 3 (d_add (d_var 3) (b_sum (fun _ => T.n_sum) (a_cons (d_lc (own := [("its", 5)]) (i_rg1 (fun _ => T.n_range) (a_cons (d_var 4) (a_nil))) (by kernel_rfl) (o_name 5) (c_one (t_gt (d_ixG 2 (d_var 5)) (d_int))) (d_call T.d_many_orders (fun _ => ok_many_orders T) (a_cons (d_call T.d_less_one (fun _ => ok_less_one T) (a_cons (d_var 2) (a_cons (d_var 5) (a_nil)))) (a_nil)))) (a_nil)))))
  (ss_one (s_set 2 (d_call T.d_less_one (fun _ => ok_less_one T) (a_cons (d_var 2) (a_cons (d_var 4) (a_nil))))))))
  (ss_one (s_ret (d_var 3)))))
theorem sc__law_pot : FnScope ["script", "place", "cell", "own", "small"] ["script", "place"] (defScope s__law_pot) := ⟨rfl, rfl, rfl, by decide +kernel, rfl, by decide +kernel, by decide +kernel⟩
theorem ok__law_pot (T : Tx K mg) : FnG Pr w K mg base 1 T.a__law_pot T.f__law_pot ["script", "place"] (spD K 2 g__law_pot) := fn_ok (k := 0) (P := []) T.d__law_pot.fn sc__law_pot (
  ss_cons (s_set 2 (d_if (t_lt (d_var 1) (b_len (fun _ => T.n_len) (a_cons (d_var 0) (a_nil)))) (d_ixG 0 (d_var 1)) (d_add (d_mul (d_int) (d_var 1)) (d_int))))
  (ss_cons (s_set 3 (d_mul (d_mod (b_int (fun _ => T.n_int) (a_cons (b_abs (fun _ => T.n_abs) (a_cons (d_var 2) (a_nil))) (a_nil))) (d_pow (d_pow (d_int) (d_int)) (d_int))) (b_int (fun _ => T.n_int) (a_cons (d_ge (b_abs (fun _ => T.n_abs) (a_cons (d_var 2) (a_nil))) (d_pow (d_int) (d_int))) (a_nil)))))
  (ss_cons (s_set 4 (d_mod (b_int (fun _ => T.n_int) (a_cons (d_var 2) (a_nil))) (d_int)))
  (ss_one (s_ret (d_lst (a_cons (d_var 3) (a_cons (d_mod (b_int (fun _ => T.n_int) (a_cons (d_add (d_add (d_mul (d_var 4) (d_int)) (d_mul (d_mul (d_int) (d_var 1)) (d_var 1))) (d_int)) (a_nil))) (d_int)) (a_cons (d_int) (a_nil))))))))))
theorem sc__law_take : FnScope ["pot", "upto", "digit", "prime", "blend"] ["pot", "upto"] (defScope s__law_take) := ⟨rfl, rfl, rfl, by decide +kernel, rfl, by decide +kernel, by decide +kernel⟩
theorem ok__law_take (T : Tx K mg) : FnG Pr w K mg base 1 T.a__law_take T.f__law_take ["pot", "upto"] (spD K 2 g__law_take) := fn_ok (k := 0) (P := [0]) T.d__law_take.fn sc__law_take (
  ss_cons (s_if (t_gt (d_ixG 0 (d_int)) (d_int)) (ss_cons (s_set 2 (d_mod (b_int (fun _ => T.n_int) (a_cons (d_ixG 0 (d_int)) (a_nil))) (d_var 1)))
  (ss_cons (s_setIx 0 (d_div (d_ixG 0 (d_int)) (d_var 1)) (d_int))
  (ss_one (s_ret (d_var 2))))) (ss_nil))
  (ss_cons (s_setIx 0 (d_add (d_ixG 0 (d_int)) (d_int)) (d_int))
  (ss_cons (s_set 3 (d_item (d_lst (a_cons (d_int) (a_cons (d_int) (a_cons (d_int) (a_cons (d_int) (a_cons (d_int) (a_nil))))))) (d_mod (b_int (fun _ => T.n_int) (a_cons (d_ixG 0 (d_int)) (a_nil))) (d_int))))
  (ss_cons (s_set 4 (d_mod (b_int (fun _ => T.n_int) (a_cons (d_pow (b_int (fun _ => T.n_int) (a_cons (d_add (d_add (d_ixG 0 (d_int)) (d_mul (d_mul (d_int) (d_ixG 0 (d_int))) (d_ixG 0 (d_int)))) (d_int)) (a_nil))) (d_int)) (a_nil))) (d_var 3)))
  (ss_cons (s_set 4 (d_mod (b_int (fun _ => T.n_int) (a_cons (d_mul (d_var 4) (d_add (d_mod (b_int (fun _ => T.n_int) (a_cons (d_var 4) (a_nil))) (d_int)) (d_mul (d_int) (d_ixG 0 (d_int))))) (a_nil))) (d_int)))
  (ss_one (s_ret (d_mod (b_int (fun _ => T.n_int) (a_cons (d_div (d_var 4) (d_int)) (a_nil))) (d_var 1)))))))))
theorem sc__law_of : FnScope ["pot", "some"] ["pot", "some"] (defScope s__law_of) := ⟨rfl, rfl, rfl, by decide +kernel, rfl, by decide +kernel, by decide +kernel⟩
theorem ok__law_of (T : Tx K mg) : FnG Pr w K mg base 2 T.a__law_of T.f__law_of ["pot", "some"] (spD K 2 g__law_of) := fn_ok (k := 1) (P := [0]) T.d__law_of.fn sc__law_of (
  ss_one (s_ret (d_ixG 1 (d_call T.d__law_take (fun _ => ok__law_take T) (a_mv 0 (a_cons (b_len (fun _ => T.n_len) (a_cons (d_var 1) (a_nil))) (a_nil)))))))
theorem sc__law_cells : FnScope ["script", "most"] ["script", "most"] (defScope s__law_cells) := ⟨rfl, rfl, rfl, by decide +kernel, rfl, by decide +kernel, by decide +kernel⟩
theorem ok__law_cells (T : Tx K mg) : FnG Pr w K mg base 1 T.a__law_cells T.f__law_cells ["script", "most"] (spD K 2 g__law_cells) := fn_ok (k := 0) (P := []) T.d__law_cells.fn sc__law_cells (
  ss_one (s_ret (d_listRg (fun _ => T.n_list) (fun _ => T.n_range) (b_max (fun _ => T.n_max) (a_cons (d_int) (a_cons (b_min (fun _ => T.n_min) (a_cons (d_var 1) (a_cons (b_len (fun _ => T.n_len) (a_cons (d_var 0) (a_nil))) (a_nil)))) (a_nil)))))))
theorem sc__law_lot : FnScope ["row", "signs", "sign"] ["row", "signs"] (defScope s__law_lot) := ⟨rfl, rfl, rfl, by decide +kernel, rfl, by decide +kernel, by decide +kernel⟩
theorem ok__law_lot (T : Tx K mg) : FnG Pr w K mg base 1 T.a__law_lot T.f__law_lot ["row", "signs"] (spD K 2 g__law_lot) := fn_ok (k := 0) (P := []) T.d__law_lot.fn sc__law_lot (
  ss_one (s_ret (b_tuple (fun _ => T.n_tuple) (a_cons (d_lc (own := [("sign", 2)]) (i_rg1 (fun _ => T.n_range) (a_cons (d_var 1) (a_nil))) (by kernel_rfl) (o_name 2) (c_nil) (d_count (d_var 0) (d_var 2))) (a_nil)))))
theorem sc__law_drawn_lot : FnScope ["pot", "signs", "most", "found", "left", "sign"] ["pot", "signs", "most"] (defScope s__law_drawn_lot) := ⟨rfl, rfl, rfl, by decide +kernel, rfl, by decide +kernel, by decide +kernel⟩
theorem ok__law_drawn_lot (T : Tx K mg) : FnG Pr w K mg base 2 T.a__law_drawn_lot T.f__law_drawn_lot ["pot", "signs", "most"] (spD K 3 g__law_drawn_lot) := fn_ok (k := 1) (P := [0]) T.d__law_drawn_lot.fn sc__law_drawn_lot (
  ss_cons (s_parV 3 4 (v_cons (d_lst (a_nil)) (v_cons (d_var 2) (v_nil))))
  (ss_cons (s_for (i_rg1 (fun _ => T.n_range) (a_cons (d_var 1) (a_nil))) (g_name 5) (ss_cons (s_app 3 (b_int (fun _ => T.n_int) (a_cons (b_min (fun _ => T.n_min) (a_cons (d_var 4) (a_cons (d_call T.d__law_take (fun _ => ok__law_take T) (a_mv 0 (a_cons (d_int) (a_nil)))) (a_nil)))) (a_nil))))
  (ss_one (s_set 4 (d_sub (d_var 4) (d_ixG 3 (d_neg (d_int))))))))
  (ss_one (s_ret (b_tuple (fun _ => T.n_tuple) (a_cons (d_var 3) (a_nil)))))))
theorem sc__law_all_orders : FnScope ["lot", "found", "lap", "longer", "row", "sign"] ["lot"] (defScope s__law_all_orders) := ⟨rfl, rfl, rfl, by decide +kernel, rfl, by decide +kernel, by decide +kernel⟩
theorem ok__law_all_orders (T : Tx K mg) : FnG Pr w K mg base 1 T.a__law_all_orders T.f__law_all_orders ["lot"] (spD K 1 g__law_all_orders) := fn_ok (k := 0) (P := []) T.d__law_all_orders.fn sc__law_all_orders (
  ss_cons (s_set 1 (d_lst (a_cons (d_tup (a_nil)) (a_nil))))
  (ss_cons (s_for (i_rg1 (fun _ => T.n_range) (a_cons (b_sum (fun _ => T.n_sum) (a_cons (d_var 0) (a_nil))) (a_nil))) (g_name 2) (ss_cons (s_set 3 (d_lst (a_nil)))
  (ss_cons (s_for (i_any (d_var 1)) (g_name 4) (ss_one (s_ext 3 (d_lc (own := [("sign", 5)]) (i_rg1 (fun _ => T.n_range) (a_cons (b_len (fun _ => T.n_len) (a_cons (d_var 0) (a_nil))) (a_nil))) (by kernel_rfl) (o_name 5) (c_one (t_lt (d_count (d_var 4) (d_var 5)) (d_ixG 0 (d_var 5)))) (d_add (d_var 4) (d_tup (a_cons (b_int (fun _ => T.n_int) (a_cons (d_var 5) (a_nil))) (a_nil))))))))
  (ss_one (s_set 1 (d_var 3))))))
  (ss_one (s_ret (d_var 1)))))
theorem sc__law_many : FnScope ["lot", "top", "low", "at", "many"] ["lot"] (defScope s__law_many) := ⟨rfl, rfl, rfl, by decide +kernel, rfl, by decide +kernel, by decide +kernel⟩
theorem ok__law_many (T : Tx K mg) : FnG Pr w K mg base 1 T.a__law_many T.f__law_many ["lot"] (spD K 1 g__law_many) := fn_ok (k := 0) (P := []) T.d__law_many.fn sc__law_many (
  ss_cons (s_asg (d_tup (a_cons (d_int) (a_cons (d_int) (a_nil)))) (g_tup 2 (gs_cons (g_name 1) (gs_cons (g_name 2) (gs_nil)))))
  (ss_cons (s_for (i_rg1 (fun _ => T.n_range) (a_cons (b_sum (fun _ => T.n_sum) (a_cons (d_var 0) (a_nil))) (a_nil))) (g_name 3) (ss_one (s_set 1 (d_mul (d_var 1) (d_add (d_var 3) (d_int))))))
  (ss_cons (s_for (i_any (d_var 0)) (g_name 4) (ss_one (s_for (i_rg1 (fun _ => T.n_range) (a_cons (d_var 4) (a_nil))) (g_name 3) (ss_one (s_set 2 (d_mul (d_var 2) (d_add (d_var 3) (d_int))))))))
  (ss_one (s_ret (b_int (fun _ => T.n_int) (a_cons (d_div (d_var 1) (d_var 2)) (a_nil))))))))
theorem sc__law_next : FnScope ["row", "at", "some", "found", "to"] ["row"] (defScope s__law_next) := ⟨rfl, rfl, rfl, by decide +kernel, rfl, by decide +kernel, by decide +kernel⟩
theorem ok__law_next (T : Tx K mg) : FnG Pr w K mg base 1 T.a__law_next T.f__law_next ["row"] (spD K 1 g__law_next) := fn_ok (k := 0) (P := []) T.d__law_next.fn sc__law_next (
  ss_cons (s_for (i_rgDn (fun _ => T.n_range) (a_cons (d_sub (b_len (fun _ => T.n_len) (a_cons (d_var 0) (a_nil))) (d_int)) (a_cons (d_neg (d_int)) (a_cons (d_neg (d_int)) (a_nil))))) (g_name 1) (ss_one (s_if (t_lt (d_ixG 0 (d_var 1)) (d_ixG 0 (d_add (d_var 1) (d_int)))) (ss_cons (s_setLc 2 (own := [("to", 4)]) (i_rg2 (fun _ => T.n_range) (a_cons (d_add (d_var 1) (d_int)) (a_cons (b_len (fun _ => T.n_len) (a_cons (d_var 0) (a_nil))) (a_nil)))) (by kernel_rfl) (o_name 4) (c_one (t_gt (d_ixG 0 (d_var 4)) (d_ixG 0 (d_var 1)))) (d_var 4))
  (ss_cons (s_set 3 (b_list (fun _ => T.n_list) (a_cons (d_var 0) (a_nil))))
  (ss_cons (s_asg (d_tup (a_cons (d_ixG 3 (d_ixG 2 (d_neg (d_int)))) (a_cons (d_ixG 3 (d_var 1)) (a_nil)))) (g_tup 2 (gs_cons (g_sub 3 (d_var 1)) (gs_cons (g_sub 3 (d_ixG 2 (d_neg (d_int)))) (gs_nil)))))
  (ss_one (s_ret (b_tuple (fun _ => T.n_tuple) (a_cons (d_add (d_slice (d_var 3) p_none (p_some (d_add (d_var 1) (d_int)))) (d_rev (d_slice (d_var 3) (p_some (d_add (d_var 1) (d_int))) p_none))) (a_nil)))))))) (ss_nil))))
  (ss_one (s_ret (d_non))))
theorem sc__law_is_small_right : FnScope ["pot", "signs", "lot", "rows", "lap", "number", "row"] ["pot"] (defScope s__law_is_small_right) := ⟨rfl, rfl, rfl, by decide +kernel, rfl, by decide +kernel, by decide +kernel⟩
theorem ok__law_is_small_right (T : Tx K mg) : FnG Pr w K mg base 7 T.a__law_is_small_right T.f__law_is_small_right ["pot"] (spD K 1 g__law_is_small_right) := fn_ok (k := 6) (P := [0]) T.d__law_is_small_right.fn sc__law_is_small_right (
  ss_cons (s_set 1 (d_add (d_int) (d_call T.d__law_take (fun _ => ok__law_take T) (a_mv 0 (a_cons (d_int) (a_nil))))))
  (ss_cons (s_set 2 (d_call T.d__law_drawn_lot (fun _ => ok__law_drawn_lot T) (a_mv 0 (a_cons (d_var 1) (a_cons (d_int) (a_nil))))))
  (ss_cons (s_set 3 (d_call T.d__law_all_orders (fun _ => ok__law_all_orders T) (a_cons (d_var 2) (a_nil))))
  (ss_cons (s_if (t_ne (b_repr (fun _ => T.n_repr) (a_cons (d_callK T.d_orders_of (fun _ => ok_orders_of T) (k_cons (d_var 2) (k_nil)) T.k_orders_of) (a_nil))) (b_repr (fun _ => T.n_repr) (a_cons (b_len (fun _ => T.n_len) (a_cons (d_var 3) (a_nil))) (a_nil)))) (ss_one (s_ret (d_bl))) (ss_nil))
  (ss_cons (s_for (i_rg1 (fun _ => T.n_range) (a_cons (d_int) (a_nil))) (g_name 4) (ss_cons (s_set 5 (b_int (fun _ => T.n_int) (a_cons (d_call T.d__law_take (fun _ => ok__law_take T) (a_mv 0 (a_cons (b_len (fun _ => T.n_len) (a_cons (d_var 3) (a_nil))) (a_nil)))) (a_nil))))
  (ss_cons (s_if (t_ne (b_repr (fun _ => T.n_repr) (a_cons (d_callK T.d_order_at (fun _ => ok_order_at T) (k_cons (d_var 2) (k_cons (d_var 5) (k_nil))) T.k_order_at) (a_nil))) (b_repr (fun _ => T.n_repr) (a_cons (d_ixG 3 (d_var 5)) (a_nil)))) (ss_one (s_ret (d_bl))) (ss_nil))
  (ss_cons (s_set 6 (d_ixG 3 (d_var 5)))
  (ss_one (s_if (t_ne (b_repr (fun _ => T.n_repr) (a_cons (d_lst (a_cons (d_callK T.d_place_of (fun _ => ok_place_of T) (k_cons (d_var 6) (k_cons (d_var 1) (k_nil))) T.k_place_of) (a_cons (d_callK T.d_lot_of (fun _ => ok_lot_of T) (k_cons (d_var 6) (k_cons (d_var 1) (k_nil))) T.k_lot_of) (a_nil)))) (a_nil))) (b_repr (fun _ => T.n_repr) (a_cons (d_lst (a_cons (d_var 5) (a_cons (d_var 2) (a_nil)))) (a_nil)))) (ss_one (s_ret (d_bl))) (ss_nil)))))))
  (ss_one (s_ret (d_bl))))))))
theorem sc__law_is_great_right : FnScope ["pot", "signs", "row", "lot", "number", "ends", "later", "lap"] ["pot"] (defScope s__law_is_great_right) := ⟨rfl, rfl, rfl, by decide +kernel, rfl, by decide +kernel, by decide +kernel⟩
theorem ok__law_is_great_right (T : Tx K mg) : FnG Pr w K mg base 7 T.a__law_is_great_right T.f__law_is_great_right ["pot"] (spD K 1 g__law_is_great_right) := fn_ok (k := 6) (P := [0]) T.d__law_is_great_right.fn sc__law_is_great_right (
  ss_cons (s_set 1 (d_add (d_int) (d_call T.d__law_take (fun _ => ok__law_take T) (a_mv 0 (a_cons (d_int) (a_nil))))))
  (ss_cons (s_set 2 (b_tuple (fun _ => T.n_tuple) (a_cons (d_lc (own := [("lap", 7)]) (i_rg1 (fun _ => T.n_range) (a_cons (d_call T.d__law_of (fun _ => ok__law_of T) (a_mv 0 (a_cons (d_lst (a_cons (d_int) (a_cons (d_int) (a_cons (d_int) (a_cons (d_call T.d__law_take (fun _ => ok__law_take T) (a_mv 0 (a_cons (d_int) (a_nil)))) (a_nil)))))) (a_nil)))) (a_nil))) (by kernel_rfl) (o_name 7) (c_nil) (b_int (fun _ => T.n_int) (a_cons (d_call T.d__law_take (fun _ => ok__law_take T) (a_mv 0 (a_cons (d_var 1) (a_nil)))) (a_nil)))) (a_nil))))
  (ss_cons (s_parV 3 4 (v_cons (d_call T.d__law_lot (fun _ => ok__law_lot T) (a_cons (d_var 2) (a_cons (d_var 1) (a_nil)))) (v_cons (d_call T.d_place_of (fun _ => ok_place_of T) (a_cons (d_var 2) (a_cons (d_var 1) (a_nil)))) (v_nil))))
  (ss_cons (s_if ((w_or (t_ne (b_repr (fun _ => T.n_repr) (a_cons (d_call T.d_lot_of (fun _ => ok_lot_of T) (a_cons (d_var 2) (a_cons (d_var 1) (a_nil)))) (a_nil))) (b_repr (fun _ => T.n_repr) (a_cons (d_var 3) (a_nil)))) (w_or1 (t_ne (b_repr (fun _ => T.n_repr) (a_cons (d_call T.d_orders_of (fun _ => ok_orders_of T) (a_cons (d_var 3) (a_nil))) (a_nil))) (b_repr (fun _ => T.n_repr) (a_cons (d_call T.d__law_many (fun _ => ok__law_many T) (a_cons (d_var 3) (a_nil))) (a_nil)))))).pt) (ss_one (s_ret (d_bl))) (ss_nil))
  (ss_cons (s_if ((w_or (t_not (t_chainLeLt (d_int) (d_var 4) (d_call T.d__law_many (fun _ => ok__law_many T) (a_cons (d_var 3) (a_nil))))) (w_or1 (t_ne (b_repr (fun _ => T.n_repr) (a_cons (d_call T.d_order_at (fun _ => ok_order_at T) (a_cons (d_var 3) (a_cons (d_var 4) (a_nil)))) (a_nil))) (b_repr (fun _ => T.n_repr) (a_cons (d_var 2) (a_nil)))))).pt) (ss_one (s_ret (d_bl))) (ss_nil))
  (ss_cons (s_set 5 (d_lst (a_cons (b_tuple (fun _ => T.n_tuple) (a_cons (b_sorted (fun _ => T.n_sorted) (a_cons (d_var 2) (a_nil))) (a_nil))) (a_cons (d_rev (b_tuple (fun _ => T.n_tuple) (a_cons (b_sorted (fun _ => T.n_sorted) (a_cons (d_var 2) (a_nil))) (a_nil)))) (a_nil)))))
  (ss_cons (s_if (t_ne (b_repr (fun _ => T.n_repr) (a_cons (d_lst (a_cons (d_call T.d_order_at (fun _ => ok_order_at T) (a_cons (d_var 3) (a_cons (d_int) (a_nil)))) (a_cons (d_call T.d_order_at (fun _ => ok_order_at T) (a_cons (d_var 3) (a_cons (d_sub (d_call T.d__law_many (fun _ => ok__law_many T) (a_cons (d_var 3) (a_nil))) (d_int)) (a_nil)))) (a_nil)))) (a_nil))) (b_repr (fun _ => T.n_repr) (a_cons (d_var 5) (a_nil)))) (ss_one (s_ret (d_bl))) (ss_nil))
  (ss_cons (s_set 6 (d_call T.d__law_next (fun _ => ok__law_next T) (a_cons (d_var 2) (a_nil))))
  (ss_one (s_ret (d_or (d_and (d_isN (d_var 6) (d_non)) (d_one (d_eq (d_var 4) (d_sub (d_call T.d__law_many (fun _ => ok__law_many T) (a_cons (d_var 3) (a_nil))) (d_int))))) (d_one (d_and (d_notN (d_var 6) (d_non)) (d_one (d_eq (d_call T.d_place_of (fun _ => ok_place_of T) (a_cons (d_var 6) (a_cons (d_var 1) (a_nil)))) (d_add (d_var 4) (d_int)))))))))))))))))
theorem sc__law_right : FnScope ["pot"] ["pot"] (defScope s__law_right) := ⟨rfl, rfl, rfl, by decide +kernel, rfl, by decide +kernel, by decide +kernel⟩
theorem ok__law_right (T : Tx K mg) : FnG Pr w K mg base 8 T.a__law_right T.f__law_right ["pot"] (spD K 1 g__law_right) := fn_ok (k := 7) (P := [0]) T.d__law_right.fn sc__law_right (
  ss_one (s_ret (d_and (d_call T.d__law_is_small_right (fun _ => ok__law_is_small_right T) (a_mv 0 (a_nil))) (d_one (d_call T.d__law_is_great_right (fun _ => ok__law_is_great_right T) (a_mv 0 (a_nil)))))))
theorem sc_law : FnScope ["script", "place", "pot", "lap"] ["script"] (defScope s_law) := ⟨rfl, rfl, rfl, by decide +kernel, rfl, by decide +kernel, by decide +kernel⟩
theorem ok_law (T : Tx K mg) : FnG Pr w K mg base 9 T.a_law T.f_law ["script"] (spD K 1 g_law) := fn_ok (k := 8) (P := []) T.d_law.fn sc_law (
  ss_cons (s_for (i_any (d_call T.d__law_cells (fun _ => ok__law_cells T) (a_cons (d_var 0) (a_cons (d_int) (a_nil))))) (g_name 1) (ss_cons (s_set 2 (d_call T.d__law_pot (fun _ => ok__law_pot T) (a_cons (d_var 0) (a_cons (d_var 1) (a_nil)))))
  (ss_one (s_if (t_not (t_val (b_all (fun _ => T.n_all) (a_cons (d_lc (own := [("lap", 3)]) (i_rg1 (fun _ => T.n_range) (a_cons (d_int) (a_nil))) (by kernel_rfl) (o_name 3) (c_nil) (d_call T.d__law_right (fun _ => ok__law_right T) (a_mv 2 (a_nil)))) (a_nil))))) (ss_one (s_ret (d_bl))) (ss_nil)))))
  (ss_one (s_ret (d_bl))))
end
/-! ### the facts, the end -/
theorem all_mk {l : PySem.W.OpenLaw} {w : World} {K : PySem.W.Frag} {h : Heap} {mg : Str → Option Value} {fa : Addr} (X : K.In h) (G : h.Ns mainGlobals mg) (hfa : mg "law" = some (.ref fa))
    {x0 x1 x2 x3 x4 x5 x6 x7 x8 x9 x10 x11 x12 x13 x14 x15 x16 x17 x18 x19 x20 x21 x22 x23 x24 x25 x26 x27 x28 : Addr} {od0 an0 od1 an1 od2 an2 od3 an3 od4 an4 od5 an5 od6 an6 od7 an7 od8 an8 od9 an9 od10 an10 od11 an11 od12 an12 od13 an13 od14 an14 od15 an15 od16 an16 od17 an17 od18 an18 od19 an19 od20 an20 od21 an21 od22 an22 od23 an23 od24 an24 od25 an25 od26 an26 od27 an27 od28 an28 : Option Addr} {sl0 sl1 sl2 sl3 sl4 sl5 sl6 sl7 sl8 sl9 sl10 sl11 sl12 sl13 sl14 sl15 sl16 sl17 sl18 sl19 sl20 sl21 sl22 sl23 sl24 sl25 sl26 sl27 sl28 : Array (Option Value)} {oc0 kV0 dc0 pm0 cd0 ct0 oc1 kV1 dc1 pm1 cd1 ct1 oc2 kV2 dc2 pm2 cd2 ct2 oc3 kV3 dc3 pm3 cd3 ct3 oc4 kV4 dc4 pm4 cd4 ct4 oc5 kV5 dc5 pm5 cd5 ct5 oc6 kV6 dc6 pm6 cd6 ct6 oc7 kV7 dc7 pm7 cd7 ct7 oc8 kV8 dc8 pm8 cd8 ct8 oc9 kV9 dc9 pm9 cd9 ct9 oc10 kV10 dc10 pm10 cd10 ct10 oc11 kV11 dc11 pm11 cd11 ct11 oc12 kV12 dc12 pm12 cd12 ct12 oc13 kV13 dc13 pm13 cd13 ct13 oc14 kV14 dc14 pm14 cd14 ct14 oc15 kV15 dc15 pm15 cd15 ct15 oc16 kV16 dc16 pm16 cd16 ct16 oc17 kV17 dc17 pm17 cd17 ct17 oc18 kV18 dc18 pm18 cd18 ct18 oc19 kV19 dc19 pm19 cd19 ct19 oc20 kV20 dc20 pm20 cd20 ct20 oc21 kV21 dc21 pm21 cd21 ct21 oc22 kV22 dc22 pm22 cd22 ct22 oc23 kV23 dc23 pm23 cd23 ct23 oc24 kV24 dc24 pm24 cd24 ct24 oc25 kV25 dc25 pm25 cd25 ct25 oc26 kV26 dc26 pm26 cd26 ct26 oc27 kV27 dc27 pm27 cd27 ct27 oc28 kV28 dc28 pm28 cd28 ct28 : Value}
    {tk_LEAST_SIGNS tk_MOST_IN_LOT tk_MOST_READINGS tk_MOST_SIGNS_TOLD : Tok}
    (a0 : PySem.W.nsIn K mainGlobals "is_integer" = some (some (.ref x0))) (l0 : K.lookup x0 = some ⟨oc0, od0, .func (PySem.W.fnOf "is_integer" "is_integer" (defArgs s_is_integer) (defBody s_is_integer) (defScope s_is_integer) .none kV0 dc0 pm0 an0 cd0 ct0), sl0⟩) (c0 : PySem.W.codeIn K cd0 "is_integer" = true) (k0 : PySem.W.keepIn K (.ref x0) = true)
    (a1 : PySem.W.nsIn K mainGlobals "is_between" = some (some (.ref x1))) (l1 : K.lookup x1 = some ⟨oc1, od1, .func (PySem.W.fnOf "is_between" "is_between" (defArgs s_is_between) (defBody s_is_between) (defScope s_is_between) .none kV1 dc1 pm1 an1 cd1 ct1), sl1⟩) (c1 : PySem.W.codeIn K cd1 "is_between" = true) (k1 : PySem.W.keepIn K (.ref x1) = true)
    (a2 : PySem.W.nsIn K mainGlobals "checked_signs" = some (some (.ref x2))) (l2 : K.lookup x2 = some ⟨oc2, od2, .func (PySem.W.fnOf "checked_signs" "checked_signs" (defArgs s_checked_signs) (defBody s_checked_signs) (defScope s_checked_signs) .none kV2 dc2 pm2 an2 cd2 ct2), sl2⟩) (c2 : PySem.W.codeIn K cd2 "checked_signs" = true) (k2 : PySem.W.keepIn K (.ref x2) = true)
    (a3 : PySem.W.nsIn K mainGlobals "is_row_of" = some (some (.ref x3))) (l3 : K.lookup x3 = some ⟨oc3, od3, .func (PySem.W.fnOf "is_row_of" "is_row_of" (defArgs s_is_row_of) (defBody s_is_row_of) (defScope s_is_row_of) .none kV3 dc3 pm3 an3 cd3 ct3), sl3⟩) (c3 : PySem.W.codeIn K cd3 "is_row_of" = true) (k3 : PySem.W.keepIn K (.ref x3) = true)
    (a4 : PySem.W.nsIn K mainGlobals "is_lot" = some (some (.ref x4))) (l4 : K.lookup x4 = some ⟨oc4, od4, .func (PySem.W.fnOf "is_lot" "is_lot" (defArgs s_is_lot) (defBody s_is_lot) (defScope s_is_lot) .none kV4 dc4 pm4 an4 cd4 ct4), sl4⟩) (c4 : PySem.W.codeIn K cd4 "is_lot" = true) (k4 : PySem.W.keepIn K (.ref x4) = true)
    (a5 : PySem.W.nsIn K mainGlobals "checked_lot" = some (some (.ref x5))) (l5 : K.lookup x5 = some ⟨oc5, od5, .func (PySem.W.fnOf "checked_lot" "checked_lot" (defArgs s_checked_lot) (defBody s_checked_lot) (defScope s_checked_lot) .none kV5 dc5 pm5 an5 cd5 ct5), sl5⟩) (c5 : PySem.W.codeIn K cd5 "checked_lot" = true) (k5 : PySem.W.keepIn K (.ref x5) = true)
    (a6 : PySem.W.nsIn K mainGlobals "is_short_row" = some (some (.ref x6))) (l6 : K.lookup x6 = some ⟨oc6, od6, .func (PySem.W.fnOf "is_short_row" "is_short_row" (defArgs s_is_short_row) (defBody s_is_short_row) (defScope s_is_short_row) .none kV6 dc6 pm6 an6 cd6 ct6), sl6⟩) (c6 : PySem.W.codeIn K cd6 "is_short_row" = true) (k6 : PySem.W.keepIn K (.ref x6) = true)
    (a7 : PySem.W.nsIn K mainGlobals "lot_in" = some (some (.ref x7))) (l7 : K.lookup x7 = some ⟨oc7, od7, .func (PySem.W.fnOf "lot_in" "lot_in" (defArgs s_lot_in) (defBody s_lot_in) (defScope s_lot_in) .none kV7 dc7 pm7 an7 cd7 ct7), sl7⟩) (c7 : PySem.W.codeIn K cd7 "lot_in" = true) (k7 : PySem.W.keepIn K (.ref x7) = true)
    (a8 : PySem.W.nsIn K mainGlobals "lot_of" = some (some (.ref x8))) (l8 : K.lookup x8 = some ⟨oc8, od8, .func (PySem.W.fnOf "lot_of" "lot_of" (defArgs s_lot_of) (defBody s_lot_of) (defScope s_lot_of) .none kV8 dc8 pm8 an8 cd8 ct8), sl8⟩) (c8 : PySem.W.codeIn K cd8 "lot_of" = true) (k8 : PySem.W.keepIn K (.ref x8) = true)
    (a9 : PySem.W.nsIn K mainGlobals "choices_of" = some (some (.ref x9))) (l9 : K.lookup x9 = some ⟨oc9, od9, .func (PySem.W.fnOf "choices_of" "choices_of" (defArgs s_choices_of) (defBody s_choices_of) (defScope s_choices_of) .none kV9 dc9 pm9 an9 cd9 ct9), sl9⟩) (c9 : PySem.W.codeIn K cd9 "choices_of" = true) (k9 : PySem.W.keepIn K (.ref x9) = true)
    (a10 : PySem.W.nsIn K mainGlobals "many_orders" = some (some (.ref x10))) (l10 : K.lookup x10 = some ⟨oc10, od10, .func (PySem.W.fnOf "many_orders" "many_orders" (defArgs s_many_orders) (defBody s_many_orders) (defScope s_many_orders) .none kV10 dc10 pm10 an10 cd10 ct10), sl10⟩) (c10 : PySem.W.codeIn K cd10 "many_orders" = true) (k10 : PySem.W.keepIn K (.ref x10) = true)
    (a11 : PySem.W.nsIn K mainGlobals "orders_of" = some (some (.ref x11))) (l11 : K.lookup x11 = some ⟨oc11, od11, .func (PySem.W.fnOf "orders_of" "orders_of" (defArgs s_orders_of) (defBody s_orders_of) (defScope s_orders_of) .none kV11 dc11 pm11 an11 cd11 ct11), sl11⟩) (c11 : PySem.W.codeIn K cd11 "orders_of" = true) (k11 : PySem.W.keepIn K (.ref x11) = true)
    (a12 : PySem.W.nsIn K mainGlobals "less_one" = some (some (.ref x12))) (l12 : K.lookup x12 = some ⟨oc12, od12, .func (PySem.W.fnOf "less_one" "less_one" (defArgs s_less_one) (defBody s_less_one) (defScope s_less_one) .none kV12 dc12 pm12 an12 cd12 ct12), sl12⟩) (c12 : PySem.W.codeIn K cd12 "less_one" = true) (k12 : PySem.W.keepIn K (.ref x12) = true)
    (a13 : PySem.W.nsIn K mainGlobals "next_sign" = some (some (.ref x13))) (l13 : K.lookup x13 = some ⟨oc13, od13, .func (PySem.W.fnOf "next_sign" "next_sign" (defArgs s_next_sign) (defBody s_next_sign) (defScope s_next_sign) .none kV13 dc13 pm13 an13 cd13 ct13), sl13⟩) (c13 : PySem.W.codeIn K cd13 "next_sign" = true) (k13 : PySem.W.keepIn K (.ref x13) = true)
    (a14 : PySem.W.nsIn K mainGlobals "order_at" = some (some (.ref x14))) (l14 : K.lookup x14 = some ⟨oc14, od14, .func (PySem.W.fnOf "order_at" "order_at" (defArgs s_order_at) (defBody s_order_at) (defScope s_order_at) .none kV14 dc14 pm14 an14 cd14 ct14), sl14⟩) (c14 : PySem.W.codeIn K cd14 "order_at" = true) (k14 : PySem.W.keepIn K (.ref x14) = true)
    (a15 : PySem.W.nsIn K mainGlobals "place_of" = some (some (.ref x15))) (l15 : K.lookup x15 = some ⟨oc15, od15, .func (PySem.W.fnOf "place_of" "place_of" (defArgs s_place_of) (defBody s_place_of) (defScope s_place_of) .none kV15 dc15 pm15 an15 cd15 ct15), sl15⟩) (c15 : PySem.W.codeIn K cd15 "place_of" = true) (k15 : PySem.W.keepIn K (.ref x15) = true)
    (a16 : PySem.W.nsIn K mainGlobals "_law_pot" = some (some (.ref x16))) (l16 : K.lookup x16 = some ⟨oc16, od16, .func (PySem.W.fnOf "_law_pot" "_law_pot" (defArgs s__law_pot) (defBody s__law_pot) (defScope s__law_pot) .none kV16 dc16 pm16 an16 cd16 ct16), sl16⟩) (c16 : PySem.W.codeIn K cd16 "_law_pot" = true) (k16 : PySem.W.keepIn K (.ref x16) = true)
    (a17 : PySem.W.nsIn K mainGlobals "_law_take" = some (some (.ref x17))) (l17 : K.lookup x17 = some ⟨oc17, od17, .func (PySem.W.fnOf "_law_take" "_law_take" (defArgs s__law_take) (defBody s__law_take) (defScope s__law_take) .none kV17 dc17 pm17 an17 cd17 ct17), sl17⟩) (c17 : PySem.W.codeIn K cd17 "_law_take" = true) (k17 : PySem.W.keepIn K (.ref x17) = true)
    (a18 : PySem.W.nsIn K mainGlobals "_law_of" = some (some (.ref x18))) (l18 : K.lookup x18 = some ⟨oc18, od18, .func (PySem.W.fnOf "_law_of" "_law_of" (defArgs s__law_of) (defBody s__law_of) (defScope s__law_of) .none kV18 dc18 pm18 an18 cd18 ct18), sl18⟩) (c18 : PySem.W.codeIn K cd18 "_law_of" = true) (k18 : PySem.W.keepIn K (.ref x18) = true)
    (a19 : PySem.W.nsIn K mainGlobals "_law_cells" = some (some (.ref x19))) (l19 : K.lookup x19 = some ⟨oc19, od19, .func (PySem.W.fnOf "_law_cells" "_law_cells" (defArgs s__law_cells) (defBody s__law_cells) (defScope s__law_cells) .none kV19 dc19 pm19 an19 cd19 ct19), sl19⟩) (c19 : PySem.W.codeIn K cd19 "_law_cells" = true) (k19 : PySem.W.keepIn K (.ref x19) = true)
    (a20 : PySem.W.nsIn K mainGlobals "_law_lot" = some (some (.ref x20))) (l20 : K.lookup x20 = some ⟨oc20, od20, .func (PySem.W.fnOf "_law_lot" "_law_lot" (defArgs s__law_lot) (defBody s__law_lot) (defScope s__law_lot) .none kV20 dc20 pm20 an20 cd20 ct20), sl20⟩) (c20 : PySem.W.codeIn K cd20 "_law_lot" = true) (k20 : PySem.W.keepIn K (.ref x20) = true)
    (a21 : PySem.W.nsIn K mainGlobals "_law_drawn_lot" = some (some (.ref x21))) (l21 : K.lookup x21 = some ⟨oc21, od21, .func (PySem.W.fnOf "_law_drawn_lot" "_law_drawn_lot" (defArgs s__law_drawn_lot) (defBody s__law_drawn_lot) (defScope s__law_drawn_lot) .none kV21 dc21 pm21 an21 cd21 ct21), sl21⟩) (c21 : PySem.W.codeIn K cd21 "_law_drawn_lot" = true) (k21 : PySem.W.keepIn K (.ref x21) = true)
    (a22 : PySem.W.nsIn K mainGlobals "_law_all_orders" = some (some (.ref x22))) (l22 : K.lookup x22 = some ⟨oc22, od22, .func (PySem.W.fnOf "_law_all_orders" "_law_all_orders" (defArgs s__law_all_orders) (defBody s__law_all_orders) (defScope s__law_all_orders) .none kV22 dc22 pm22 an22 cd22 ct22), sl22⟩) (c22 : PySem.W.codeIn K cd22 "_law_all_orders" = true) (k22 : PySem.W.keepIn K (.ref x22) = true)
    (a23 : PySem.W.nsIn K mainGlobals "_law_many" = some (some (.ref x23))) (l23 : K.lookup x23 = some ⟨oc23, od23, .func (PySem.W.fnOf "_law_many" "_law_many" (defArgs s__law_many) (defBody s__law_many) (defScope s__law_many) .none kV23 dc23 pm23 an23 cd23 ct23), sl23⟩) (c23 : PySem.W.codeIn K cd23 "_law_many" = true) (k23 : PySem.W.keepIn K (.ref x23) = true)
    (a24 : PySem.W.nsIn K mainGlobals "_law_next" = some (some (.ref x24))) (l24 : K.lookup x24 = some ⟨oc24, od24, .func (PySem.W.fnOf "_law_next" "_law_next" (defArgs s__law_next) (defBody s__law_next) (defScope s__law_next) .none kV24 dc24 pm24 an24 cd24 ct24), sl24⟩) (c24 : PySem.W.codeIn K cd24 "_law_next" = true) (k24 : PySem.W.keepIn K (.ref x24) = true)
    (a25 : PySem.W.nsIn K mainGlobals "_law_is_small_right" = some (some (.ref x25))) (l25 : K.lookup x25 = some ⟨oc25, od25, .func (PySem.W.fnOf "_law_is_small_right" "_law_is_small_right" (defArgs s__law_is_small_right) (defBody s__law_is_small_right) (defScope s__law_is_small_right) .none kV25 dc25 pm25 an25 cd25 ct25), sl25⟩) (c25 : PySem.W.codeIn K cd25 "_law_is_small_right" = true) (k25 : PySem.W.keepIn K (.ref x25) = true)
    (a26 : PySem.W.nsIn K mainGlobals "_law_is_great_right" = some (some (.ref x26))) (l26 : K.lookup x26 = some ⟨oc26, od26, .func (PySem.W.fnOf "_law_is_great_right" "_law_is_great_right" (defArgs s__law_is_great_right) (defBody s__law_is_great_right) (defScope s__law_is_great_right) .none kV26 dc26 pm26 an26 cd26 ct26), sl26⟩) (c26 : PySem.W.codeIn K cd26 "_law_is_great_right" = true) (k26 : PySem.W.keepIn K (.ref x26) = true)
    (a27 : PySem.W.nsIn K mainGlobals "_law_right" = some (some (.ref x27))) (l27 : K.lookup x27 = some ⟨oc27, od27, .func (PySem.W.fnOf "_law_right" "_law_right" (defArgs s__law_right) (defBody s__law_right) (defScope s__law_right) .none kV27 dc27 pm27 an27 cd27 ct27), sl27⟩) (c27 : PySem.W.codeIn K cd27 "_law_right" = true) (k27 : PySem.W.keepIn K (.ref x27) = true)
    (a28 : PySem.W.nsIn K mainGlobals "law" = some (some (.ref x28))) (l28 : K.lookup x28 = some ⟨oc28, od28, .func (PySem.W.fnOf "law" "law" (defArgs s_law) (defBody s_law) (defScope s_law) .none kV28 dc28 pm28 an28 cd28 ct28), sl28⟩) (c28 : PySem.W.codeIn K cd28 "law" = true) (k28 : PySem.W.keepIn K (.ref x28) = true)
    (z_LEAST_SIGNS : PySem.W.nsIn K mainGlobals "LEAST_SIGNS" = some (some (.int 2 tk_LEAST_SIGNS)))
    (z_MOST_IN_LOT : PySem.W.nsIn K mainGlobals "MOST_IN_LOT" = some (some (.int 40 tk_MOST_IN_LOT)))
    (z_MOST_READINGS : PySem.W.nsIn K mainGlobals "MOST_READINGS" = some (some (.int 400 tk_MOST_READINGS)))
    (z_MOST_SIGNS_TOLD : PySem.W.nsIn K mainGlobals "MOST_SIGNS_TOLD" = some (some (.int 6 tk_MOST_SIGNS_TOLD)))
    (z_abs : PySem.W.nsIn K mainGlobals "abs" = some none)
    (z_all : PySem.W.nsIn K mainGlobals "all" = some none)
    (z_bool : PySem.W.nsIn K mainGlobals "bool" = some none)
    (z_enumerate : PySem.W.nsIn K mainGlobals "enumerate" = some none)
    (z_int : PySem.W.nsIn K mainGlobals "int" = some none)
    (z_isinstance : PySem.W.nsIn K mainGlobals "isinstance" = some none)
    (z_len : PySem.W.nsIn K mainGlobals "len" = some none)
    (z_list : PySem.W.nsIn K mainGlobals "list" = some none)
    (z_max : PySem.W.nsIn K mainGlobals "max" = some none)
    (z_min : PySem.W.nsIn K mainGlobals "min" = some none)
    (z_range : PySem.W.nsIn K mainGlobals "range" = some none)
    (z_repr : PySem.W.nsIn K mainGlobals "repr" = some none)
    (z_sorted : PySem.W.nsIn K mainGlobals "sorted" = some none)
    (z_sum : PySem.W.nsIn K mainGlobals "sum" = some none)
    (z_tuple : PySem.W.nsIn K mainGlobals "tuple" = some none)
    : ∃ fd : FuncData, (∀ (s : Shared) (v : Value), BindsTo s fd ⟨[v], []⟩ [("script", v)]) ∧ ∀ base : Heap, K.In base → base.Ns mainGlobals mg → FnG l.prog w K mg base 9 fa fd ["script"] (spD K 1 g_law) := by
  have e := hfa.symm.trans (PySem.W.mg_of X G a28)
  cases e
  have F0 := fun_mk (st := s_is_integer) l0 c0 k0
  have F1 := fun_mk (st := s_is_between) l1 c1 k1
  have F2 := fun_mk (st := s_checked_signs) l2 c2 k2
  have F3 := fun_mk (st := s_is_row_of) l3 c3 k3
  have F4 := fun_mk (st := s_is_lot) l4 c4 k4
  have F5 := fun_mk (st := s_checked_lot) l5 c5 k5
  have F6 := fun_mk (st := s_is_short_row) l6 c6 k6
  have F7 := fun_mk (st := s_lot_in) l7 c7 k7
  have F8 := fun_mk (st := s_lot_of) l8 c8 k8
  have F9 := fun_mk (st := s_choices_of) l9 c9 k9
  have F10 := fun_mk (st := s_many_orders) l10 c10 k10
  have F11 := fun_mk (st := s_orders_of) l11 c11 k11
  have F12 := fun_mk (st := s_less_one) l12 c12 k12
  have F13 := fun_mk (st := s_next_sign) l13 c13 k13
  have F14 := fun_mk (st := s_order_at) l14 c14 k14
  have F15 := fun_mk (st := s_place_of) l15 c15 k15
  have F16 := fun_mk (st := s__law_pot) l16 c16 k16
  have F17 := fun_mk (st := s__law_take) l17 c17 k17
  have F18 := fun_mk (st := s__law_of) l18 c18 k18
  have F19 := fun_mk (st := s__law_cells) l19 c19 k19
  have F20 := fun_mk (st := s__law_lot) l20 c20 k20
  have F21 := fun_mk (st := s__law_drawn_lot) l21 c21 k21
  have F22 := fun_mk (st := s__law_all_orders) l22 c22 k22
  have F23 := fun_mk (st := s__law_many) l23 c23 k23
  have F24 := fun_mk (st := s__law_next) l24 c24 k24
  have F25 := fun_mk (st := s__law_is_small_right) l25 c25 k25
  have F26 := fun_mk (st := s__law_is_great_right) l26 c26 k26
  have F27 := fun_mk (st := s__law_right) l27 c27 k27
  have F28 := fun_mk (st := s_law) l28 c28 k28
  let T : Tx K mg := {
    a_is_integer := x0, f_is_integer := _, d_is_integer := ⟨F0, PySem.W.mg_of X G a0, F0.binds (ps := ["value"]) fun _ _ _ _ _ _ us hl => match us, hl with | [_], _ => rfl⟩,
    a_is_between := x1, f_is_between := _, d_is_between := ⟨F1, PySem.W.mg_of X G a1, F1.binds (ps := ["value", "low", "high"]) fun _ _ _ _ _ _ us hl => match us, hl with | [_, _, _], _ => rfl⟩,
    a_checked_signs := x2, f_checked_signs := _, d_checked_signs := ⟨F2, PySem.W.mg_of X G a2, F2.binds (ps := ["signs"]) fun _ _ _ _ _ _ us hl => match us, hl with | [_], _ => rfl⟩,
    a_is_row_of := x3, f_is_row_of := _, d_is_row_of := ⟨F3, PySem.W.mg_of X G a3, F3.binds (ps := ["value", "signs"]) fun _ _ _ _ _ _ us hl => match us, hl with | [_, _], _ => rfl⟩,
    a_is_lot := x4, f_is_lot := _, d_is_lot := ⟨F4, PySem.W.mg_of X G a4, F4.binds (ps := ["value"]) fun _ _ _ _ _ _ us hl => match us, hl with | [_], _ => rfl⟩,
    a_checked_lot := x5, f_checked_lot := _, d_checked_lot := ⟨F5, PySem.W.mg_of X G a5, F5.binds (ps := ["lot"]) fun _ _ _ _ _ _ us hl => match us, hl with | [_], _ => rfl⟩,
    a_is_short_row := x6, f_is_short_row := _, d_is_short_row := ⟨F6, PySem.W.mg_of X G a6, F6.binds (ps := ["value", "signs"]) fun _ _ _ _ _ _ us hl => match us, hl with | [_, _], _ => rfl⟩,
    a_lot_in := x7, f_lot_in := _, d_lot_in := ⟨F7, PySem.W.mg_of X G a7, F7.binds (ps := ["row", "signs"]) fun _ _ _ _ _ _ us hl => match us, hl with | [_, _], _ => rfl⟩,
    a_lot_of := x8, f_lot_of := _, d_lot_of := ⟨F8, PySem.W.mg_of X G a8, F8.binds (ps := ["row", "signs"]) fun _ _ _ _ _ _ us hl => match us, hl with | [_, _], _ => rfl⟩,
    k_lot_of := kb_of F8 fun _ _ _ _ _ _ us ws h1 h2 => match us, ws, h1, h2 with | [], [_, _], _, _ => rfl,
    a_choices_of := x9, f_choices_of := _, d_choices_of := ⟨F9, PySem.W.mg_of X G a9, F9.binds (ps := ["many", "some"]) fun _ _ _ _ _ _ us hl => match us, hl with | [_, _], _ => rfl⟩,
    a_many_orders := x10, f_many_orders := _, d_many_orders := ⟨F10, PySem.W.mg_of X G a10, F10.binds (ps := ["lot"]) fun _ _ _ _ _ _ us hl => match us, hl with | [_], _ => rfl⟩,
    a_orders_of := x11, f_orders_of := _, d_orders_of := ⟨F11, PySem.W.mg_of X G a11, F11.binds (ps := ["lot"]) fun _ _ _ _ _ _ us hl => match us, hl with | [_], _ => rfl⟩,
    k_orders_of := kb_of F11 fun _ _ _ _ _ _ us ws h1 h2 => match us, ws, h1, h2 with | [], [_], _, _ => rfl,
    a_less_one := x12, f_less_one := _, d_less_one := ⟨F12, PySem.W.mg_of X G a12, F12.binds (ps := ["lot", "sign"]) fun _ _ _ _ _ _ us hl => match us, hl with | [_, _], _ => rfl⟩,
    a_next_sign := x13, f_next_sign := _, d_next_sign := ⟨F13, PySem.W.mg_of X G a13, F13.binds (ps := ["left", "number"]) fun _ _ _ _ _ _ us hl => match us, hl with | [_, _], _ => rfl⟩,
    a_order_at := x14, f_order_at := _, d_order_at := ⟨F14, PySem.W.mg_of X G a14, F14.binds (ps := ["lot", "number"]) fun _ _ _ _ _ _ us hl => match us, hl with | [_, _], _ => rfl⟩,
    k_order_at := kb_of F14 fun _ _ _ _ _ _ us ws h1 h2 => match us, ws, h1, h2 with | [], [_, _], _, _ => rfl,
    a_place_of := x15, f_place_of := _, d_place_of := ⟨F15, PySem.W.mg_of X G a15, F15.binds (ps := ["row", "signs"]) fun _ _ _ _ _ _ us hl => match us, hl with | [_, _], _ => rfl⟩,
    k_place_of := kb_of F15 fun _ _ _ _ _ _ us ws h1 h2 => match us, ws, h1, h2 with | [], [_, _], _, _ => rfl,
    a__law_pot := x16, f__law_pot := _, d__law_pot := ⟨F16, PySem.W.mg_of X G a16, F16.binds (ps := ["script", "place"]) fun _ _ _ _ _ _ us hl => match us, hl with | [_, _], _ => rfl⟩,
    a__law_take := x17, f__law_take := _, d__law_take := ⟨F17, PySem.W.mg_of X G a17, F17.binds (ps := ["pot", "upto"]) fun _ _ _ _ _ _ us hl => match us, hl with | [_, _], _ => rfl⟩,
    a__law_of := x18, f__law_of := _, d__law_of := ⟨F18, PySem.W.mg_of X G a18, F18.binds (ps := ["pot", "some"]) fun _ _ _ _ _ _ us hl => match us, hl with | [_, _], _ => rfl⟩,
    a__law_cells := x19, f__law_cells := _, d__law_cells := ⟨F19, PySem.W.mg_of X G a19, F19.binds (ps := ["script", "most"]) fun _ _ _ _ _ _ us hl => match us, hl with | [_, _], _ => rfl⟩,
    a__law_lot := x20, f__law_lot := _, d__law_lot := ⟨F20, PySem.W.mg_of X G a20, F20.binds (ps := ["row", "signs"]) fun _ _ _ _ _ _ us hl => match us, hl with | [_, _], _ => rfl⟩,
    a__law_drawn_lot := x21, f__law_drawn_lot := _, d__law_drawn_lot := ⟨F21, PySem.W.mg_of X G a21, F21.binds (ps := ["pot", "signs", "most"]) fun _ _ _ _ _ _ us hl => match us, hl with | [_, _, _], _ => rfl⟩,
    a__law_all_orders := x22, f__law_all_orders := _, d__law_all_orders := ⟨F22, PySem.W.mg_of X G a22, F22.binds (ps := ["lot"]) fun _ _ _ _ _ _ us hl => match us, hl with | [_], _ => rfl⟩,
    a__law_many := x23, f__law_many := _, d__law_many := ⟨F23, PySem.W.mg_of X G a23, F23.binds (ps := ["lot"]) fun _ _ _ _ _ _ us hl => match us, hl with | [_], _ => rfl⟩,
    a__law_next := x24, f__law_next := _, d__law_next := ⟨F24, PySem.W.mg_of X G a24, F24.binds (ps := ["row"]) fun _ _ _ _ _ _ us hl => match us, hl with | [_], _ => rfl⟩,
    a__law_is_small_right := x25, f__law_is_small_right := _, d__law_is_small_right := ⟨F25, PySem.W.mg_of X G a25, F25.binds (ps := ["pot"]) fun _ _ _ _ _ _ us hl => match us, hl with | [_], _ => rfl⟩,
    a__law_is_great_right := x26, f__law_is_great_right := _, d__law_is_great_right := ⟨F26, PySem.W.mg_of X G a26, F26.binds (ps := ["pot"]) fun _ _ _ _ _ _ us hl => match us, hl with | [_], _ => rfl⟩,
    a__law_right := x27, f__law_right := _, d__law_right := ⟨F27, PySem.W.mg_of X G a27, F27.binds (ps := ["pot"]) fun _ _ _ _ _ _ us hl => match us, hl with | [_], _ => rfl⟩,
    a_law := fa, f_law := _, d_law := ⟨F28, PySem.W.mg_of X G a28, F28.binds (ps := ["script"]) fun _ _ _ _ _ _ us hl => match us, hl with | [_], _ => rfl⟩,
    t_LEAST_SIGNS := tk_LEAST_SIGNS, c_LEAST_SIGNS := PySem.W.mg_of X G z_LEAST_SIGNS,
    t_MOST_IN_LOT := tk_MOST_IN_LOT, c_MOST_IN_LOT := PySem.W.mg_of X G z_MOST_IN_LOT,
    t_MOST_READINGS := tk_MOST_READINGS, c_MOST_READINGS := PySem.W.mg_of X G z_MOST_READINGS,
    t_MOST_SIGNS_TOLD := tk_MOST_SIGNS_TOLD, c_MOST_SIGNS_TOLD := PySem.W.mg_of X G z_MOST_SIGNS_TOLD,
    n_abs := PySem.W.mg_none_of X G z_abs,
    n_all := PySem.W.mg_none_of X G z_all,
    n_bool := PySem.W.mg_none_of X G z_bool,
    n_enumerate := PySem.W.mg_none_of X G z_enumerate,
    n_int := PySem.W.mg_none_of X G z_int,
    n_isinstance := PySem.W.mg_none_of X G z_isinstance,
    n_len := PySem.W.mg_none_of X G z_len,
    n_list := PySem.W.mg_none_of X G z_list,
    n_max := PySem.W.mg_none_of X G z_max,
    n_min := PySem.W.mg_none_of X G z_min,
    n_range := PySem.W.mg_none_of X G z_range,
    n_repr := PySem.W.mg_none_of X G z_repr,
    n_sorted := PySem.W.mg_none_of X G z_sorted,
    n_sum := PySem.W.mg_none_of X G z_sum,
    n_tuple := PySem.W.mg_none_of X G z_tuple }
  exact ⟨_, fun s v => .of_eq rfl, fun base _ _ => ok_law T⟩
end K80
open PySem PySem.W PyProof.Rows
set_option maxRecDepth 100000 in
set_option maxHeartbeats 0 in
theorem PySem.Challenge.cw_themomentitturned_k80_whole_orders_there_holds : PySem.Challenge.rw_themomentitturned_k80_whole_orders_there.Holds := by
  w_on; o_law; k_head; (case hw => w_witness2)
  k_fill
  refine DL.walkLaw (k := 9) (g := K80.g_law) (x := "script") rfl (by decide) rfl ⟨rfl, by decide, by decide⟩ (fun w h Y => PySem.W.kIn_of Y) ?F K80.tells
  case F =>
    intro w mg fa h KX G hmg
    refine' K80.all_mk KX G hmg ?a0 ?l0 ?c0 ?k0 ?a1 ?l1 ?c1 ?k1 ?a2 ?l2 ?c2 ?k2 ?a3 ?l3 ?c3 ?k3 ?a4 ?l4 ?c4 ?k4 ?a5 ?l5 ?c5 ?k5 ?a6 ?l6 ?c6 ?k6 ?a7 ?l7 ?c7 ?k7 ?a8 ?l8 ?c8 ?k8 ?a9 ?l9 ?c9 ?k9 ?a10 ?l10 ?c10 ?k10 ?a11 ?l11 ?c11 ?k11 ?a12 ?l12 ?c12 ?k12 ?a13 ?l13 ?c13 ?k13 ?a14 ?l14 ?c14 ?k14 ?a15 ?l15 ?c15 ?k15 ?a16 ?l16 ?c16 ?k16 ?a17 ?l17 ?c17 ?k17 ?a18 ?l18 ?c18 ?k18 ?a19 ?l19 ?c19 ?k19 ?a20 ?l20 ?c20 ?k20 ?a21 ?l21 ?c21 ?k21 ?a22 ?l22 ?c22 ?k22 ?a23 ?l23 ?c23 ?k23 ?a24 ?l24 ?c24 ?k24 ?a25 ?l25 ?c25 ?k25 ?a26 ?l26 ?c26 ?k26 ?a27 ?l27 ?c27 ?k27 ?a28 ?l28 ?c28 ?k28 ?z_LEAST_SIGNS ?z_MOST_IN_LOT ?z_MOST_READINGS ?z_MOST_SIGNS_TOLD ?z_abs ?z_all ?z_bool ?z_enumerate ?z_int ?z_isinstance ?z_len ?z_list ?z_max ?z_min ?z_range ?z_repr ?z_sorted ?z_sum ?z_tuple
    (case a0 => k_is)
    (case l0 => k_is)
    (case c0 => k_is)
    (case k0 => k_is)
    (case a1 => k_is)
    (case l1 => k_is)
    (case c1 => k_is)
    (case k1 => k_is)
    (case a2 => k_is)
    (case l2 => k_is)
    (case c2 => k_is)
    (case k2 => k_is)
    (case a3 => k_is)
    (case l3 => k_is)
    (case c3 => k_is)
    (case k3 => k_is)
    (case a4 => k_is)
    (case l4 => k_is)
    (case c4 => k_is)
    (case k4 => k_is)
    (case a5 => k_is)
    (case l5 => k_is)
    (case c5 => k_is)
    (case k5 => k_is)
    (case a6 => k_is)
    (case l6 => k_is)
    (case c6 => k_is)
    (case k6 => k_is)
    (case a7 => k_is)
    (case l7 => k_is)
    (case c7 => k_is)
    (case k7 => k_is)
    (case a8 => k_is)
    (case l8 => k_is)
    (case c8 => k_is)
    (case k8 => k_is)
    (case a9 => k_is)
    (case l9 => k_is)
    (case c9 => k_is)
    (case k9 => k_is)
    (case a10 => k_is)
    (case l10 => k_is)
    (case c10 => k_is)
    (case k10 => k_is)
    (case a11 => k_is)
    (case l11 => k_is)
    (case c11 => k_is)
    (case k11 => k_is)
    (case a12 => k_is)
    (case l12 => k_is)
    (case c12 => k_is)
    (case k12 => k_is)
    (case a13 => k_is)
    (case l13 => k_is)
    (case c13 => k_is)
    (case k13 => k_is)
    (case a14 => k_is)
    (case l14 => k_is)
    (case c14 => k_is)
    (case k14 => k_is)
    (case a15 => k_is)
    (case l15 => k_is)
    (case c15 => k_is)
    (case k15 => k_is)
    (case a16 => k_is)
    (case l16 => k_is)
    (case c16 => k_is)
    (case k16 => k_is)
    (case a17 => k_is)
    (case l17 => k_is)
    (case c17 => k_is)
    (case k17 => k_is)
    (case a18 => k_is)
    (case l18 => k_is)
    (case c18 => k_is)
    (case k18 => k_is)
    (case a19 => k_is)
    (case l19 => k_is)
    (case c19 => k_is)
    (case k19 => k_is)
    (case a20 => k_is)
    (case l20 => k_is)
    (case c20 => k_is)
    (case k20 => k_is)
    (case a21 => k_is)
    (case l21 => k_is)
    (case c21 => k_is)
    (case k21 => k_is)
    (case a22 => k_is)
    (case l22 => k_is)
    (case c22 => k_is)
    (case k22 => k_is)
    (case a23 => k_is)
    (case l23 => k_is)
    (case c23 => k_is)
    (case k23 => k_is)
    (case a24 => k_is)
    (case l24 => k_is)
    (case c24 => k_is)
    (case k24 => k_is)
    (case a25 => k_is)
    (case l25 => k_is)
    (case c25 => k_is)
    (case k25 => k_is)
    (case a26 => k_is)
    (case l26 => k_is)
    (case c26 => k_is)
    (case k26 => k_is)
    (case a27 => k_is)
    (case l27 => k_is)
    (case c27 => k_is)
    (case k27 => k_is)
    (case a28 => k_is)
    (case l28 => k_is)
    (case c28 => k_is)
    (case k28 => k_is)
    (case z_LEAST_SIGNS => k_is)
    (case z_MOST_IN_LOT => k_is)
    (case z_MOST_READINGS => k_is)
    (case z_MOST_SIGNS_TOLD => k_is)
    (case z_abs => k_is)
    (case z_all => k_is)
    (case z_bool => k_is)
    (case z_enumerate => k_is)
    (case z_int => k_is)
    (case z_isinstance => k_is)
    (case z_len => k_is)
    (case z_list => k_is)
    (case z_max => k_is)
    (case z_min => k_is)
    (case z_range => k_is)
    (case z_repr => k_is)
    (case z_sorted => k_is)
    (case z_sum => k_is)
    (case z_tuple => k_is)
