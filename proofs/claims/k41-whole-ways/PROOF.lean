import PyProof.Rows.All
import Wide.All
import OpenK.AllK
import Wide.FinOn
import HandS.ForMost
import HandS.IsInst
import HandS.Codes
import HandS.Conv
import HandS.Deep
import HandS.TupAny
import HandS.TupMul
import KE.SortCalls
import KE.GoesEnum
import PySem.Challenge.RW_ringbeats_k41_whole_ways_by_whomever
set_option Elab.async false
set_option linter.all false
set_option maxRecDepth 100000
set_option maxHeartbeats 8000000
/-! RbOwn: rules that the layer lacks, for the tuples of this law: enumerate of a tuple, a tuple read backwards, a tuple times one, sorted of a tuple of ints, sorted of a list of int tuples whose first one is empty. -/
namespace RB
open PySem PySem.Spec PySem.W PyProof.Rows L2

section
variable {prog : Program} {w : World} {A : Around} {E : Value → Shared → Prop} {s : Shared}

/-! ### enumerate(v), v by how its iterator begins -/
set_option maxHeartbeats 4000000 in
theorem enum_meets {v : Value} {it : Obj} {H : Heap → Prop} (B : Begins v it H) :
    Meets (Builtin.«enumerate.__new__» ⟨[.type "enumerate", v], []⟩) (fun _ R u => H u.heap ∧
      R (.ok (.ret (.ref (u.heap.push it).objs.size))) { u with heap := (u.heap.push it).push { cls := .type "enumerate", data := .fields #[.none, .bool false, .ref u.heap.objs.size, rawInt 0, .none, .none] } }) :=
  .of_wp fun P1 w1 A1 R1 u h => by
    obtain ⟨hp, gg, dd, tk, oo⟩ := u
    obtain ⟨hH, hR⟩ := h
    have sub1 := sub_enumerate
    have walk1 : ∀ {A' : Around} {E' : Value → Shared → Prop} {Q' : Value → Shared → Prop}, Q' (.ref hp.objs.size) ⟨hp.push it, gg, dd, tk, oo⟩ → wpAny (model P1 w1) A' (pyIter v) Q' E' ⟨hp, gg, dd, tk, oo⟩ :=
      fun q => B.iter P1 w1 _ _ ⟨hp, gg, dd, tk, oo⟩ _ hH q
    wp_walk using walk1
    refine wpAny_stack_any fun st1 => wpAny_pure ?_
    split
    · rename_i c1 _ _ _ _ _
      cases (c1 == Value.type "enumerate")
      all_goals
        wp_walk using walk1
        exact ⟨_, rfl, hR⟩
    · wp_walk using walk1
      exact ⟨_, rfl, hR⟩

theorem enum_call {v : Value} {it : Obj} {H : Heap → Prop} {Q : Value → Shared → Prop} (B : Begins v it H) (hH : H s.heap)
    (hq : ∀ h2, IsEnum h2 (s.heap.objs.size + 1) s.heap.objs.size 0 .none → h2.get? s.heap.objs.size = some it → h2.objs.size = s.heap.objs.size + 2 →
      (∀ b ob, s.heap.get? b = some ob → h2.get? b = some ob) → Q (.ref (s.heap.objs.size + 1)) { s with heap := h2 }) : wpAny (model prog w) A (call (.type "enumerate") [v]) Q E s := by
  refine callType_new F.called_enumerate (by decide) (F.typeCall_enumerate_1 _) (F.newCall_enumerate_1 _) (fun ob => F.args_object_init_2 ob _) F.entry_enumerate_new (enum_meets B) ⟨hH, ?_⟩
  have e1 : (s.heap.push it).objs.size = s.heap.objs.size + 1 := Heap.size_push ..
  have he : IsEnum ((s.heap.push it).push { cls := .type "enumerate", data := .fields #[.none, .bool false, .ref s.heap.objs.size, rawInt 0, .none, .none] }) (s.heap.objs.size + 1) s.heap.objs.size 0 .none := by
    have q := Heap.get?_push_size (s.heap.push it) (o := { cls := .type "enumerate", data := .fields #[.none, .bool false, .ref s.heap.objs.size, rawInt 0, .none, .none] }) rfl
    rw [e1] at q
    exact q
  show _ ∧ _
  rw [e1]
  exact ⟨⟨_, he, rfl⟩, hq _ he (Heap.get?_push_of_some _ (Heap.get?_push_size _ B.free)) (by rw [Heap.size_push, e1]) fun b ob q => Heap.get?_push_of_some _ (Heap.get?_push_of_some _ q)⟩
end

/-- the tuple at a, each item in a new pair -/
def ItE (K : PySem.W.Frag) (a : Addr) : It :=
  ⟨fun i H => ∃ (xs : List V) (x : V), SqT K H a xs ∧ xs[i]? = some x,
   fun i H v H2 => ∃ T x, v = .ref T ∧ H T = none ∧ H2 = upd H T (.tup [.int (i : Nat), x]) ∧ ∀ xs, SqT K H a xs → xs[i]? = some x,
   fun i H => ∃ xs : List V, SqT K H a xs ∧ xs.length ≤ i⟩

theorem tupiter_ne {h : Heap} {a it : Addr} {i : Nat} {items : Array Value} (x : h.IsTupleIter it a i) (y : h.IsTuple a items) : a ≠ it := by
  rintro rfl
  obtain ⟨o1, e1, c1, _⟩ := x
  obtain ⟨o2, e2, c2, _⟩ := y
  rw [e1] at e2
  cases Option.some.inj e2
  rw [c1] at c2
  injection c2 with c3
  exact absurd c3 (by decide)
theorem enum_ne {h : Heap} {a e it : Addr} {k : Int} {old : Value} {items : Array Value} (x : IsEnum h e it k old) (y : h.IsTuple a items) : e ≠ a := by
  rintro rfl
  obtain ⟨o2, e2, c2, _⟩ := y
  have e1 : h.get? e = some _ := x
  rw [e1] at e2
  cases Option.some.inj e2
  have c3 : Value.type "enumerate" = Value.type "tuple" := c2
  injection c3 with c4
  exact absurd c4 (by decide)

/-- nothing more is drawn -/
theorem draws_end {P : Program} {w : World} {A : Around} (hh : A.handled = none) (it t : Addr) (items : Array Value) (i : Nat) (hi : items[i]? = none) :
    Draws P w A it [it, t] 0 (fun _ _ => False) (fun _ h => h.IsTupleIter it t i ∧ h.IsTuple t items) where
  live := fun _ _ st => by
    obtain ⟨⟨o, ho, _⟩, _⟩ := st
    exact ⟨o, ho⟩
  frame := fun _ _ _ st k => ⟨st.1.at fun o q => k it (by simp) o q, st.2.at fun o q => k t (by simp) o q⟩
  item := fun j s Q E hj _ _ => absurd hj (Nat.not_lt_zero _)
  done := fun s Q E st k => wpAny_nextOf_tuple_end hh st.1 st.2 hi k
theorem turn_enumT {P : Program} {w : World} {K : PySem.W.Frag} {elts : List Expr} {kk : Nat} {tpos : Pos} (a e it : Addr) :
    Turn P w K (.Tuple elts kk tpos) (ItE K a) [e, it] e (fun i h => (∃ old, IsEnum h e it ((i : Nat) : Int) old) ∧ h.IsTupleIter it a i ∧ e ≠ it) where
  mem := by simp
  obj := fun i h st b hb => by
    obtain ⟨⟨old, he⟩, ⟨o, ho, hc, hd⟩, _⟩ := st
    rcases (by simpa using hb : b = e ∨ b = it) with rfl | rfl
    · exact ⟨_, he, fun v q => nomatch q⟩
    · exact ⟨o, ho, fun v q => by rw [hd] at q; cases q⟩
  keep := fun i h h2 st k => by
    obtain ⟨⟨old, he⟩, hi, hne⟩ := st
    exact ⟨⟨old, k e (by simp) _ he⟩, hi.at fun o q => k it (by simp) o q, hne⟩
  item := by
    intro X hP hw hK hc i pins s σ H E I hf st hg
    subst hP hw hK
    obtain ⟨⟨old, he⟩, hit, hne⟩ := st
    obtain ⟨xs, x, hq, hx⟩ := hg
    obtain ⟨its, rv, p, hz⟩ := I.tuple hq
    have p2 : s.heap.IsTuple a its.toArray := p
    obtain ⟨u, hu, ru⟩ := rv.get hx
    have hai := tupiter_ne hit p2
    have hea := enum_ne he p2
    have hel : e < s.heap.objs.size := Heap.lt_size he
    have hil : it < s.heap.objs.size := by
      obtain ⟨_, q, _⟩ := hit
      exact Heap.lt_size q
    have hlt : i < its.toArray.size := by
      rw [List.size_toArray]
      exact (List.getElem?_eq_some_iff.mp hu).1
    refine wpAny_pyNext_enum_itemD (Draws.tuple (A := X.A.in1) (I.ok.hd hc) it a hai its.toArray) he ⟨hit, p2⟩ hlt hne (by simp [hne, hea]) fun y h1 tk hy ho hit1 hT hsz hk => ?_
    have ey : y = u := by
      have hy2 : its.toArray[i]? = some y := hy
      rw [List.getElem?_toArray, hu] at hy2
      exact (Option.some.inj hy2).symm
    subst ey
    refine ⟨_, rfl, wpAny_letOwnedTupleGo_enum (s := { s with heap := h1, toks := tk + 1 }) ho fun h2 he2 sb => ?_⟩
    have hT2 : h2.get? s.heap.objs.size = some { cls := .type "tuple", data := .seq #[.int i tk, y] } := (sb.2 _ (Nat.ne_of_gt hel)).trans hT
    have new : ObjOk X.prog X.w (upd H s.heap.objs.size (.tup [.int (i : Nat), x])) h2 s.heap.objs.size (.tup [.int (i : Nat), x]) :=
      ⟨by show 2 ≤ sizeLine; decide, [.int i tk, y], .cons ⟨_, rfl⟩ (.cons ru .nil), ⟨_, hT2, rfl, _, rfl⟩⟩
    have I1 : Inv X pins σ (upd H s.heap.objs.size (.tup [.int (i : Nat), x])) { s with heap := h2, toks := tk + 1 } :=
      I.turnedNew (ch := [e, it]) (fun b ob hb q => (sb.2 b (fun z => hb (by simp [z]))).trans (hk b ob (fun z => hb (by simp [z])) (fun z => hb (by simp [z])) q)) hf (Nat.le_refl _) new
    refine ⟨.ref s.heap.objs.size, _, I1, rfl, ⟨_, x, rfl, I.hok.fresh (Nat.le_refl _), rfl, fun ys hy2 => by rw [I.tuple_inj hy2 hq]; exact hx⟩, ⟨⟨y, ?_⟩, hit1.1.at fun o q => (sb.2 it (Ne.symm hne)).trans q, hne⟩, fun b hb => ?_⟩
    · have e1 : ((i + 1 : Nat) : Int) = (i : Int) + 1 := by omega
      rw [e1]
      exact he2
    · have hb2 : b < s.heap.objs.size := by
        rcases (by simpa using hb : b = e ∨ b = it) with rfl | rfl
        · exact hel
        · exact hil
      rw [upd_ne (Nat.ne_of_lt hb2)]
      exact (hf b hb).1
  done := by
    intro X hP hw hK hc i pins s σ H E I hf st hg
    subst hP hw hK
    obtain ⟨⟨old, he⟩, hit, hne⟩ := st
    obtain ⟨xs, hq, hx⟩ := hg
    obtain ⟨its, rv, p, hz⟩ := I.tuple hq
    have p2 : s.heap.IsTuple a its.toArray := p
    obtain ⟨f0, f1, f2, f3, f4, f5⟩ := hf it (by simp)
    have hl := rv.length
    have hno : its.toArray[i]? = none := by
      rw [List.getElem?_toArray]
      exact List.getElem?_eq_none_iff.mpr (by omega)
    exact wpAny_pyNext_enum_endD (draws_end (A := X.A.in1) (I.ok.hd hc) it a its.toArray i hno) he ⟨hit, p2⟩ fun h1 eb => ⟨rfl, I.turned (t' := s.toks) (fun b o hb q => eb b o hb q) f0 f1 f3 f4 f5⟩
  self := fun A i s Q E st h => by
    obtain ⟨⟨_, he⟩, _⟩ := st
    exact wpAny_pyIter_enum he h
def iEnumT (K : PySem.W.Frag) (ta : TA) : TI := fun σ H R => ta σ H fun vs H1 => ∃ a xs, vs = [.ref a] ∧ SqT K H1 a xs ∧ R (ItE K a) H1
theorem pi_enumT {X : Cx} {e : Expr} {ta : TA} {p pos tpos : Pos} {elts : List Expr} {kk : Nat} (hg : Gl X "enumerate") (hm : X.mg "enumerate" = none) (ha : PA X [e] ta) (hs : starEach [e] X.env = [(false, eval e X.env)] := by rfl) :
    PI X (.Tuple elts kk tpos) (.Call (.Name "enumerate" p) [e] [] pos) (iEnumT X.K ta) := by
  refine ⟨fun pins s σ H R I h => ?_⟩
  refine Call_ (ld_blt I hg hm boot_enumerate (PyProof.Rows.callWith_type1 (thn (ha.run pos pins s σ H _ I h) fun us s1 ⟨vs, H1, I1, r1, q1⟩ => ?_) hs rfl))
  obtain ⟨a, xs, rfl, hq, q⟩ := q1
  obtain ⟨u, rfl, ru⟩ := Vals.one r1
  cases ru
  obtain ⟨its, rv, p1, hz⟩ := I1.tuple hq
  refine enum_call (begins_tuple a its.toArray) (show s1.heap.IsTuple a its.toArray from p1) fun h2 he hit hsz hk => wpAny_pyIter_enum he ?_
  have I2 : Inv X pins σ H1 { s1 with heap := h2 } := I1.kept (t' := s1.toks) hk
  refine ⟨s1.heap.objs.size + 1, [s1.heap.objs.size + 1, s1.heap.objs.size], _, _, H1, rfl, I2, turn_enumT a (s1.heap.objs.size + 1) s1.heap.objs.size, ⟨⟨.none, he⟩, ⟨_, hit, rfl, rfl⟩, Nat.succ_ne_self _⟩, fun b hb => ?_, q⟩
  have hle : s1.heap.objs.size ≤ b := by
    rcases (by simpa using hb : b = s1.heap.objs.size + 1 ∨ b = s1.heap.objs.size) with z | z
    · rw [z]
      exact Nat.le_add_right _ _
    · rw [z]
      exact Nat.le_refl _
  exact I1.fpOk hle (I1.hok.fresh hle)

/-! ### a tuple read backwards -/
section
variable {prog : Program} {w : World} {A : Around} {E : Value → Shared → Prop} {s : Shared}
theorem pick_back : ∀ (xs : List Value), ((List.range xs.length).filterMap fun k : Nat => xs.toArray[(((xs.length : Int) - 1) + (k : Int) * -1).toNat]?) = xs.reverse := by
  intro xs
  have e : (fun k : Nat => xs.toArray[(((xs.length : Int) - 1) + (k : Int) * -1).toNat]?) = fun k : Nat => xs[(((xs.length : Int) - 1) + (k : Int) * -1).toNat]? := by
    funext k
    exact List.getElem?_toArray ..
  rw [e]
  refine List.ext_getElem? fun j => ?_
  have all : ∀ k ∈ List.range xs.length, (xs[(((xs.length : Int) - 1) + (k : Int) * -1).toNat]?) = some (xs.getD (xs.length - 1 - k) Value.none) := fun k hk => by
    have hk2 := List.mem_range.mp hk
    have e2 : (((xs.length : Int) - 1) + (k : Int) * -1).toNat = xs.length - 1 - k := by omega
    rw [e2, List.getD_eq_getElem?_getD, List.getElem?_eq_getElem (by omega)]
    rfl
  have e3 : ((List.range xs.length).filterMap fun k : Nat => xs[(((xs.length : Int) - 1) + (k : Int) * -1).toNat]?) = (List.range xs.length).map fun k => xs.getD (xs.length - 1 - k) Value.none := by
    have : ∀ l : List Nat, (∀ k ∈ l, k ∈ List.range xs.length) → (l.filterMap fun k : Nat => xs[(((xs.length : Int) - 1) + (k : Int) * -1).toNat]?) = l.map fun k => xs.getD (xs.length - 1 - k) Value.none := by
      intro l
      induction l with
      | nil => intro _; rfl
      | cons a l ih =>
        intro hm
        rw [List.filterMap_cons, all a (hm a (by simp)), List.map_cons, ih fun k hk => hm k (List.mem_cons_of_mem _ hk)]
    exact this _ fun k hk => hk
  rw [e3, List.getElem?_map]
  by_cases hj : j < xs.length
  · rw [List.getElem?_range hj, List.getElem?_reverse hj]
    show some (xs.getD (xs.length - 1 - j) Value.none) = _
    rw [List.getD_eq_getElem?_getD, List.getElem?_eq_getElem (by omega)]
    rfl
  · rw [List.getElem?_eq_none (by rw [List.length_range]; omega), List.getElem?_eq_none (by rw [List.length_reverse]; omega)]
    rfl
theorem places_back (n : Nat) : Builtin.Slice.slicePlaces ((n : Int) - 1) (-1) (-1) = n := by
  unfold Builtin.Slice.slicePlaces
  rw [if_neg (by decide)]
  by_cases h0 : (n : Int) - 1 > -1
  · rw [if_pos h0]
    have e1 : (((n : Int) - 1 - -1 - 1) / (- -1) + 1) = (n : Int) := by
      have e2 : (- -1 : Int) = 1 := by decide
      rw [e2, Int.ediv_one]
      omega
    rw [e1]
    omega
  · rw [if_neg h0]
    show (0 : Int).toNat = n
    omega
theorem applied_back {sl : Addr} {vs : Value} {n : Nat} {R : Int × Int × Nat → Shared → Prop} (hs : s.heap.IsSliceOf sl .none .none vs) (ps : IsPart vs (some (-1)))
    (h : R ((n : Int) - 1, -1, n) s) : wpAny (model prog w) A (Builtin.Slice.sliceApplied (.ref sl) (pure (n : Int))) R E s := by
  obtain ⟨ob, hob, _, hd⟩ := id hs
  unfold Builtin.Slice.sliceApplied Builtin.Slice.sliceFields
  refine wpAny_bind (wpAny_bind (wpAny_field hob hd (x := .none) rfl (wpAny_bind (wpAny_field hob hd (x := .none) rfl (wpAny_bind (wpAny_field hob hd (x := vs) rfl (wpAny_pure ?_)))))))
  refine wpAny_bind (HT.slicePart_ ps ?_)
  show wpAny _ _ (if ((-1 : Int) == 0) = true then _ else _) _ _ s
  rw [if_neg (by decide)]
  refine wpAny_bind (slicePart_none (wpAny_bind (slicePart_none (wpAny_bind (wpAny_pure ?_)))))
  show wpAny _ _ (pure ((n : Int) - 1, (-1 : Int), Builtin.Slice.slicePlaces ((n : Int) - 1) (-1) (-1))) _ _ s
  rw [places_back]
  exact wpAny_pure h
theorem item_back {t sl : Addr} {its : List Value} {vs : Value} {Q : Value → Shared → Prop} (ht : IsTup s.heap t its.toArray) (hs : s.heap.IsSliceOf sl .none .none vs) (ps : IsPart vs (some (-1)))
    (h : Q (.ref s.heap.objs.size) { s with heap := s.heap.push { cls := .type "tuple", data := .seq its.reverse.toArray } }) (hsz : its.length ≤ sizeLine) : wpAny (model prog w) A (getItem (.ref t) (.ref sl)) Q E s := by
  have fits : sizeOk (.seq its.reverse.toArray) := by
    show its.reverse.toArray.size ≤ sizeLine
    rw [List.size_toArray, List.length_reverse]
    exact hsz
  obtain ⟨os, hos, hcs, hds⟩ := id hs
  have hT : s.TypeIs (.ref sl) "slice" := ⟨os, hos, hcs⟩
  unfold getItem
  try with_reducible refine wpAny_holding ?_
  first | refine wpAny_bind (wpAny_pure ?_) | skip
  refine wpAny_bind (wpAny_sequenceKey ht.typeIs (by decide) ?_)
  refine wpAny_bind (wpAny_callSpecial?_slot (name := Str.ofString "__getitem__") ht.typeIs PyProof.Rows.slot_tuple_getitem
    (wpAny_call_entry PyProof.Rows.slot_tuple_getitem ht.typeIs entry_tuple_getitem ?_ (args_tuple_getitem _ _)))
  show wpAny _ _ (Builtin.Tuple.tupleItemsOf (.ref t) >>= _) _ _ s
  refine wpAny_bind (tupleItemsOf_ ht (wpAny_bind (wpAny_typeOf hT ?_)))
  rw [if_pos (by decide)]
  have hn : its.toArray.size = its.length := List.size_toArray ..
  refine wpAny_bind (applied_back hs ps ?_)
  have hno : ¬ ((((its.toArray.size : Nat) : Int) - 1 == 0 && (-1 : Int) == 1 && its.toArray.size == its.toArray.size) = true) := by
    intro q
    rw [Bool.and_eq_true, Bool.and_eq_true] at q
    exact absurd q.1.2 (by decide)
  show wpAny _ _ (if (((its.toArray.size : Nat) : Int) - 1 == 0 && (-1 : Int) == 1 && its.toArray.size == its.toArray.size) = true then _ else _) _ _ s
  rw [if_neg hno, hn, pick_back]
  first
    | exact wpAny_bind (m := Builtin.Tuple.tupleExact _) (wpAny_newObj_type (wpAny_pure ⟨_, rfl, wpAny_pure h⟩) fits)
    | exact wpAny_bind (m := Builtin.Tuple.tupleExact _) (wpAny_newObj_type (wpAny_bind (wpAny_pure (wpAny_pure ⟨_, rfl, wpAny_pure h⟩))) fits)
    | exact wpAny_bind (wpAny_bind (m := Builtin.Tuple.tupleExact _) (wpAny_newObj_type (wpAny_pure (wpAny_pure ⟨_, rfl, wpAny_pure h⟩)) fits))
    | exact wpAny_bind (wpAny_bind (m := Builtin.Tuple.tupleExact _) (wpAny_newObj_type (wpAny_pure ⟨_, rfl, wpAny_pure h⟩) fits))
end
section
variable {X : Cx}
def tRevT (K : PySem.W.Frag) (te : TE) : TE := fun σ H Q => te σ H fun x H1 => ∃ a xs, x = .ref a ∧ SqT K H1 a xs ∧ ∀ p, H1 p = none → Q (.ref p) (upd H1 p (.tup xs.reverse))
theorem pe_revT {e : Expr} {te : TE} {k : Nat} {p1 p2 p3 pos : Pos} (he : PE X e te) : PE X (.Subscript e (.Slice none none (some (.UnaryOp .USub (.Constant (.int 1) k p1) p2)) p3) pos) (tRevT X.K te) := by
  refine ⟨fun pins s σ H Q I h => Subscript_ (thn (he.run pins s σ H _ I h) fun v s1 ⟨x, H1, I1, r1, q1⟩ => ?_)⟩
  obtain ⟨a, xs, rfl, hx, q⟩ := q1
  cases r1
  have hst : PO X (some (.UnaryOp .USub (.Constant (.int 1) k p1) p2)) (tPart (tUn (rU fun i => .int (-i)) (tC (.int 1)))) := po_some (pe_un un_neg pe_int)
  refine wpAny_Slice (thn (po_none.run pins s1 σ H1 (fun o H2 => o = none ∧ H2 = H1) I1 ⟨rfl, rfl⟩) fun vl s2 ⟨l, H2, I2, pl, el, e2⟩ => ?_)
  subst el e2
  refine thn (po_none.run pins s2 σ H2 (fun o H3 => o = none ∧ H3 = H2) I2 ⟨rfl, rfl⟩) fun vu s3 ⟨u, H3, I3, pu, eu, e3⟩ => ?_
  subst eu e3
  refine thn (hst.run pins s3 σ H3 (fun o H4 => o = some (-1) ∧ H4 = H3) I3 ⟨1, rfl, -1, rfl, rfl, rfl⟩) fun vs s4 ⟨o, H4, I4, ps, eo, e4⟩ => ?_
  subst eo e4
  cases pl
  cases pu
  have I5 : Inv X pins σ H4 { s4 with heap := s4.heap.push { cls := .type "slice", data := .fields #[.none, .none, vs] } } := I4.kept (t' := s4.toks) fun b ob q => Heap.get?_push_of_some _ q
  obtain ⟨its, r, ht, hz⟩ := I5.tuple hx
  have hlen := r.length
  show wpAny (model X.prog X.w) X.A (subscriptTail e (.Slice none none (some (.UnaryOp .USub (.Constant (.int 1) k p1) p2)) p3) (.ref a) (.ref s4.heap.objs.size)) (EP X pins σ Q) X.xe { s4 with heap := s4.heap.push { cls := .type "slice", data := .fields #[.none, .none, vs] } }
  refine tail_any (ops := [.ref a, .ref s4.heap.objs.size]) ht.typeIs (PyProof.Rows.slot_tuple_getitem.lookup) ?_ (by with_unfolding_all rfl)
  refine item_back ht (Heap.IsSliceOf.new _ .none .none vs) ps ?_ (by omega)
  refine ⟨.ref _, _, I5.laid (t' := s4.toks) (o := .tup xs.reverse) (fun b ob q => Heap.get?_push_of_some _ q) (Nat.le_refl _) ?_, rfl, q _ (I5.hok.fresh (Nat.le_refl _))⟩
  exact ⟨by rw [List.length_reverse]; exact hz, _, r.reverse, IsTup.new _ _⟩
end

/-! ### a tuple times one -/
theorem mul_one_meets (l : Addr) (items : Array Value) (n : Nat) (dd : Option Addr) (sl : Array (Option Value)) (u : Tok) :
    Meets (Builtin.«tuple.__mul__» ⟨[.ref l, .int 1 u], []⟩) (fun _ R v => v.heap.get? l = some { cls := .type "tuple", dict := dd, data := .seq items n, slots := sl } ∧ R (.ok (.ret (.ref l))) v) :=
  .of_wp fun P1 w1 A1 R1 v h => by
    obtain ⟨hp, gg, dd1, tk, oo⟩ := v
    obtain ⟨hl, hR⟩ := h
    have ix := AutoSeq1.idx_int
    have hT : Shared.TypeIs ⟨hp, gg, dd1, tk, oo⟩ (.ref l) "tuple" := ⟨_, hl, rfl⟩
    wp_walk using AutoSeq1.wpAny_loadPart' hl
    exact ⟨_, rfl, hR⟩
section
variable {X : Cx}
/-- t * 1 is t itself -/
def rRep1 (K : PySem.W.Frag) : R2 := fun x y H Q => ∃ l xs, x = .ref l ∧ y = .int 1 ∧ SqT K H l xs ∧ Q (.ref l) H
theorem op_rep1 : OpR X (binaryOp .Mult) (rRep1 X.K) := by
  intro pins s σ H x y v u Q I rx ry h
  obtain ⟨l, xs, rfl, rfl, hT, q⟩ := h
  cases rx
  obtain ⟨t, rfl⟩ := ry
  obtain ⟨its, r, ⟨⟨cls, dd, data, sl⟩, ho, hc, n, hd⟩, hs⟩ := I.tuple hT
  simp only at hc hd
  subst hc hd
  refine wpAny_binaryOp_repeat_ref (T := "tuple") (U := "int") (by decide) ⟨_, ho, rfl⟩ (fun s2 => typeIs_int s2 1 t) noFill_tuple_mul F.fills_int_mul F.slot_int_rmul repeat_tuple F.slot_int_index.lookup
    (call_meets F.slot_int_rmul (typeIs_int s 1 t) F.entry_int_rmul (F.args_int_rmul_2 _ _) (int_rmul_tuple 1 t l its.toArray n dd sl)
      ⟨ho, rfl, ⟨_, ho, rfl⟩, call_meets F.slot_tuple_mul ⟨_, ho, rfl⟩ F.entry_tuple_mul (F.args_tuple_mul_2 _ _) (mul_one_meets l its.toArray n dd sl t) ⟨ho, .ref l, H, I, rfl, q⟩⟩)
end

/-! ### sorted(t), t a tuple of ints -/
section
variable {prog : Program} {w : World} {A : Around} {E : Value → Shared → Prop} {s : Shared}
theorem collect_tup {l : Addr} {vs : List Value} {Q : List Value → Shared → Prop} (hl : IsTup s.heap l vs.toArray)
    (h : Q vs { s with heap := (s.heap.push (seqObj "list" #[] 0)).update s.heap.objs.size (Obj.mapSeq (· ++ vs.toArray)) }) (hsz : vs.length ≤ sizeLine) : wpAny (model prog w) A (collect (.ref l)) Q E s := by
  obtain ⟨o, ho, hc, n, hd⟩ := id hl
  unfold collect
  refine wpAny_bind (wpAny_runValue (codeAny_builtin entry_proto_collect' ?_))
  show wpAny _ _ (do again (.builtin "list.__iadd__" ⟨[← newList [], .ref l], []⟩)) _ _ s
  refine wpAny_bind (wpAny_newList (wpAny_pure ⟨Code.quiet_builtin _ (by decide +kernel), codeAny_builtin entry_list_iadd' ?_⟩))
  show wpAny _ _ (Builtin.List.listExtendWith (.ref s.heap.objs.size) (.ref l) (.ref s.heap.objs.size)) _ _ { s with heap := s.heap.push (seqObj "list" #[] 0) }
  unfold Builtin.List.listExtendWith
  have ho2 : (s.heap.push (seqObj "list" #[] 0)).get? l = some o := Heap.get?_push_of_some _ ho
  refine wpAny_bind (wpAny_typeOf (T := "tuple") ⟨o, ho2, hc⟩ ?_)
  have same : (Value.type "tuple" == Value.type "tuple") = true := by rfl
  rw [if_pos (by rw [same]; simp)]
  refine wpAny_bind (listItems_at ho2 hd ?_)
  refine wpAny_bind (listItems_at (xs := #[]) (n := 0) (Heap.get?_push_size _ rfl) rfl ?_)
  rw [if_neg (by simp)]
  refine wpAny_bind (listUpdate_at (xs := #[]) (n := 0) (Heap.get?_push_size _ rfl) rfl ?_ (Nat.zero_le _) (by show (#[] ++ vs.toArray).size ≤ sizeLine + 1; simp only [Array.size_append, List.size_toArray, List.length_nil]; omega))
  refine wpAny_pure ?_
  show wpAny (model prog w) A (do
      let o ← load s.heap.objs.size
      match o.data with
      | .seq xs _ => pure xs.toList
      | _ => unsupported "internal:collect") Q E { s with heap := (s.heap.push (seqObj "list" #[] 0)).update s.heap.objs.size (Obj.mapSeq (· ++ vs.toArray)) }
  refine wpAny_bind (wpAny_load (get?_update_seq (Heap.get?_push_size _ rfl) _) ?_)
  show wpAny _ _ (pure ((#[] : Array Value) ++ vs.toArray).toList) Q E _
  rw [show ((#[] : Array Value) ++ vs.toArray).toList = vs by simp]
  exact wpAny_pure h
theorem sorted_tupInts {l : Addr} {vs : List Value} {ns : List Int} {Q : Value → Shared → Prop} (hl : IsTup s.heap l vs.toArray) (hI : IntsAre vs ns) (h64 : vs.length < 64)
    (h : ∀ (out : Array Value) (ns2 : List Int), IntsAre out.toList ns2 → ns2.Perm ns → ns2.Pairwise (· ≤ ·) → Q (.ref (s.heap.objs.size + 1)) { s with heap := sortedAll s.heap vs out }) :
    wpAny (model prog w) A (call (.builtin "sorted") [.ref l]) Q E s := by
  refine Calls.call_function_entry kind_sorted plain_sorted entry_sorted (args_sorted1 _) ?_
  unfold Builtin.«sorted»
  have hL : vs.length ≤ sizeLine := by
    rw [sizeLine_eq]
    omega
  refine wpAny_bind (m := checkCount "sorted" 1 1 _) (wpAny_pure ?_)
  refine wpAny_bind (collect_tup hl (wpAny_bind (wpAny_newList ?_ hL)) hL)
  have e1 : ((s.heap.push (seqObj "list" #[] 0)).update s.heap.objs.size (Obj.mapSeq (· ++ vs.toArray))).objs.size = s.heap.objs.size + 1 := by
    rw [Heap.size_update, size_push']
  show wpAny _ _ _ _ _ { s with heap := copyHeap s.heap vs }
  rw [e1]
  refine wpAny_bind (wpAny_holding (wpAny_call_entry slot_list_sort ⟨_, copyHeap_at s.heap vs, rfl⟩ entry_list_sort (list_sort_tree (copyHeap_at s.heap vs) hI h64 fun out ns2 a1 a2 a3 => ⟨_, rfl, ?_⟩) (args_list_sort _)))
  exact wpAny_pure ⟨_, rfl, h out ns2 a1 a2 a3⟩
end
section
variable {X : Cx}
def rSortedTp (K : PySem.W.Frag) : List V → Hp → VK → Prop := fun vs H Q => ∃ (a : Addr) (ns : List Int), vs = [V.ref a] ∧ SqT K H a (ns.map V.int) ∧ ns.length < 64 ∧
  ∀ (ns2 : List Int) (p : Addr), ns2.Perm ns → ns2.Pairwise (· ≤ ·) → H p = none → Q (.ref p) (upd H p (.lst (ns2.map V.int)))
theorem cr_sortedTp : CallR X (.builtin "sorted") (rSortedTp X.K) := by
  intro pins s σ H vs us Q I r h
  obtain ⟨a, ns, rfl, hs, h64, q⟩ := h
  obtain ⟨its, rv, hl, _⟩ := I.tuple hs
  rw [Vals.ref1 r]
  have hi := rv.ints
  refine sorted_tupInts hl hi (by rw [hi.length]; exact h64) fun out ns2 h1 h2 h3 => ?_
  obtain ⟨ep, he⟩ := PyProof.Rows.sortedAll_at s.heap its out
  have hlen : (ns2.map V.int).length ≤ sizeLine := by
    rw [List.length_map, h2.length_eq]
    exact small64 h64
  exact ⟨.ref _, upd H (s.heap.objs.size + 1) (.lst (ns2.map V.int)), I.laid (t' := s.toks) (fun _ _ => PyProof.Rows.sortedAll_old) (Nat.le_succ _) ⟨hlen, out.toList, ep, vals_of_ints h1, he⟩, rfl, q ns2 _ h2 h3 (I.hok.fresh (Nat.le_succ _))⟩
end
end RB

/-! RbSort: sorted of a list of int tuples of unlike lengths, the first of which is empty: some arrangement of it. -/
namespace RB
open PySem PySem.Spec PySem.W PyProof.Rows L2

@[reducible] def intO : KeyOrd where
  α := Int
  blt a c := decide (a < c)
  irrefl a := by simp
  trans a c d h1 h2 := by
    simp only [decide_eq_true_eq] at *
    omega
  negTrans a c d h := by
    simp only [decide_eq_true_eq] at *
    omega
  total a c h1 h2 := by
    simp only [decide_eq_false_iff_not] at *
    omega
theorem lex_same : ∀ xs ys : List Int, HT.lexLt xs ys = PyProof.Rows.lexLt intO xs ys
  | [], [] => rfl
  | [], _ :: _ => rfl
  | _ :: _, [] => rfl
  | x :: xs, y :: ys => by
    have ih := lex_same xs ys
    show (if x = y then HT.lexLt xs ys else decide (x < y)) = (decide (x < y) || (!decide (y < x) && PyProof.Rows.lexLt intO xs ys))
    by_cases e : x = y
    · subst e
      rw [if_pos rfl, ih, decide_eq_false (Int.lt_irrefl x)]
      simp
    · rw [if_neg e]
      by_cases h : x < y
      · rw [decide_eq_true h]
        rfl
      · rw [decide_eq_false h, decide_eq_true (show y < x by omega)]
        rfl

/-- the tuples at the addresses rs by their ints -/
@[reducible] def refKind (rs : List Addr) (D : Addr → List Int) : PyProof.Rows.KeyKind where
  toKeyOrd := listOrd intO
  keyOf v := match v with
    | .ref r => if rs.contains r = true then some (D r) else none
    | _ => none
  dflt := ([] : List Int)
theorem refKind_inv {rs : List Addr} {D : Addr → List Int} {v : Value} {k : List Int} (e : (refKind rs D).keyOf v = some k) : ∃ r, v = .ref r ∧ r ∈ rs ∧ k = D r := by
  cases v with
  | ref r =>
    have e1 : (if rs.contains r = true then some (D r) else none) = some k := e
    by_cases h : rs.contains r = true
    · rw [if_pos h] at e1
      exact ⟨r, rfl, by simpa using h, (Option.some.inj e1).symm⟩
    · rw [if_neg h] at e1
      cases e1
  | _ => cases e

section
variable {prog : Program} {w : World} {A : Around} {E : Value → Shared → Prop} {s : Shared}
theorem oneLt_tup {l b : Addr} {items items2 : Array Value} {ns ms : List Int} {Q : Bool → Shared → Prop} (hl : IsTup s.heap l items) (hb : IsTup s.heap b items2) (hi : IntsAre items.toList ns) (hj : IntsAre items2.toList ms)
    (hu : A.units < cLine) (h : Q (HT.lexLt ns ms) s) : wpAny (model prog w) A (oneLt' true (.ref l) (.ref b)) Q E s := by
  obtain ⟨⟨cls, dd, data, sl⟩, ho, hc, n, hd⟩ := id hl
  obtain ⟨⟨cls2, dd2, data2, sl2⟩, ho2, hc2, n2, hd2⟩ := id hb
  simp only at hc hd hc2 hd2
  subst hc hd hc2 hd2
  rw [oneLt'_eq]
  simp only [if_true]
  refine wpAny_bind (wpAny_cRoomFor hu ?_)
  refine wpAny_bind (wpAny_callSpecialIfBound?_slot (T := "tuple") ⟨_, ho, rfl⟩ F.slot_tuple_lt (call_meets F.slot_tuple_lt ⟨_, ho, rfl⟩ F.entry_tuple_lt (F.args_tuple_lt_2 _ _)
    (HT.tuple_lt_ints l b items items2 n n2 dd dd2 sl sl2 ns ms hi hj) ⟨ho, ho2, ?_⟩))
  exact wpAny_truthy_bool h
/-- mapM over what each item gives -/
theorem mapM_each {M : Model} {α β : Type} {f : α → Sem β} (g : α → β) : ∀ (l : List α) {Q : List β → Shared → Prop}, (∀ v ∈ l, ∀ Q2 : β → Shared → Prop, Q2 (g v) s → wpAny M A (f v) Q2 E s) → Q (l.map g) s → wpAny M A (l.mapM f) Q E s
  | [], _, _, h => by
    rw [List.mapM_nil]
    exact wpAny_pure h
  | x :: l, Q, hf, h => by
    rw [List.mapM_cons]
    exact wpAny_bind (hf x (.head _) _ (wpAny_bind (mapM_each g l (Q := fun bs u => wpAny M A (pure (g x :: bs)) Q E u) (fun v hv => hf v (.tail _ hv)) (wpAny_pure h))))
/-- keys that are tuples, the first of them empty: each is asked by its class's own order -/
theorem kind_empty {vs : List Value} (I : Value → List Value) {v0 : Value} {rest : List Value} {Q : SortKind → Shared → Prop} (e : vs = v0 :: rest) (h0 : I v0 = [])
    (hv : ∀ v ∈ vs, ∃ r o n, v = .ref r ∧ s.heap.get? r = some o ∧ o.cls = .type "tuple" ∧ o.data = .seq (I v).toArray n) (h : Q oneType' s) : wpAny (model prog w) A (keyKind' vs.toArray) Q E s := by
  subst e
  have looks : ∀ v ∈ v0 :: rest, ∀ Q2 : Value → Shared → Prop, Q2 (.type "tuple") s → wpAny (model prog w) A (typeOf v) Q2 E s := fun v hm Q2 hq => by
    obtain ⟨r, o, n, rfl, ho, hc, hd⟩ := hv v hm
    exact wpAny_typeOf (T := "tuple") ⟨o, ho, hc⟩ hq
  rw [keyKind'_eq, List.mapM_toArray, map_eq_pure_bind]
  refine wpAny_bind (wpAny_bind (mapM_each (fun v => (I v).toArray[0]?) _ (fun v hm Q2 hq => ?_) (wpAny_pure ?_)))
  · rw [kas_first_eq]
    obtain ⟨r, o, n, rfl, ho, hc, hd⟩ := hv v hm
    refine wpAny_bind (wpAny_typeOf (T := "tuple") ⟨o, ho, hc⟩ ?_)
    have same : (Value.type "tuple" != Value.type "tuple") = false := by rfl
    rw [same, if_neg (by simp)]
    exact wpAny_bind (listItems_at ho hd (wpAny_pure hq))
  · have e1 : ((I v0).toArray[0]?) = none := by rw [h0]; rfl
    rw [if_neg (by simp [h0]), if_neg (by simp [h0])]
    rw [oneTypeOnly'_eq, List.mapM_toArray, map_eq_pure_bind]
    refine wpAny_bind (wpAny_bind (wpAny_bind (mapM_each (fun _ => Value.type "tuple") _ (fun v hm Q2 hq => looks v hm Q2 hq) (wpAny_pure ?_))))
    have same : (Value.type "tuple" == Value.type "tuple") = true := by rfl
    have hall : ((List.map (fun _ => Value.type "tuple") (v0 :: rest)).toArray.all fun x => x == Value.type "tuple") = true := by
      simp only [List.all_toArray, List.all_map, List.all_eq_true]
      intro _ _
      exact same
    have hz : (List.map (fun _ => Value.type "tuple") (v0 :: rest)).toArray[0]? = some (Value.type "tuple") := by simp
    rw [hz]
    simp only [hall, if_true]
    exact wpAny_pure (wpAny_pure h)
theorem sorts_tups {rs : List Addr} {r0 : Addr} {rest : List Addr} {D : Addr → List Int} (T : Addr → List Value) (e : rs = r0 :: rest) (h0 : T r0 = []) (ht : ∀ r ∈ rs, IsTup s.heap r (T r).toArray ∧ IntsAre (T r) (D r)) (hu : A.units < cLine) :
    SortsAt prog w A s (refKind rs D) (rs.map Value.ref) := by
  refine ⟨fun v hv => ?_, oneType', ?_, fun h2 E Q hq => ?_⟩
  · obtain ⟨r, hr, rfl⟩ := List.mem_map.mp hv
    refine ⟨D r, ?_⟩
    show (if rs.contains r = true then some (D r) else none) = some (D r)
    rw [if_pos (by simpa using hr)]
  · intro E x y a c Q ha hb hq
    obtain ⟨r1, rfl, m1, rfl⟩ := refKind_inv ha
    obtain ⟨r2, rfl, m2, rfl⟩ := refKind_inv hb
    rw [keyLt'_oneType]
    obtain ⟨t1, i1⟩ := ht r1 m1
    obtain ⟨t2, i2⟩ := ht r2 m2
    refine oneLt_tup t1 t2 (ns := D r1) (ms := D r2) (by simpa using i1) (by simpa using i2) hu ?_
    rw [lex_same]
    exact hq
  · refine kind_empty (fun v => match v with | .ref r => T r | _ => []) (v0 := .ref r0) (rest := rest.map Value.ref) (by rw [e]; rfl) h0 (fun v hv => ?_) hq
    obtain ⟨r, hr, rfl⟩ := List.mem_map.mp hv
    obtain ⟨⟨o, ho, hc, n, hd⟩, _⟩ := ht r hr
    exact ⟨r, o, n, rfl, ho, hc, hd⟩
end
def unref : Value → Addr
  | .ref r => r
  | _ => 0
theorem perm_refs {l : List Value} {rs : List Addr} (p : l.Perm (rs.map Value.ref)) : ∃ qs : List Addr, l = qs.map Value.ref ∧ qs.Perm rs := by
  refine ⟨l.map unref, ?_, ?_⟩
  · have all : ∀ v ∈ l, Value.ref (unref v) = v := fun v hv => by
      obtain ⟨r, _, rfl⟩ := List.mem_map.mp (p.mem_iff.mp hv)
      rfl
    rw [List.map_map]
    have : l.map (Value.ref ∘ unref) = l.map id := List.map_congr_left all
    rw [this, List.map_id]
  · have z := p.map unref
    rw [List.map_map] at z
    have e : (unref ∘ Value.ref) = (id : Addr → Addr) := rfl
    rw [e, List.map_id] at z
    exact z
theorem vals_ref : ∀ rs : List Addr, Vals (rs.map V.ref) (rs.map Value.ref)
  | [] => .nil
  | _ :: rs => .cons rfl (vals_ref rs)
section
variable {X : Cx}
def rSortR (K : PySem.W.Frag) : List V → Hp → VK → Prop := fun vs H Q => ∃ (a r0 : Addr) (rest : List Addr) (D : Addr → List Int), vs = [V.ref a] ∧ SqL K H a ((r0 :: rest).map V.ref) ∧ D r0 = [] ∧
  (∀ r ∈ r0 :: rest, H r = some (.tup ((D r).map V.int))) ∧ ∀ (rs : List Addr) (p : Addr), rs.Perm (r0 :: rest) → H p = none → Q (.ref p) (upd H p (.lst (rs.map V.ref)))
theorem cr_sortedR (hu : X.A.units + 2 < cLine) : CallR X (.builtin "sorted") (rSortR X.K) := by
  intro pins s σ H vs us Q I r h
  obtain ⟨a, r0, rest, D, rfl, hs, h0, ht, q⟩ := h
  obtain ⟨its, rv, hl, hz⟩ := I.list hs
  rw [Vals.ref1 r]
  have ei := refs_at rv
  subst ei
  have tups : ∀ r ∈ r0 :: rest, ∃ is : List Value, IsTup s.heap r is.toArray ∧ Vals ((D r).map V.int) is := fun r hr => by
    obtain ⟨_, is, rv2, p⟩ := (show ObjOk X.prog X.w H s.heap r (.tup ((D r).map V.int)) from I.hok r _ (ht r hr))
    exact ⟨is, p, rv2⟩
  have ch : ∃ T : Addr → List Value, ∀ r ∈ r0 :: rest, IsTup s.heap r (T r).toArray ∧ Vals ((D r).map V.int) (T r) := by
    refine ⟨fun r => open Classical in if h : r ∈ r0 :: rest then (tups r h).choose else [], fun r hr => ?_⟩
    have z := (tups r hr).choose_spec
    simp only [dif_pos hr]
    exact z
  obtain ⟨T, hT⟩ := ch
  have t0 : T r0 = [] := by
    have z := (hT r0 (by simp)).2
    rw [h0] at z
    exact Vals.zero z
  refine sorted_vals (κ := refKind (r0 :: rest) D) hl.isList (sorts_tups T rfl t0 (fun r hr => ?_) ?_) (by rw [List.length_map] at hz ⊢; exact hz) ?_
  · obtain ⟨⟨o, ho, hc⟩, hi⟩ := hT r hr
    exact ⟨⟨o, sorting_copy_old ho, hc⟩, hi.ints⟩
  · exact hu
  · obtain ⟨ep, he⟩ := PyProof.Rows.sortedAll_at s.heap ((r0 :: rest).map Value.ref) (sortVals (refKind (r0 :: rest) D) false ((r0 :: rest).map Value.ref) ((r0 :: rest).map Value.ref)).toArray
    have perm : (sortVals (refKind (r0 :: rest) D) false ((r0 :: rest).map Value.ref) ((r0 :: rest).map Value.ref)).Perm ((r0 :: rest).map Value.ref) := by
      unfold sortVals
      have z := (List.mergeSort_perm (((r0 :: rest).map Value.ref).zip ((r0 :: rest).map Value.ref)) (sortLe (refKind (r0 :: rest) D).toKeyOrd false fun p : Keyed => keyD (refKind (r0 :: rest) D) p.1)).map Prod.snd
      rw [List.map_snd_zip (Nat.le_refl _)] at z
      exact z
    obtain ⟨qs, eq, pq⟩ := perm_refs perm
    rw [eq] at he ⊢
    have hlen : (qs.map V.ref).length ≤ sizeLine := by
      rw [List.length_map, pq.length_eq, ← List.length_map (f := V.ref)]
      exact hz
    exact ⟨.ref _, upd H (s.heap.objs.size + 1) (.lst (qs.map V.ref)), I.laid (t' := s.toks) (fun _ _ => PyProof.Rows.sortedAll_old) (Nat.le_succ _) ⟨hlen, qs.map Value.ref, ep, vals_ref qs, he⟩, rfl, q qs _ pq (I.hok.fresh (Nat.le_succ _))⟩
end
end RB

/-! RbMath: the plain side: relations, sets of players, orders. No program in sight. -/
namespace RB
open Classical

/-- the players that i beats -/
def row (n : Nat) (b : Nat → Nat → Bool) (i : Nat) : List Nat := (List.range n).filter (b i)
def IsT (n : Nat) (b : Nat → Nat → Bool) : Prop := ∀ i, i < n → b i i = false ∧ ∀ j, j < n → i ≠ j → b i j = !b j i
/-- the relation that the pairs f x y (x beats y) make -/
noncomputable def img (n : Nat) (b : Nat → Nat → Bool) (f : Nat → Nat → Int × Int) (i j : Nat) : Bool :=
  decide (∃ x y, x < n ∧ y < n ∧ b x y = true ∧ f x y = ((i : Int), (j : Int)))
def fsw (ks : List Int) (x y : Nat) : Int × Int := if ((x : Int) ∈ ks) = ((y : Int) ∈ ks) then ((x : Int), (y : Int)) else ((y : Int), (x : Int))
def fren (os : List Int) (x y : Nat) : Int × Int := (os.getD x 0, os.getD y 0)
def rng (n : Nat) : List Int := (List.range n).map fun i : Nat => (i : Int)
def Asc (n : Nat) (ks : List Int) : Prop := (∀ k ∈ ks, 0 ≤ k ∧ k < (n : Int)) ∧ ks.Pairwise (· < ·)

theorem mem_row {n : Nat} {b : Nat → Nat → Bool} {i j : Nat} : j ∈ row n b i ↔ j < n ∧ b i j = true := by
  unfold row
  rw [List.mem_filter, List.mem_range]
theorem row_len (n : Nat) (b : Nat → Nat → Bool) (i : Nat) : (row n b i).length ≤ n := by
  have h := List.length_filter_le (b i) (List.range n)
  rw [List.length_range] at h
  exact h
theorem row_asc (n : Nat) (b : Nat → Nat → Bool) (i : Nat) : (row n b i).Pairwise (· < ·) := by
  unfold row
  exact List.Pairwise.filter _ List.pairwise_lt_range
theorem row_congr {n : Nat} {b b' : Nat → Nat → Bool} (h : ∀ i, i < n → ∀ j, j < n → b i j = b' i j) {i : Nat} (hi : i < n) : row n b i = row n b' i := by
  unfold row
  refine List.filter_congr fun j hj => ?_
  exact h i hi j (List.mem_range.mp hj)
theorem rng_len (n : Nat) : (rng n).length = n := by
  unfold rng
  rw [List.length_map, List.length_range]
theorem mem_rng {n : Nat} {z : Int} : z ∈ rng n ↔ 0 ≤ z ∧ z < (n : Int) := by
  unfold rng
  rw [List.mem_map]
  constructor
  · rintro ⟨i, hi, rfl⟩
    rw [List.mem_range] at hi
    omega
  · intro h
    exact ⟨z.toNat, by rw [List.mem_range]; omega, by omega⟩
theorem rng_nodup (n : Nat) : (rng n).Nodup := by
  unfold rng
  show List.Pairwise _ _
  rw [List.pairwise_map]
  refine List.Pairwise.imp (fun {a c} h => ?_) (List.pairwise_lt_range (n := n))
  intro e
  have : a = c := by omega
  omega
theorem rng_sorted (n : Nat) : (rng n).Pairwise (· ≤ ·) := by
  unfold rng
  rw [List.pairwise_map]
  refine List.Pairwise.imp (fun {a c} h => ?_) (List.pairwise_lt_range (n := n))
  omega

theorem img_sw {n : Nat} {b : Nat → Nat → Bool} (ks : List Int) {i j : Nat} (hi : i < n) (hj : j < n) : img n b (fsw ks) i j = if ((i : Int) ∈ ks) = ((j : Int) ∈ ks) then b i j else b j i := by
  unfold img
  by_cases h : ((i : Int) ∈ ks) = ((j : Int) ∈ ks)
  · rw [if_pos h]
    cases hb : b i j with
    | true => exact decide_eq_true ⟨i, j, hi, hj, hb, by unfold fsw; rw [if_pos h]⟩
    | false =>
      refine decide_eq_false ?_
      rintro ⟨x, y, hx, hy, hxy, e⟩
      unfold fsw at e
      by_cases h2 : ((x : Int) ∈ ks) = ((y : Int) ∈ ks)
      · rw [if_pos h2] at e
        have e1 : x = i := by have := congrArg Prod.fst e; simp only at this; omega
        have e2 : y = j := by have := congrArg Prod.snd e; simp only at this; omega
        rw [e1, e2, hb] at hxy
        cases hxy
      · rw [if_neg h2] at e
        have e1 : y = i := by have := congrArg Prod.fst e; simp only at this; omega
        have e2 : x = j := by have := congrArg Prod.snd e; simp only at this; omega
        rw [e1, e2] at h2
        exact h2 h.symm
  · rw [if_neg h]
    cases hb : b j i with
    | true => exact decide_eq_true ⟨j, i, hj, hi, hb, by unfold fsw; rw [if_neg (fun z => h z.symm)]⟩
    | false =>
      refine decide_eq_false ?_
      rintro ⟨x, y, hx, hy, hxy, e⟩
      unfold fsw at e
      by_cases h2 : ((x : Int) ∈ ks) = ((y : Int) ∈ ks)
      · rw [if_pos h2] at e
        have e1 : x = i := by have := congrArg Prod.fst e; simp only at this; omega
        have e2 : y = j := by have := congrArg Prod.snd e; simp only at this; omega
        rw [e1, e2] at h2
        exact h h2
      · rw [if_neg h2] at e
        have e1 : y = i := by have := congrArg Prod.fst e; simp only at this; omega
        have e2 : x = j := by have := congrArg Prod.snd e; simp only at this; omega
        rw [e1, e2, hb] at hxy
        cases hxy
theorem isT_sw {n : Nat} {b : Nat → Nat → Bool} (h : IsT n b) (ks : List Int) : IsT n (img n b (fsw ks)) := by
  intro i hi
  refine ⟨?_, fun j hj hij => ?_⟩
  · rw [img_sw ks hi hi, if_pos rfl]
    exact (h i hi).1
  · rw [img_sw ks hi hj, img_sw ks hj hi]
    by_cases e : ((i : Int) ∈ ks) = ((j : Int) ∈ ks)
    · rw [if_pos e, if_pos e.symm]
      exact (h i hi).2 j hj hij
    · rw [if_neg e, if_neg (fun z => e z.symm)]
      exact (h j hj).2 i hi (Ne.symm hij)
theorem perm_get {n : Nat} {os : List Int} (p : os.Perm (rng n)) {i : Nat} (hi : i < n) : ∃ x, x < n ∧ os.getD x 0 = (i : Int) := by
  have hm : (i : Int) ∈ os := p.mem_iff.mpr (mem_rng.mpr ⟨by omega, by omega⟩)
  obtain ⟨x, hx, e⟩ := List.getElem_of_mem hm
  have hl : os.length = n := by rw [p.length_eq, rng_len]
  refine ⟨x, by omega, ?_⟩
  rw [List.getD_eq_getElem?_getD, List.getElem?_eq_getElem hx, e]
  rfl
theorem perm_inj {n : Nat} {os : List Int} (p : os.Perm (rng n)) {x y : Nat} (hx : x < n) (hy : y < n) (e : os.getD x 0 = os.getD y 0) : x = y := by
  have hl : os.length = n := by rw [p.length_eq, rng_len]
  have nd : os.Nodup := p.nodup_iff.mpr (rng_nodup n)
  rw [List.getD_eq_getElem?_getD, List.getD_eq_getElem?_getD, List.getElem?_eq_getElem (by omega), List.getElem?_eq_getElem (by omega)] at e
  exact (List.getElem_inj nd).mp e
theorem img_ren {n : Nat} {b : Nat → Nat → Bool} {os : List Int} (p : os.Perm (rng n)) {x y : Nat} (hx : x < n) (hy : y < n) {i j : Nat} (ei : os.getD x 0 = (i : Int)) (ej : os.getD y 0 = (j : Int)) : img n b (fren os) i j = b x y := by
  unfold img
  cases hb : b x y with
  | true => exact decide_eq_true ⟨x, y, hx, hy, hb, by unfold fren; rw [ei, ej]⟩
  | false =>
    refine decide_eq_false ?_
    rintro ⟨x', y', hx', hy', hxy, e⟩
    unfold fren at e
    have e1 : os.getD x' 0 = (i : Int) := congrArg Prod.fst e
    have e2 : os.getD y' 0 = (j : Int) := congrArg Prod.snd e
    have f1 := perm_inj p hx' hx (e1.trans ei.symm)
    have f2 := perm_inj p hy' hy (e2.trans ej.symm)
    rw [f1, f2, hb] at hxy
    cases hxy
theorem isT_ren {n : Nat} {b : Nat → Nat → Bool} (h : IsT n b) {os : List Int} (p : os.Perm (rng n)) : IsT n (img n b (fren os)) := by
  intro i hi
  obtain ⟨x, hx, ex⟩ := perm_get p hi
  refine ⟨?_, fun j hj hij => ?_⟩
  · rw [img_ren p hx hx ex ex]
    exact (h x hx).1
  · obtain ⟨y, hy, ey⟩ := perm_get p hj
    rw [img_ren p hx hy ex ey, img_ren p hy hx ey ex]
    refine (h x hx).2 y hy fun e => hij ?_
    rw [e, ey] at ex
    omega

/-! ### all subsets, ascending -/
def subs : Nat → List (List Int)
  | 0 => [[]]
  | p + 1 => subs p ++ (subs p).map fun r => r ++ [(p : Int)]
theorem subs_len : ∀ p, (subs p).length = 2 ^ p
  | 0 => rfl
  | p + 1 => by
    show (subs p ++ (subs p).map _).length = _
    rw [List.length_append, List.length_map, subs_len p, Nat.pow_succ]
    omega
theorem asc_snoc {p : Nat} {r : List Int} (h : Asc p r) : Asc (p + 1) (r ++ [(p : Int)]) := by
  refine ⟨fun k hk => ?_, ?_⟩
  · rcases List.mem_append.mp hk with hk | hk
    · have := h.1 k hk
      omega
    · have : k = (p : Int) := by simpa using hk
      omega
  · rw [List.pairwise_append]
    refine ⟨h.2, List.pairwise_singleton _ _, fun a ha c hc => ?_⟩
    have e : c = (p : Int) := by simpa using hc
    have := h.1 a ha
    omega
theorem asc_succ {p : Nat} {r : List Int} (h : Asc p r) : Asc (p + 1) r := ⟨fun k hk => by have := h.1 k hk; omega, h.2⟩
theorem asc_of_subs : ∀ {p : Nat} {r : List Int}, r ∈ subs p → Asc p r
  | 0, r, h => by
    have e : r = [] := by simpa [subs] using h
    subst e
    exact ⟨fun k hk => (nomatch hk), List.Pairwise.nil⟩
  | p + 1, r, h => by
    rcases List.mem_append.mp h with h | h
    · exact asc_succ (asc_of_subs h)
    · obtain ⟨q, hq, rfl⟩ := List.mem_map.mp h
      exact asc_snoc (asc_of_subs hq)
theorem subs_short : ∀ {p : Nat} {r : List Int}, r ∈ subs p → r.length ≤ p
  | 0, r, h => by
    have e : r = [] := by simpa [subs] using h
    subst e
    exact Nat.le_refl _
  | p + 1, r, h => by
    rcases List.mem_append.mp h with h | h
    · have := subs_short h
      omega
    · obtain ⟨q, hq, rfl⟩ := List.mem_map.mp h
      have := subs_short hq
      rw [List.length_append]
      show q.length + 1 ≤ p + 1
      omega
theorem pw_snoc {r : List Int} {z : Int} (h : (r ++ [z]).Pairwise (· < ·)) : r.Pairwise (· < ·) ∧ ∀ a ∈ r, a < z := by
  rw [List.pairwise_append] at h
  exact ⟨h.1, fun a ha => h.2.2 a ha z (by simp)⟩
theorem subs_of_asc : ∀ {p : Nat} {r : List Int}, Asc p r → r ∈ subs p
  | 0, r, h => by
    cases r with
    | nil => simp [subs]
    | cons a r =>
      have := h.1 a (by simp)
      omega
  | p + 1, r, h => by
    by_cases hm : (p : Int) ∈ r
    · -- it is the last one
      have hne : r ≠ [] := fun e => by rw [e] at hm; cases hm
      have es := (List.dropLast_concat_getLast hne).symm
      have h2 := h.2
      rw [es] at h2
      obtain ⟨a1, a2⟩ := pw_snoc h2
      have hl : r.getLast hne = (p : Int) := by
        rw [es] at hm
        rcases List.mem_append.mp hm with hm | hm
        · have q1 := a2 _ hm
          have q2 := h.1 _ (List.getLast_mem hne)
          omega
        · exact (by simpa using hm : (p : Int) = r.getLast hne).symm
      rw [hl] at es a2
      have q : Asc p r.dropLast := ⟨fun k hk => ⟨(h.1 k (by rw [es]; exact List.mem_append_left _ hk)).1, a2 k hk⟩, a1⟩
      show r ∈ subs p ++ (subs p).map _
      refine List.mem_append_right _ (List.mem_map.mpr ⟨r.dropLast, subs_of_asc q, es.symm⟩)
    · show r ∈ subs p ++ (subs p).map _
      refine List.mem_append_left _ (subs_of_asc ⟨fun k hk => ?_, h.2⟩)
      have q := h.1 k hk
      have : k ≠ (p : Int) := fun e => hm (e ▸ hk)
      omega
theorem mem_subs {p : Nat} {r : List Int} : r ∈ subs p ↔ Asc p r := ⟨asc_of_subs, subs_of_asc⟩

/-! ### sorted -/
theorem pw_eq : ∀ {a c : List Int}, a.Perm c → a.Pairwise (· ≤ ·) → c.Pairwise (· ≤ ·) → a = c := fun p h1 h2 =>
  List.Perm.eq_of_pairwise (fun _ _ _ _ h3 h4 => Int.le_antisymm h3 h4) h1 h2 p
theorem sorted_is {n : Nat} {os ns : List Int} (p : ns.Perm os) (h : ns.Pairwise (· ≤ ·)) : ns = rng n ↔ os.Perm (rng n) := by
  constructor
  · intro e
    rw [← e]
    exact p.symm
  · intro q
    exact pw_eq (p.trans q) h (rng_sorted n)

/-! ### ascending, as the program asks -/
theorem asc_iff_steps : ∀ {ks : List Int}, ks.Pairwise (· < ·) ↔ ∀ i, i + 1 < ks.length → ks.getD i 0 < ks.getD (i + 1) 0
  | [] => by
    constructor
    · intro _ i hi
      simp at hi
    · intro _
      exact List.Pairwise.nil
  | [a] => by
    constructor
    · intro _ i hi
      simp at hi
    · intro _
      exact List.pairwise_singleton _ _
  | a :: c :: r => by
    have ih := @asc_iff_steps (c :: r)
    constructor
    · intro h i hi
      obtain ⟨h1, h2⟩ := List.pairwise_cons.mp h
      cases i with
      | zero => exact h1 c (by simp)
      | succ i => exact ih.mp h2 i (by simp at hi ⊢; omega)
    · intro h
      have h0 : a < c := h 0 (by simp)
      have h2 : (c :: r).Pairwise (· < ·) := ih.mpr fun i hi => h (i + 1) (by simp at hi ⊢; omega)
      refine List.pairwise_cons.mpr ⟨fun z hz => ?_, h2⟩
      rcases List.mem_cons.mp hz with rfl | hz
      · exact h0
      · have := (List.pairwise_cons.mp h2).1 z hz
        omega

/-! ### the tournament of a signed order -/
def tofP (ps : List (Nat × Bool)) (i j : Nat) : Prop := ∃ (a c : Nat) (x y : Nat × Bool), a < c ∧ ps[a]? = some x ∧ ps[c]? = some y ∧ (if x.2 = y.2 then i = x.1 ∧ j = y.1 else i = y.1 ∧ j = x.1)
noncomputable def tof (ps : List (Nat × Bool)) (i j : Nat) : Bool := decide (tofP ps i j)
theorem fst_at {ps : List (Nat × Bool)} (nd : (ps.map (·.1)).Nodup) {a c : Nat} {x y : Nat × Bool} (ha : ps[a]? = some x) (hc : ps[c]? = some y) (e : x.1 = y.1) : a = c := by
  have h1 : (ps.map (·.1))[a]? = some x.1 := by rw [List.getElem?_map, ha]; rfl
  have h2 : (ps.map (·.1))[c]? = some y.1 := by rw [List.getElem?_map, hc]; rfl
  obtain ⟨l1, e1⟩ := List.getElem?_eq_some_iff.mp h1
  obtain ⟨l2, e2⟩ := List.getElem?_eq_some_iff.mp h2
  exact (List.getElem_inj nd).mp (e1.trans (e.trans e2.symm))
theorem tof_at {ps : List (Nat × Bool)} (nd : (ps.map (·.1)).Nodup) {a c : Nat} {x y : Nat × Bool} (hac : a < c) (ha : ps[a]? = some x) (hc : ps[c]? = some y) : (tof ps x.1 y.1 = decide (x.2 = y.2)) ∧ (tof ps y.1 x.1 = !decide (x.2 = y.2)) := by
  have fwd : ∀ (a' c' : Nat) (x' y' : Nat × Bool), a' < c' → ps[a']? = some x' → ps[c']? = some y' → x'.1 = x.1 → y'.1 = y.1 → x' = x ∧ y' = y := fun a' c' x' y' h ha' hc' e1 e2 => by
    have f1 := fst_at nd ha' ha e1
    have f2 := fst_at nd hc' hc e2
    subst f1 f2
    rw [ha] at ha'
    rw [hc] at hc'
    exact ⟨(Option.some.inj ha').symm, (Option.some.inj hc').symm⟩
  have bwd : ∀ (a' c' : Nat) (x' y' : Nat × Bool), a' < c' → ps[a']? = some x' → ps[c']? = some y' → x'.1 = y.1 → y'.1 = x.1 → False := fun a' c' x' y' h ha' hc' e1 e2 => by
    have f1 := fst_at nd ha' hc e1
    have f2 := fst_at nd hc' ha e2
    omega
  constructor
  · unfold tof
    by_cases e : x.2 = y.2
    · rw [decide_eq_true e]
      refine decide_eq_true ⟨a, c, x, y, hac, ha, hc, ?_⟩
      rw [if_pos e]
      exact ⟨rfl, rfl⟩
    · rw [decide_eq_false e]
      refine decide_eq_false ?_
      rintro ⟨a', c', x', y', h, ha', hc', q⟩
      by_cases e' : x'.2 = y'.2
      · rw [if_pos e'] at q
        obtain ⟨r1, r2⟩ := fwd a' c' x' y' h ha' hc' q.1.symm q.2.symm
        rw [r1, r2] at e'
        exact e e'
      · rw [if_neg e'] at q
        exact bwd a' c' x' y' h ha' hc' q.2.symm q.1.symm
  · unfold tof
    by_cases e : x.2 = y.2
    · rw [decide_eq_true e]
      refine decide_eq_false ?_
      rintro ⟨a', c', x', y', h, ha', hc', q⟩
      by_cases e' : x'.2 = y'.2
      · rw [if_pos e'] at q
        exact bwd a' c' x' y' h ha' hc' q.1.symm q.2.symm
      · rw [if_neg e'] at q
        obtain ⟨r1, r2⟩ := fwd a' c' x' y' h ha' hc' q.2.symm q.1.symm
        rw [r1, r2] at e'
        exact e' e
    · rw [decide_eq_false e]
      refine decide_eq_true ⟨a, c, x, y, hac, ha, hc, ?_⟩
      rw [if_neg e]
      exact ⟨rfl, rfl⟩
theorem isT_tof {n : Nat} {ps : List (Nat × Bool)} (p : (ps.map (·.1)).Perm (List.range n)) : IsT n (tof ps) := by
  have nd : (ps.map (·.1)).Nodup := p.nodup_iff.mpr List.nodup_range
  have at_ : ∀ i, i < n → ∃ (a : Nat) (x : Nat × Bool), ps[a]? = some x ∧ x.1 = i := fun i hi => by
    have hm : i ∈ ps.map (·.1) := p.mem_iff.mpr (List.mem_range.mpr hi)
    obtain ⟨x, hx, e⟩ := List.mem_map.mp hm
    obtain ⟨a, ha⟩ := List.getElem?_of_mem hx
    exact ⟨a, x, ha, e⟩
  intro i hi
  refine ⟨?_, fun j hj hij => ?_⟩
  · unfold tof
    refine decide_eq_false ?_
    rintro ⟨a, c, x, y, h, ha, hc, q⟩
    have e : x.1 = y.1 := by
      by_cases e : x.2 = y.2
      · rw [if_pos e] at q
        exact q.1.symm.trans q.2
      · rw [if_neg e] at q
        exact q.2.symm.trans q.1
    have := fst_at nd ha hc e
    omega
  · obtain ⟨a, x, ha, ex⟩ := at_ i hi
    obtain ⟨c, y, hc, ey⟩ := at_ j hj
    subst ex ey
    rcases Nat.lt_trichotomy a c with h | h | h
    · obtain ⟨h1, h2⟩ := tof_at nd h ha hc
      rw [h1, h2, Bool.not_not]
    · subst h
      rw [ha] at hc
      exact absurd (congrArg Prod.fst (Option.some.inj hc)) hij
    · obtain ⟨h1, h2⟩ := tof_at nd h hc ha
      rw [h1, h2]
/-- one item taken out -/
theorem perm_erase {α : Type} : ∀ {l : List α} {k : Nat} {y : α}, l[k]? = some y → l.Perm (y :: l.eraseIdx k)
  | [], k, y, h => by simp at h
  | a :: r, 0, y, h => by
    have e : a = y := Option.some.inj h
    subst e
    exact List.Perm.refl _
  | a :: r, k + 1, y, h => by
    have ih := perm_erase (l := r) (k := k) (y := y) h
    show (a :: r).Perm (y :: a :: r.eraseIdx k)
    exact (List.Perm.cons a ih).trans (List.Perm.swap y a _)
end RB

/-! RbBase: the text by places, what is known of the built-in names, tournaments on the heap, small forms. -/
namespace RB
open PySem PySem.Spec PySem.W PyProof.Rows L2

def topS (i : Nat) : Stmt := PySem.Challenge.pw_ringbeats_k41_whole_ways_by_whomever.main.body.getD i (.Pass ⟨0, 0, 0, 0⟩)
abbrev sWhole : Stmt := topS 5
abbrev sClimb : Stmt := topS 7
abbrev sIsT : Stmt := topS 8
abbrev sCheck : Stmt := topS 10
abbrev sPlayers : Stmt := topS 11
abbrev sBeaten : Stmt := topS 12
abbrev sSwitch : Stmt := topS 13
abbrev sRename : Stmt := topS 14
abbrev sAccept : Stmt := topS 15
abbrev sStream : Stmt := topS 17
abbrev sNext : Stmt := topS 18
abbrev sIsInt : Stmt := topS 19
abbrev sEqual : Stmt := topS 20
abbrev sBy : Stmt := topS 21
abbrev sSigned : Stmt := topS 22
abbrev sTof : Stmt := topS 23
abbrev sAny : Stmt := topS 24
abbrev sTourn : Stmt := topS 25
abbrev sSets : Stmt := topS 26
abbrev sSwL : Stmt := topS 27
abbrev sRenL : Stmt := topS 28
abbrev sOrder : Stmt := topS 29
abbrev sIsWay : Stmt := topS 30
abbrev sLaw : Stmt := topS 31

/-- the names that are still the built-in ones, and the one constant -/
structure Txt (mg : Str → Option Value) : Prop where
  isi : mg "isinstance" = none
  int : mg "int" = none
  bool : mg "bool" = none
  tuple : mg "tuple" = none
  list : mg "list" = none
  all : mg "all" = none
  range : mg "range" = none
  len : mg "len" = none
  enum : mg "enumerate" = none
  sorted : mg "sorted" = none
  abs : mg "abs" = none
  most : ∃ t, mg "MOST_PLAYERS" = some (.int 8 t)

/-! ### heaps -/
theorem same_upd {H : Hp} {p : Addr} {o : HO} (h : H p = none) : Same H (upd H p o) := fun b x e => by
  rw [upd_ne (ne_of_none e h)]
  exact e

/-! ### flat values and isinstance -/
def flat3 : V → Bool
  | .non => true
  | .bl _ => true
  | .int _ => true
  | _ => false
def isIntV : V → Bool
  | .bl _ => true
  | .int _ => true
  | _ => false
def isBlV : V → Bool
  | .bl _ => true
  | _ => false
/-- an int, neither True nor False -/
def pureInt : V → Bool
  | .int _ => true
  | _ => false
def wholeB (x : V) (lo hi : Int) : Bool := match x with
  | .int i => decide (lo ≤ i) && decide (i ≤ hi)
  | _ => false
theorem flat3_flat {x : V} (h : flat3 x = true) : flatV x = true := by
  cases x <;> first | rfl | cases h
/-- isinstance(x, T) is b -/
def IsB (K : PySem.W.Frag) (H : Hp) (x : V) (T : String) (b : Bool) : Prop := ∃ a : String, TyX K H x (.type a) ∧ kitB a T = some b
section
variable {K : PySem.W.Frag} {H : Hp}
theorem isi_int {x : V} (hx : flat3 x = true) : IsB K H x "int" (isIntV x) := by
  cases x with
  | non => exact ⟨_, .base .non, by decide +kernel⟩
  | bl b => exact ⟨_, .base (.bl b), show kitB "bool" "int" = some true by decide +kernel⟩
  | int i => exact ⟨_, .base (.int i), show kitB "int" "int" = some true by decide +kernel⟩
  | _ => cases hx
theorem isi_bool {x : V} (hx : flat3 x = true) : IsB K H x "bool" (isBlV x) := by
  cases x with
  | non => exact ⟨_, .base .non, by decide +kernel⟩
  | bl b => exact ⟨_, .base (.bl b), show kitB "bool" "bool" = some true by decide +kernel⟩
  | int i => exact ⟨_, .base (.int i), show kitB "int" "bool" = some false by decide +kernel⟩
  | _ => cases hx
theorem isi_tupT {a : Addr} {xs : List V} (h : H a = some (.tup xs)) : IsB K H (.ref a) "tuple" true := ⟨_, .base (.tup h), by decide +kernel⟩
theorem isi_tupL {a : Addr} {xs : List V} (h : H a = some (.lst xs)) : IsB K H (.ref a) "tuple" false := ⟨_, .base (.lst h), by decide +kernel⟩
theorem isi_tupN : IsB K H .non "tuple" false := ⟨_, .base .non, by decide +kernel⟩
end
def rIs (K : PySem.W.Frag) : List V → Hp → VK → Prop := fun xs H Q => ∃ (x : V) (T : String) (b : Bool), xs = [x, .ty T] ∧ IsB K H x T b ∧ Q (.bl b) H
theorem call_is {X : Cx} : CallR X (.builtin "isinstance") (rIs X.K) := fun pins s σ H xs us Q I r h => by
  obtain ⟨x, T, b, rfl, ⟨a, ty, e⟩, q⟩ := h
  exact call_isi pins s σ H _ us Q I r ⟨x, .ty T, .type a, .type T, b, rfl, .ty T, ty, kit_ty e, q⟩
/-- isinstance(e, T), T a built-in type by its name -/
theorem pe_is (K : PySem.W.Frag) {X : Cx} {e : Expr} {te : TE} {T : Str} (n : String) {p p2 pos : Pos} (mi : X.mg "isinstance" = none) (mt : X.mg T = none) (he : PE X e te) (eK : X.K = K := by rfl) (hv : bootBuiltins T = some (.type n) := by decide +kernel) (gi : Gl X "isinstance" := by rfl) (gt : Gl X T := by rfl)
    (hn : T ≠ "__name__" := by decide) (hd : (T == ("__debug__" : Str)) = false := by decide) (s1 : starEach [e, .Name T p2] X.env = (false, eval e X.env) :: starEach [.Name T p2] X.env := by rfl) (s2 : (backTo pos (starEach [.Name T p2] X.env)).any (·.1) = false := by rfl)
    (s3 : starEach [.Name T p2] X.env = (false, eval (.Name T p2) X.env) :: starEach [] X.env := by rfl) :
    PE X (.Call (.Name "isinstance" p) [e, .Name T p2] [] pos) (tCB (rIs K) (tCons te (tCons (tC (.ty n)) tNil))) := by
  subst eK
  exact pe_callB call_is gi mi (by decide +kernel) (pa_cons he (pa_cons (pe_bltn (v := .ty n) gt mt hv rfl hn hd) pa_nil s3) s1) (by decide) (by decide) s1 s2

/-! ### rules that name K, so that a comprehension's block may use them -/
theorem ixT (K : PySem.W.Frag) {X : Cx} (e : X.K = K := by rfl) : IxR X (rIxT K) := by
  subst e
  exact ix_tup
theorem ixL (K : PySem.W.Frag) {X : Cx} (e : X.K = K := by rfl) : IxR X (rIxL K) := by
  subst e
  exact ix_list
theorem inS (K : PySem.W.Frag) {X : Cx} (e : X.K = K := by rfl) : OpR X (compareOp .In) (rIn K false) := by
  subst e
  exact op_in_seq
theorem notInS (K : PySem.W.Frag) {X : Cx} (e : X.K = K := by rfl) : OpR X (compareOp .NotIn) (rIn K true) := by
  subst e
  exact op_notIn_seq
theorem catA (K : PySem.W.Frag) {X : Cx} (e : X.K = K := by rfl) : OpR X (binaryOp .Add) (rCatA K) := by
  subst e
  exact op_catA
theorem allK (K : PySem.W.Frag) {X : Cx} (hc : X.calm = true := by rfl) (e : X.K = K := by rfl) : CallR X (.builtin "all") (rAll K) := by
  subst e
  exact cr_all hc
theorem tupK (K : PySem.W.Frag) {X : Cx} (e : X.K = K := by rfl) : CallR X (.type "tuple") (fun xs H Q => ∃ p ys, xs = [.ref p] ∧ ((SqL K H p ys ∧ ∀ l, H l = none → Q (.ref l) (upd H l (.tup ys))) ∨ (SqT K H p ys ∧ Q (.ref p) H))) := by
  subst e
  exact call_tuple_of
theorem lenK (K : PySem.W.Frag) {X : Cx} (e : X.K = K := by rfl) : CallR X (.builtin "len") (fun xs H Q => ∃ p ys, xs = [.ref p] ∧ (SqL K H p ys ∨ SqT K H p ys) ∧ Q (.int ys.length) H) := by
  subst e
  exact call_len_seq

section
variable {P : Program} {w : World} {K : PySem.W.Frag} {mg : Str → Option Value} {base : Heap}

/-! ### is_whole -/
theorem scWhole : FnScope ["value", "low", "high"] ["value", "low", "high"] (defScope sWhole) := ⟨rfl, rfl, rfl, by decide +kernel, rfl, by decide +kernel, by decide +kernel⟩
def spWhole : Sp := fun vs H Q _ => ∃ (x : V) (lo hi : Int), vs = [x, .int lo, .int hi] ∧ flat3 x = true ∧ Q (.bl (wholeB x lo hi)) H
theorem ok_whole {f : Addr} {fd : FuncData} (F : Fun K "is_whole" "is_whole" sWhole f fd) (T : Txt mg) : FnOk P w K mg base CX0 1 f fd ["value", "low", "high"] spWhole := by
  refine F.ok scWhole (fun vs H Q E h => ?_) (fun cdv A outer s H vs Q E hr h => ?_)
  · obtain ⟨x, lo, hi, rfl, _⟩ := h
    rfl
  · obtain ⟨x, lo, hi, rfl, hx, q⟩ := h
    refine ⟨_, pss_one (ps_ret (pe_and (pe_is K "int" T.isi T.int (pv 0)) (pe_and (pe_not (pe_is K "bool" T.isi T.bool (pv 0))) (pe_one (pe_chain op_le op_le (pv 1) (pv 0) (pv 2)))))), ?_⟩
    refine ⟨x, rfl, _, _, _, rfl, isi_int hx, _, rfl, ?_⟩
    cases x with
    | non => exact iteF q
    | bl b => exact iteT ⟨.bl b, rfl, _, _, _, rfl, isi_bool rfl, _, rfl, _, rfl, iteF q⟩
    | int i =>
      refine iteT ⟨.int i, rfl, _, _, _, rfl, isi_bool rfl, _, rfl, _, rfl, iteT ?_⟩
      refine ⟨.int lo, rfl, .int i, rfl, lo, i, rfl, rfl, _, rfl, ?_⟩
      by_cases h1 : lo ≤ i
      · rw [decide_eq_true h1]
        refine iteT ⟨.int hi, rfl, i, hi, rfl, rfl, ?_⟩
        have e : wholeB (.int i) lo hi = decide (i ≤ hi) := by
          show (decide (lo ≤ i) && decide (i ≤ hi)) = _
          rw [decide_eq_true h1]
          rfl
        rw [e] at q
        exact q
      · rw [decide_eq_false h1]
        have e : wholeB (.int i) lo hi = false := by
          show (decide (lo ≤ i) && decide (i ≤ hi)) = _
          rw [decide_eq_false h1]
          rfl
        rw [e] at q
        exact iteF q
    | _ => cases hx
end
end RB

/-! RbForms: comprehensions whose element is a value of its item, loops that fill a dict with pairs. -/
namespace RB
open PySem PySem.Spec PySem.W PyProof.Rows L2

theorem Same.dt {H H' : Hp} {a : Addr} {o : HO} (h : Same H H') (e : H a = some o) : H' a = some o := h a o e
theorem take_map_snoc {α β : Type} {f : α → β} {xs : List α} {i : Nat} {x : α} (h : xs[i]? = some x) : (xs.take (i + 1)).map f = (xs.take i).map f ++ [f x] := by
  rw [List.take_add_one, h, List.map_append]
  rfl
theorem small_of {n : Nat} (h : n ≤ 1000) : n < sizeLine := small1000 h

theorem yes_if {te : TE} {σ : L2.St} {H : Hp} {R : VK} {B : Hp → Prop} (h : te σ H R) : tYes σ H fun b H3 => if b = true then te σ H3 R else B H3 := by
  show (if true = true then te σ H R else B H)
  rw [if_pos rfl]
  exact h
theorem whole_all {n : Nat} : ∀ {xs : List V}, (xs.map fun x => wholeB x 0 ((n : Int) - 1)).all id = true ↔ ∃ ks : List Int, xs = ks.map V.int ∧ ∀ k ∈ ks, 0 ≤ k ∧ k < (n : Int)
  | [] => by
    constructor
    · intro _
      exact ⟨[], rfl, fun k hk => (nomatch hk)⟩
    · intro _
      rfl
  | x :: xs => by
    have ih := whole_all (n := n) (xs := xs)
    rw [List.map_cons, List.all_cons, Bool.and_eq_true, ih]
    constructor
    · rintro ⟨h, ks, rfl, hk⟩
      cases x with
      | int i =>
        have h2 : (decide (0 ≤ i) && decide (i ≤ (n : Int) - 1)) = true := h
        rw [Bool.and_eq_true, decide_eq_true_eq, decide_eq_true_eq] at h2
        refine ⟨i :: ks, rfl, fun k hm => ?_⟩
        rcases List.mem_cons.mp hm with rfl | hm
        · omega
        · exact hk k hm
      | _ => cases h
    · rintro ⟨ks, e, hk⟩
      cases ks with
      | nil => cases e
      | cons k ks =>
        rw [List.map_cons] at e
        obtain ⟨rfl, rfl⟩ := List.cons.inj e
        refine ⟨?_, ks, rfl, fun z hz => hk z (List.mem_cons_of_mem _ hz)⟩
        have := hk k (by simp)
        show (decide (0 ≤ k) && decide (k ≤ (n : Int) - 1)) = true
        rw [decide_eq_true this.1, decide_eq_true (by omega)]
        rfl
theorem map_int_inj : ∀ {a c : List Int}, a.map V.int = c.map V.int → a = c
  | [], [], _ => rfl
  | [], _ :: _, h => by cases h
  | _ :: _, [], h => by cases h
  | x :: a, y :: c, h => by
    rw [List.map_cons, List.map_cons] at h
    obtain ⟨h1, h2⟩ := List.cons.inj h
    rw [V.int.inj h1, map_int_inj h2]
theorem steps_all {ks : List Int} : ((List.range (ks.length - 1)).map fun i => decide (ks.getD i 0 < ks.getD (i + 1) 0)).all id = true ↔ ks.Pairwise (· < ·) := by
  rw [asc_iff_steps, List.all_map, List.all_eq_true]
  constructor
  · intro h i hi
    exact of_decide_eq_true (h i (List.mem_range.mpr (by omega)))
  · intro h i hi
    have := List.mem_range.mp hi
    exact decide_eq_true (h i (by omega))
/-- what tLc asks behind the iterator -/
def LcGo (J : It) (g : TG) (tt : TT) (te : TE) (vs : List Nat) (σ : L2.St) (H1 : Hp) (D : Addr) (Qd : Hp → Prop) : Prop :=
  ∃ W : Nat → Nat → Hp → Prop, (∃ m, W 0 m (upd H1 D (.lst []))) ∧ ∀ i m H, W i m H → (J.stop i H ∧ Qd H) ∨ (J.go i H ∧ ∃ Nx : Hp → Prop, (∀ H', Nx H' → ∃ m', m' < m ∧ W (i + 1) m' H') ∧
    ∀ x H', J.yld i H x H' → g x (wipe σ vs) H' fun σ2 H2 => wipe σ2 vs = wipe σ vs ∧ tt σ2 H2 fun b H3 => if b = true then te σ2 H3 fun y H4 => ∃ acc, H4 D = some (.lst acc) ∧ acc.length < sizeLine ∧ Nx (upd H4 D (.lst (acc ++ [y]))) else Nx H3)

section
variable {K : PySem.W.Frag} {vs : List Nat} {σ : L2.St} {H1 : Hp} {D : Addr} {te : TE} {tt : TT} {j : Nat} {Qd : Hp → Prop}
theorem SqT.same {H H' : Hp} {a : Addr} {xs : List V} (e : Same H H') (h : SqT K H a xs) : SqT K H' a xs := by
  rcases h with (h | ⟨o, h⟩) | h
  · exact .inl (.inl (e _ _ h))
  · exact .inl (.inr ⟨o, e _ _ h⟩)
  · exact .inr h
theorem same_put {H1 H : Hp} {o : HO} (hD : H1 D = none) (h : Same H1 H) : Same H1 (upd H D o) := fun b x e => by
  rw [upd_ne (ne_of_none e hD)]
  exact h b x e
/-- [e for x in t]: e a value of x -/
theorem lc_tupM {a : Addr} {xs : List V} (f : V → V) (hT : SqT K H1 a xs) (hD : H1 D = none) (hz : xs.length ≤ 1000) (hw : ∀ x, wipe ((wipe σ vs).set j (some x)) vs = wipe σ vs)
    (he : ∀ x, x ∈ xs → ∀ (H : Hp) (Qv : VK), Same H1 H → (∀ H', Same H H' → Qv (f x) H') → te ((wipe σ vs).set j (some x)) H Qv) (hd : ∀ H, Same H1 H → H D = some (.lst (xs.map f)) → Qd H) :
    LcGo (Itt K a) (gName j) tYes te vs σ H1 D Qd := by
  refine lc_tup (K := K) (a := a) (xs := xs) (fun i H => Same H1 H ∧ H D = some (.lst ((xs.take i).map f))) ⟨same_upd hD, upd_same⟩ (fun i H _ p => SqT.same p.1 hT) (fun i x H hi p => ?_) fun H p => ?_
  · refine ⟨hw x, yes_if ?_⟩
    refine he x (List.mem_of_getElem? hi) H _ p.1 fun H4 s4 => ⟨_, s4 _ _ p.2, ?_, same_put hD (p.1.trans s4), ?_⟩
    · rw [List.length_map, List.length_take]
      exact Nat.lt_of_le_of_lt (Nat.min_le_right _ _) (small_of hz)
    · rw [upd_same, take_map_snoc hi]
  · refine hd H p.1 ?_
    rw [p.2, List.take_of_length_le (Nat.le_refl _)]
/-- [e for x in xs], xs a list -/
theorem lc_listM {a : Addr} {xs : List V} (f : V → V) (hT : SqL K H1 a xs) (hD : H1 D = none) (hz : xs.length ≤ 1000) (hw : ∀ x, wipe ((wipe σ vs).set j (some x)) vs = wipe σ vs)
    (he : ∀ x, x ∈ xs → ∀ (H : Hp) (Qv : VK), Same H1 H → (∀ H', Same H H' → Qv (f x) H') → te ((wipe σ vs).set j (some x)) H Qv) (hd : ∀ H, Same H1 H → H D = some (.lst (xs.map f)) → Qd H) :
    LcGo (Itl K a) (gName j) tYes te vs σ H1 D Qd := by
  refine lc_list (K := K) (a := a) (xs := xs) (fun i H => Same H1 H ∧ H D = some (.lst ((xs.take i).map f))) ⟨same_upd hD, upd_same⟩ (fun i H _ p => p.1.seq hT) (fun i x H hi p => ?_) fun H p => ?_
  · refine ⟨hw x, yes_if ?_⟩
    refine he x (List.mem_of_getElem? hi) H _ p.1 fun H4 s4 => ⟨_, s4 _ _ p.2, ?_, same_put hD (p.1.trans s4), ?_⟩
    · rw [List.length_map, List.length_take]
      exact Nat.lt_of_le_of_lt (Nat.min_le_right _ _) (small_of hz)
    · rw [upd_same, take_map_snoc hi]
  · refine hd H p.1 ?_
    rw [p.2, List.take_of_length_le (Nat.le_refl _)]
theorem range_take (n : Nat) {i : Nat} (h : i ≤ n) : (List.range n).take i = List.range i := by
  rw [List.take_range, Nat.min_eq_left h]
/-- [e for x in range(n) if c]: e, c values of x -/
theorem lc_rangeF {n : Nat} (p : Nat → Bool) (f : Nat → V) (hD : H1 D = none) (hz : n ≤ 1000) (hw : ∀ x, wipe ((wipe σ vs).set j (some x)) vs = wipe σ vs)
    (ht : ∀ i, i < n → ∀ (H : Hp) (Qt : Bool → Hp → Prop), Same H1 H → (∀ H', Same H H' → Qt (p i) H') → tt ((wipe σ vs).set j (some (.int (i : Int)))) H Qt)
    (he : ∀ i, i < n → ∀ (H : Hp) (Qv : VK), Same H1 H → (∀ H', Same H H' → Qv (f i) H') → te ((wipe σ vs).set j (some (.int (i : Int)))) H Qv) (hd : ∀ H, Same H1 H → H D = some (.lst (((List.range n).filter p).map f)) → Qd H) :
    LcGo (Itr 0 n) (gName j) tt te vs σ H1 D Qd := by
  refine lc_range (lo := 0) (n := n) (fun i H => Same H1 H ∧ H D = some (.lst (((List.range i).filter p).map f))) ⟨same_upd hD, upd_same⟩ (fun i H hi q => ?_) fun H q => hd H q.1 q.2
  have e0 : (0 : Int) + (i : Int) = (i : Int) := Int.zero_add _
  rw [e0]
  refine ⟨hw _, ht i hi H _ q.1 fun H3 s3 => ?_⟩
  have en : (List.range (i + 1)).filter p = (List.range i).filter p ++ (if p i = true then [i] else []) := by
    rw [List.range_succ, List.filter_append]
    congr 1
    by_cases hp : p i = true
    · rw [if_pos hp, List.filter_cons_of_pos hp]
      rfl
    · rw [if_neg hp, List.filter_cons_of_neg hp]
      rfl
  cases hp : p i with
  | true =>
    rw [hp, if_pos rfl] at en
    rw [if_pos rfl]
    refine he i hi H3 _ (q.1.trans s3) fun H4 s4 => ⟨_, s4 _ _ (s3 _ _ q.2), ?_, same_put hD ((q.1.trans s3).trans s4), ?_⟩
    · rw [List.length_map]
      refine Nat.lt_of_le_of_lt (List.length_filter_le _ _) ?_
      rw [List.length_range]
      exact small_of (by omega)
    · rw [upd_same, en, List.map_append]
      rfl
  | false =>
    rw [hp, if_neg (by decide), List.append_nil] at en
    rw [if_neg (by decide)]
    refine ⟨q.1.trans s3, ?_⟩
    rw [en]
    exact s3 _ _ q.2
/-- [e for x in range(n)] -/
theorem lc_rangeM {n : Nat} (f : Nat → V) (hD : H1 D = none) (hz : n ≤ 1000) (hw : ∀ x, wipe ((wipe σ vs).set j (some x)) vs = wipe σ vs)
    (he : ∀ i, i < n → ∀ (H : Hp) (Qv : VK), Same H1 H → (∀ H', Same H H' → Qv (f i) H') → te ((wipe σ vs).set j (some (.int (i : Int)))) H Qv) (hd : ∀ H, Same H1 H → H D = some (.lst ((List.range n).map f)) → Qd H) :
    LcGo (Itr 0 n) (gName j) tYes te vs σ H1 D Qd := by
  refine lc_rangeF (fun _ => true) f hD hz hw (fun i _ H Qt _ k => k H (Same.refl H)) he fun H s e => hd H s ?_
  rw [e, List.filter_eq_self.mpr fun _ _ => rfl]
end

section
variable {P : Program} {w : World} {K : PySem.W.Frag} {mg : Str → Option Value} {base : Heap}
/-! ### is_climbing -/
theorem scClimb : FnScope ["value", "many", "one", "at"] ["value", "many"] (defScope sClimb) := ⟨rfl, rfl, rfl, by decide +kernel, rfl, by decide +kernel, by decide +kernel⟩
def spClimb : Sp := fun vs H Q _ => ∃ (a : Addr) (xs : List V) (n : Nat), vs = [.ref a, .int n] ∧ H a = some (.tup xs) ∧ (∀ x ∈ xs, flat3 x = true) ∧ xs.length ≤ 1000 ∧
  ∀ (H' : Hp) (k : Bool), Same H H' → (k = true ↔ ∃ ks : List Int, xs = ks.map V.int ∧ Asc n ks) → Q (.bl k) H'
theorem ok_climb {f fW : Addr} {fd fdW : FuncData} (F : Fun K "is_climbing" "is_climbing" sClimb f fd) (T : Txt mg) (FW : Fun K "is_whole" "is_whole" sWhole fW fdW) (bW : Binds K fdW ["value", "low", "high"] []) (gW : mg "is_whole" = some (.ref fW)) :
    FnOk P w K mg base CX0 2 f fd ["value", "many"] spClimb := by
  have GW : FnOk P w K mg base CX0 1 fW fdW ["value", "low", "high"] spWhole := ok_whole FW T
  refine F.ok scClimb (fun vs H Q E h => ?_) (fun cdv A outer s H vs Q E hr h => ?_)
  · obtain ⟨a, xs, n, rfl, _⟩ := h
    rfl
  · obtain ⟨a, xs, n, rfl, ha, hx, hz, q⟩ := h
    refine ⟨_, pss_cons (ps_if (PW.pt (pw_or (pt_not (pt_val (pe_is K "tuple" T.isi T.tuple (pv 0)))) (pw_or1 (pt_not (pt_val (pe_callB (cr_all rfl) (by rfl) T.all (by decide +kernel) (pa_cons
          (pe_lc (own := [("one", 2)]) (g := gName 2) (tt := tYes) rfl scClimb.nd (pi_tup (pv 0)) (blkOk_by (N := ["value", "many", "one", "at"]) (sc := defScope sClimb) (by decide +kernel)) (fun _ _ _ _ _ => pg_name (i := 2) scClimb.nd rfl (Or.inl rfl)) (fun _ _ _ _ _ => pts_nil)
            (fun _ _ _ _ _ => pe_call GW hr (by rfl) gW FW.kp bW .nil pass0 (pa_cons (pv 2) (pa_cons pe_int (pa_cons (pe_op op_sub (pv 1) pe_int) pa_nil))))) pa_nil))))))) (pss_one (ps_ret pe_bl)) pss_nil)
      (pss_one (ps_ret (pe_callB (cr_all rfl) (by rfl) T.all (by decide +kernel) (pa_cons
          (pe_lc (own := [("at", 3)]) (g := gName 3) (tt := tYes) rfl scClimb.nd (pi_range1 (by rfl) T.range (pa_cons (pe_op op_sub (pe_callB call_len_seq (by rfl) T.len PySem.boot_len (pa_cons (pv 0) pa_nil)) pe_int) pa_nil))
            (blkOk_by (N := ["value", "many", "one", "at"]) (sc := defScope sClimb) (by decide +kernel)) (fun _ _ _ _ _ => pg_name (i := 3) scClimb.nd rfl (Or.inl rfl)) (fun _ _ _ _ _ => pts_nil)
            (fun _ _ _ _ _ => pe_cmpR op_lt (pe_ix (ixT K) (pv 0) (pv 3) (fun _ _ => rfl)) (pe_ix (ixT K) (pv 0) (pe_op op_add (pv 3) pe_int) (fun _ _ => rfl)) (nomark _))) pa_nil)))), ?_⟩
    refine ⟨.ref a, rfl, _, _, _, rfl, isi_tupT ha, true, rfl, iteF ?_⟩
    refine ⟨.ref a, rfl, a, rfl, ⟨xs, .inl (.inl ha)⟩, fun D hD => lc_tupM (fun x => V.bl (wholeB x 0 ((n : Int) - 1))) (.inl (.inl ha)) hD hz (fun _ => rfl) (fun x hm H2 Qv s2 k => ?_) fun H2 s2 eD => ?_⟩
    · exact ⟨x, rfl, .int n, rfl, n, 1, rfl, rfl, x, 0, (n : Int) - 1, rfl, hx x hm, k H2 (Same.refl _)⟩
    · refine ⟨D, xs.map fun x => wholeB x 0 ((n : Int) - 1), rfl, (Or.inl (Or.inl ?_) : SqL K H2 D _), ?_⟩
      · rw [eD, List.map_map]
        rfl
      refine ⟨_, rfl, ?_⟩
      by_cases hall : (xs.map fun x => wholeB x 0 ((n : Int) - 1)).all id = true
      · rw [hall]
        refine iteF ?_
        obtain ⟨ks, rfl, hk⟩ := whole_all.mp hall
        have ha2 : H2 a = some (.tup (ks.map V.int)) := s2 _ _ ha
        rw [List.length_map] at hz
        refine ⟨.ref a, rfl, a, _, rfl, (Or.inr (Or.inl (Or.inl ha2)) : SqL K H2 a _ ∨ SqT K H2 a _), _, _, rfl, rfl, _, rfl, ?_⟩
        rw [List.length_map]
        refine ⟨by omega, by omega, fun D2 hD2 => ?_⟩
        have e1 : ((ks.length : Int) - 1).toNat = ks.length - 1 := by omega
        rw [e1]
        refine lc_rangeM (fun i => V.bl (decide (ks.getD i 0 < ks.getD (i + 1) 0))) hD2 (by omega) (fun _ => rfl) (fun i hi H3 Qv s3 k => ?_) fun H3 s3 eD2 => ?_
        · have ha3 : SqT K H3 a (ks.map V.int) := .inl (.inl (s3 _ _ ha2))
          have g : ∀ m : Nat, m < ks.length → (ks.map V.int)[m]? = some (V.int (ks.getD m 0)) := fun m hm => by
            rw [List.getElem?_map, List.getElem?_eq_getElem hm, List.getD_eq_getElem?_getD, List.getElem?_eq_getElem hm]
            rfl
          refine ⟨.ref a, rfl, .int i, rfl, a, _, i, _, rfl, rfl, ha3, atI_nat (g i (by omega)), .ref a, rfl, .int i, rfl, i, 1, rfl, rfl, a, _, (i : Int) + 1, _, rfl, rfl, ha3, at_of (j := i + 1) (by omega) (g (i + 1) (by omega)), _, _, rfl, rfl, k H3 (Same.refl _)⟩
        · refine ⟨D2, (List.range (ks.length - 1)).map fun i => decide (ks.getD i 0 < ks.getD (i + 1) 0), rfl, (Or.inl (Or.inl ?_) : SqL K H3 D2 _), ?_⟩
          · rw [eD2, List.map_map]
            rfl
          · refine q H3 _ (s2.trans s3) ?_
            rw [steps_all]
            constructor
            · intro hp
              exact ⟨ks, rfl, hk, hp⟩
            · rintro ⟨ks2, e, ⟨_, hp⟩⟩
              rw [map_int_inj e]
              exact hp
      · have hf : (xs.map fun x => wholeB x 0 ((n : Int) - 1)).all id = false := by simpa using hall
        rw [hf]
        refine iteT (q H2 false s2 ⟨fun z => absurd z (by decide), ?_⟩)
        rintro ⟨ks, e, hk, _⟩
        exact absurd (whole_all.mpr ⟨ks, e, hk⟩) hall
end
end RB

/-! RbTour: a tournament as it stands on the heap; is_tournament, check_tournament. -/
namespace RB
open PySem PySem.Spec PySem.W PyProof.Rows L2

def rowI (n : Nat) (b : Nat → Nat → Bool) (i : Nat) : List Int := (row n b i).map fun j : Nat => (j : Int)
def rowV (n : Nat) (b : Nat → Nat → Bool) (i : Nat) : List V := (rowI n b i).map V.int
/-- at t stands the tournament of n players in which x beats y if b x y -/
def Tour (H : Hp) (t : Addr) (n : Nat) (b : Nat → Nat → Bool) : Prop := ∃ rs : List Addr, H t = some (.tup (rs.map V.ref)) ∧ rs.length = n ∧ ∀ (i : Nat) (r : Addr), rs[i]? = some r → H r = some (.tup (rowV n b i))
theorem Tour.keep {H H' : Hp} {t : Addr} {n : Nat} {b : Nat → Nat → Bool} (T : Tour H t n b) (k : ∀ (a : Addr) (xs : List V), H a = some (.tup xs) → H' a = some (.tup xs)) : Tour H' t n b := by
  obtain ⟨rs, h1, h2, h3⟩ := T
  exact ⟨rs, k _ _ h1, h2, fun i r hr => k _ _ (h3 i r hr)⟩
theorem Tour.same {H H' : Hp} {t : Addr} {n : Nat} {b : Nat → Nat → Bool} (T : Tour H t n b) (s : Same H H') : Tour H' t n b := T.keep fun a xs e => s a _ e
theorem Tour.congr {H : Hp} {t : Addr} {n : Nat} {b b' : Nat → Nat → Bool} (T : Tour H t n b) (h : ∀ i, i < n → ∀ j, j < n → b i j = b' i j) : Tour H t n b' := by
  obtain ⟨rs, h1, h2, h3⟩ := T
  refine ⟨rs, h1, h2, fun i r hr => ?_⟩
  have hi : i < n := by
    rw [← h2]
    exact (List.getElem?_eq_some_iff.mp hr).1
  have e : rowV n b' i = rowV n b i := by
    unfold rowV rowI
    rw [row_congr (fun i hi j hj => (h i hi j hj).symm) hi]
  rw [e]
  exact h3 i r hr
theorem Tour.rowAt {H : Hp} {n : Nat} {b : Nat → Nat → Bool} {rs : List Addr} (h2 : rs.length = n) (h3 : ∀ (i : Nat) (r : Addr), rs[i]? = some r → H r = some (.tup (rowV n b i))) {i : Nat} (hi : i < n) :
    ∃ r, (rs.map V.ref)[i]? = some (V.ref r) ∧ H r = some (.tup (rowV n b i)) := by
  have hl : i < rs.length := by omega
  refine ⟨rs[i], ?_, h3 i _ (List.getElem?_eq_getElem hl)⟩
  rw [List.getElem?_map, List.getElem?_eq_getElem hl]
  rfl
theorem rowI_asc {n : Nat} {b : Nat → Nat → Bool} {i : Nat} : Asc n (rowI n b i) := by
  unfold rowI
  refine ⟨fun k hk => ?_, ?_⟩
  · obtain ⟨j, hj, rfl⟩ := List.mem_map.mp hk
    have := (mem_row.mp hj).1
    omega
  · rw [List.pairwise_map]
    exact List.Pairwise.imp (fun h => by omega) (row_asc n b i)
theorem mem_rowI {n : Nat} {b : Nat → Nat → Bool} {i j : Nat} : (j : Int) ∈ rowI n b i ↔ j < n ∧ b i j = true := by
  unfold rowI
  rw [List.mem_map]
  constructor
  · rintro ⟨k, hk, e⟩
    have : k = j := by omega
    subst this
    exact mem_row.mp hk
  · intro h
    exact ⟨j, mem_row.mpr h, rfl⟩
theorem rowI_len (n : Nat) (b : Nat → Nat → Bool) (i : Nat) : (rowI n b i).length ≤ n := by
  unfold rowI
  rw [List.length_map]
  exact row_len n b i
theorem flat_ints : ∀ ks : List Int, (ks.map V.int).all flatV = true
  | [] => rfl
  | _ :: ks => flat_ints ks
theorem flat3_ints {ks : List Int} {x : V} (h : x ∈ ks.map V.int) : flat3 x = true := by
  obtain ⟨k, _, rfl⟩ := List.mem_map.mp h
  rfl
theorem inV_ints (i : Int) : ∀ ks : List Int, inV (.int i) (ks.map V.int) = decide (i ∈ ks)
  | [] => rfl
  | k :: ks => by
    have ih := inV_ints i ks
    show (eqV (.int k) (.int i) || inV (.int i) (ks.map V.int)) = _
    rw [ih]
    have e : eqV (.int k) (.int i) = (k == i) := rfl
    rw [e]
    by_cases h : k = i
    · subst h
      rw [beq_self_eq_true, Bool.true_or, decide_eq_true (List.mem_cons_self ..)]
    · rw [beq_eq_false_iff_ne.mpr h, Bool.false_or]
      by_cases h2 : i ∈ ks
      · rw [decide_eq_true h2, decide_eq_true (List.mem_cons_of_mem _ h2)]
      · rw [decide_eq_false h2, decide_eq_false]
        intro z
        rcases List.mem_cons.mp z with z | z
        · exact h z.symm
        · exact h2 z
theorem inV_row {n : Nat} {b : Nat → Nat → Bool} {i j : Nat} (hj : j < n) : inV (.int (j : Int)) (rowV n b i) = b i j := by
  unfold rowV
  rw [inV_ints]
  cases hb : b i j with
  | true => exact decide_eq_true (mem_rowI.mpr ⟨hj, hb⟩)
  | false =>
    refine decide_eq_false fun z => ?_
    rw [(mem_rowI.mp z).2] at hb
    cases hb

section
variable {P : Program} {w : World} {K : PySem.W.Frag} {mg : Str → Option Value} {base : Heap}
theorem scIsT : FnScope ["value", "one", "row", "other"] ["value"] (defScope sIsT) := ⟨rfl, rfl, rfl, by decide +kernel, rfl, by decide +kernel, by decide +kernel⟩
def spIsT : Sp := fun vs H Q _ => ∃ (t : Addr) (n : Nat) (b : Nat → Nat → Bool), vs = [.ref t] ∧ Tour H t n b ∧ IsT n b ∧ 1 ≤ n ∧ n ≤ 8 ∧ ∀ H', Same H H' → Q (.bl true) H'
theorem ok_isT {f fC : Addr} {fd fdC : FuncData} (F : Fun K "is_tournament" "is_tournament" sIsT f fd) (T : Txt mg) (GC : FnOk P w K mg base CX0 2 fC fdC ["value", "many"] spClimb) (kC : PySem.W.keepIn K (.ref fC) = true) (bC : Binds K fdC ["value", "many"] []) (gC : mg "is_climbing" = some (.ref fC)) :
    FnOk P w K mg base CX0 3 f fd ["value"] spIsT := by
  obtain ⟨t8, mgM⟩ := T.most
  refine F.ok scIsT (fun vs H Q E h => ?_) (fun cdv A outer s H vs Q E hr h => ?_)
  · obtain ⟨t, n, b, rfl, _⟩ := h
    rfl
  · obtain ⟨t, n, b, rfl, ⟨rs, h1, h2, h3⟩, hT, hn1, hn8, q⟩ := h
    refine ⟨_, pss_cons (ps_if (PW.pt (pw_or (pt_not (pt_val (pe_is K "tuple" T.isi T.tuple (pv 0)))) (pw_or1 (pt_not (pt_chain op_le op_le pe_int (pe_callB (lenK K) (by rfl) T.len PySem.boot_len (pa_cons (pv 0) pa_nil)) (pe_glob (v := .int 8) (by rfl) mgM ⟨_, rfl⟩))))))
        (pss_one (ps_ret pe_bl)) pss_nil)
      (pss_cons (ps_if (pt_not (pt_val (pe_callB (allK K) (by rfl) T.all (by decide +kernel) (pa_cons
          (pe_lc (own := [("row", 2)]) (g := gName 2) (tt := tYes) rfl scIsT.nd (pi_tup (pv 0)) (blkOk_by (N := ["value", "one", "row", "other"]) (sc := defScope sIsT) (by decide +kernel)) (fun _ _ _ _ _ => pg_name (i := 2) scIsT.nd rfl (Or.inl rfl)) (fun _ _ _ _ _ => pts_nil)
            (fun _ _ _ _ _ => pe_call GC hr (by rfl) gC kC bC .nil pass0 (pa_cons (pv 2) (pa_cons (pe_callB (lenK K) (by rfl) T.len PySem.boot_len (pa_cons (pv 0) pa_nil)) pa_nil)))) pa_nil)))) (pss_one (ps_ret pe_bl)) pss_nil)
      (pss_cons (ps_for PassesOwn.never rfl (pi_range1 (by rfl) T.range (pa_cons (pe_callB (lenK K) (by rfl) T.len PySem.boot_len (pa_cons (pv 0) pa_nil)) pa_nil)) (pg_name (i := 1) scIsT.nd rfl (Or.inr rfl))
        (pss_one (ps_if (PW.pt (pw_or (pt_cmpR (inS K) (pv 1) (pe_ix (ixT K) (pv 0) (pv 1) (fun _ _ => rfl)) (by rfl)) (pw_or1 (pt_not (pt_val (pe_callB (allK K) (by rfl) T.all (by decide +kernel) (pa_cons
          (pe_lc (own := [("other", 3)]) (g := gName 3) (tt := tYes) rfl scIsT.nd (pi_range1 (by rfl) T.range (pa_cons (pv 1) pa_nil)) (blkOk_by (N := ["value", "one", "row", "other"]) (sc := defScope sIsT) (by decide +kernel)) (fun _ _ _ _ _ => pg_name (i := 3) scIsT.nd rfl (Or.inl rfl)) (fun _ _ _ _ _ => pts_nil)
            (fun _ _ _ _ _ => pe_cmpR op_ne (pe_cmpR (inS K) (pv 3) (pe_ix (ixT K) (pv 0) (pv 1) (fun _ _ => rfl)) (by rfl)) (pe_cmpR (inS K) (pv 1) (pe_ix (ixT K) (pv 0) (pv 3) (fun _ _ => rfl)) (by rfl)) (nomark _))) pa_nil)))))))
          (pss_one (ps_ret pe_bl)) pss_nil)))
      (pss_one (ps_ret pe_bl)))), ?_⟩
    have hlen : ((rs.map V.ref).length : Int) = (n : Int) := by rw [List.length_map, h2]
    refine ⟨.ref t, rfl, _, _, _, rfl, isi_tupT h1, true, rfl, iteF ?_⟩
    refine ⟨.ref t, rfl, t, _, rfl, (Or.inr (Or.inl (Or.inl h1)) : SqL K H t _ ∨ SqT K H t _), 1, _, rfl, rfl, _, rfl, ?_⟩
    rw [hlen, decide_eq_true (show (1 : Int) ≤ n by omega)]
    refine iteT ⟨(n : Int), 8, rfl, rfl, _, rfl, ?_⟩
    rw [decide_eq_true (show (n : Int) ≤ 8 by omega)]
    refine iteF ?_
    -- every row climbs
    have hz : (rs.map V.ref).length ≤ 1000 := by
      rw [List.length_map]
      omega
    refine ⟨.ref t, rfl, t, rfl, ⟨_, (Or.inl (Or.inl h1) : SqT K H t _)⟩, fun D hD => lc_tupM (fun _ => V.bl true) (Or.inl (Or.inl h1)) hD hz (fun _ => rfl) (fun x hm H2 Qv s2 k => ?_) fun H2 s2 eD => ?_⟩
    · obtain ⟨i, hi⟩ := List.getElem?_of_mem hm
      rw [List.getElem?_map] at hi
      cases er : rs[i]? with
      | none =>
        rw [er] at hi
        cases hi
      | some r =>
        rw [er] at hi
        cases Option.some.inj hi
        refine ⟨.ref r, rfl, .ref t, rfl, t, _, rfl, (Or.inr (Or.inl (Or.inl (s2 _ _ h1))) : SqL K H2 t _ ∨ SqT K H2 t _), r, rowV n b i, n, ?_, s2 _ _ (h3 i r er), fun x hx => flat3_ints hx, ?_, fun H4 k2 s4 hk => ?_⟩
        · rw [hlen]
          rfl
        · unfold rowV
          rw [List.length_map]
          have := rowI_len n b i
          omega
        · have hk2 : k2 = true := hk.mpr ⟨rowI n b i, rfl, rowI_asc⟩
          rw [hk2]
          exact k H4 s4
    have e1 : (rs.map V.ref).map (fun _ => V.bl true) = ((rs.map fun _ => true).map V.bl) := by
      rw [List.map_map, List.map_map]
      rfl
    have e2 : (rs.map fun _ => true).all id = true := by
      rw [List.all_map]
      exact List.all_eq_true.mpr fun _ _ => rfl
    rw [e1] at eD
    refine ⟨D, _, rfl, (Or.inl (Or.inl eD) : SqL K H2 D _), _, rfl, ?_⟩
    rw [e2]
    refine iteF ?_
    -- the loop
    have h1b : H2 t = some (.tup (rs.map V.ref)) := s2 _ _ h1
    refine ⟨.ref t, rfl, t, _, rfl, (Or.inr (Or.inl (Or.inl h1b)) : SqL K H2 t _ ∨ SqT K H2 t _), _, rfl, ?_⟩
    rw [hlen]
    refine ⟨by omega, by omega, ?_⟩
    have e3 : ((n : Int)).toNat = n := Int.toNat_natCast n
    rw [e3]
    refine for_range (lo := 0) (n := n) (fun i σ H' => ∃ y1 y2 y3, σ = [some (.ref t), y1, y2, y3] ∧ Same H2 H') ⟨_, _, _, rfl, Same.refl _⟩ (fun i σ H3 hi p => ?_) fun σ H3 p => ?_
    · obtain ⟨y1, y2, y3, rfl, s3⟩ := p
      have e0 : (0 : Int) + (i : Int) = (i : Int) := Int.zero_add _
      rw [e0]
      have ht3 : ∀ H4, Same H3 H4 → SqT K H4 t (rs.map V.ref) := fun H4 s4 => .inl (.inl (s4 _ _ (s3 _ _ h1b)))
      have rows : ∀ H4, Same H3 H4 → ∀ j, j < n → ∃ r, atI (rs.map V.ref) (j : Int) = some (V.ref r) ∧ SqT K H4 r (rowV n b j) := fun H4 s4 j hj => by
        obtain ⟨r, g1, g2⟩ := Tour.rowAt h2 h3 hj
        exact ⟨r, atI_nat g1, .inl (.inl (s4 _ _ (s3 _ _ (s2 _ _ g2))))⟩
      obtain ⟨r, g1, g2⟩ := rows H3 (Same.refl _) i hi
      refine ⟨.int i, rfl, .ref t, rfl, .int i, rfl, t, _, i, _, rfl, rfl, ht3 H3 (Same.refl _), g1, r, rowV n b i, rfl, .inr g2, rfl, flat_ints _, _, rfl, ?_⟩
      rw [inV_row hi, (hT i hi).1]
      refine iteF ?_
      refine ⟨.int i, rfl, i, rfl, by omega, by omega, fun D2 hD2 => ?_⟩
      rw [Int.toNat_natCast]
      refine lc_rangeM (fun _ => V.bl true) hD2 (by omega) (fun _ => rfl) (fun j hj H4 Qv s4 k => ?_) fun H4 s4 eD2 => ?_
      · obtain ⟨r1, g1, g2⟩ := rows H4 s4 i hi
        obtain ⟨r2, g3, g4⟩ := rows H4 s4 j (by omega)
        refine ⟨.int j, rfl, .ref t, rfl, .int i, rfl, t, _, i, _, rfl, rfl, ht3 H4 s4, g1, r1, rowV n b i, rfl, .inr g2, rfl, flat_ints _, .int i, rfl, .ref t, rfl, .int j, rfl, t, _, j, _, rfl, rfl, ht3 H4 s4, g3, r2, rowV n b j, rfl, .inr g4, rfl, flat_ints _, rfl, ?_⟩
        have e5 : (!decide (V.bl (inV (.int (j : Int)) (rowV n b i)) = V.bl (inV (.int (i : Int)) (rowV n b j)))) = true := by
          rw [inV_row (show j < n by omega), inV_row hi, (hT i hi).2 j (by omega) (by omega)]
          cases b j i <;> rfl
        have k2 := k H4 (Same.refl _)
        rw [← e5] at k2
        exact k2
      · have e4 : (List.range i).map (fun _ => V.bl true) = ((List.range i).map fun _ => true).map V.bl := by
          rw [List.map_map]
          rfl
        have e6 : ((List.range i).map fun _ => true).all id = true := by
          rw [List.all_map]
          exact List.all_eq_true.mpr fun _ _ => rfl
        rw [e4] at eD2
        refine ⟨D2, _, rfl, (Or.inl (Or.inl eD2) : SqL K H4 D2 _), _, rfl, ?_⟩
        rw [e6]
        exact iteF ⟨_, _, _, rfl, s3.trans s4⟩
    · obtain ⟨y1, y2, y3, rfl, s3⟩ := p
      exact q H3 (s2.trans s3)
/-! ### check_tournament -/
theorem scCheck : FnScope ["tournament"] ["tournament"] (defScope sCheck) := ⟨rfl, rfl, rfl, by decide +kernel, rfl, by decide +kernel, by decide +kernel⟩
def spCheck : Sp := fun vs H Q _ => ∃ (t : Addr) (n : Nat) (b : Nat → Nat → Bool), vs = [.ref t] ∧ Tour H t n b ∧ IsT n b ∧ 1 ≤ n ∧ n ≤ 8 ∧ ∀ H', Same H H' → Q .non H'
theorem ok_check {f fI : Addr} {fd fdI : FuncData} (F : Fun K "check_tournament" "check_tournament" sCheck f fd) (GI : FnOk P w K mg base CX0 3 fI fdI ["value"] spIsT) (kI : PySem.W.keepIn K (.ref fI) = true) (bI : Binds K fdI ["value"] []) (gI : mg "is_tournament" = some (.ref fI)) :
    FnOk P w K mg base CX0 4 f fd ["tournament"] spCheck := by
  refine F.ok scCheck (fun vs H Q E h => ?_) (fun cdv A outer s H vs Q E hr h => ?_)
  · obtain ⟨t, n, b, rfl, _⟩ := h
    rfl
  · obtain ⟨t, n, b, rfl, hT, hI, h1, h8, q⟩ := h
    refine ⟨_, pss_one (ps_if (pt_not (pt_val (pe_call GI hr (by rfl) gI kI bI .nil pass0 (pa_cons (pv 0) pa_nil)))) pss_never pss_nil), ?_⟩
    exact ⟨.ref t, rfl, t, n, b, rfl, hT, hI, h1, h8, fun H2 s2 => ⟨true, rfl, iteF (q H2 s2)⟩⟩
end
end RB

/-! RbBy: beaten_by and _law_by: the tournament of a dict of pairs. Printed by gen_by.py. -/
namespace RB
open PySem PySem.Spec PySem.W PyProof.Rows L2

def retExpr (s : Stmt) : Expr := match defBody s with
  | [.Return (some e) _] => e
  | _ => .Constant .none 0 ⟨0, 0, 0, 0⟩
def callArg (e : Expr) : Expr := match e with
  | .Call _ (a :: _) _ _ => a
  | _ => .Constant .none 0 ⟨0, 0, 0, 0⟩
def lcScope (e : Expr) : Scope := match e with
  | .ListComp _ _ sc _ => sc
  | _ => { kind := .function, names := [], isGenerator := false, isCoroutine := false }

/-- the key (i, j) -/
def pk (i j : Int) : List L2.Key := [Sum.inl i, Sum.inl j]
/-- the pairs that are keys -/
def has (kvs : List (List L2.Key × V)) (i j : Nat) : Bool := (valV kvs (pk i j)).isSome
def spBy : Sp := fun vs H Q _ => ∃ (d : Addr) (n : Nat) (kvs : List (List L2.Key × V)), vs = [.ref d, .int n] ∧ H d = some (.dT kvs) ∧ n ≤ 100 ∧ ∀ (H' : Hp) (t : Addr), Same H H' → Tour H' t n (has kvs) → Q (.ref t) H'

theorem refs_snoc (rs : List Addr) (r : Addr) : (rs ++ [r]).map V.ref = rs.map V.ref ++ [V.ref r] := by
  rw [List.map_append]
  rfl
theorem snoc_at {α : Type} {rs : List α} {r x : α} {k : Nat} (h : (rs ++ [r])[k]? = some x) : rs[k]? = some x ∨ (k = rs.length ∧ x = r) := by
  by_cases hk : k < rs.length
  · rw [List.getElem?_append_left hk] at h
    exact .inl h
  · rw [List.getElem?_append_right (by omega)] at h
    by_cases h2 : k - rs.length = 0
    · rw [h2] at h
      exact .inr ⟨by omega, (Option.some.inj h).symm⟩
    · obtain ⟨m, hm⟩ : ∃ m, k - rs.length = m + 1 := ⟨k - rs.length - 1, by omega⟩
      rw [hm] at h
      cases h

section
variable {P : Program} {w : World} {K : PySem.W.Frag} {mg : Str → Option Value} {base : Heap}

/-! ### beaten_by -/
theorem scBeaten : FnScope ["results", "many", "one", "other"] ["results", "many"] (defScope sBeaten) := ⟨rfl, rfl, rfl, by decide +kernel, rfl, by decide +kernel, by decide +kernel⟩
theorem ok_Beaten {f : Addr} {fd : FuncData} (F : Fun K "beaten_by" "beaten_by" sBeaten f fd) (T : Txt mg) : FnOk P w K mg base CX0 1 f fd ["results", "many"] spBy := by
  refine F.ok scBeaten (fun vs H Q E h => ?_) (fun cdv A outer s H vs Q E hr h => ?_)
  · obtain ⟨d, n, kvs, rfl, _⟩ := h
    rfl
  · obtain ⟨d, n, kvs, rfl, hd, hn, q⟩ := h
    refine ⟨_, pss_one (ps_ret (pe_callTy (tupK K) (by rfl) T.tuple (by decide +kernel) (pa_cons
      (pe_lc (own := [("one", 2)]) (g := gName 2) (tt := tYes) rfl scBeaten.nd (pi_range1 (by rfl) T.range (pa_cons (pv 1) pa_nil)) (blkOk_by (N := ["results", "many", "one", "other"]) (sc := defScope sBeaten) (by decide +kernel)) (fun _ _ _ _ _ => pg_name (i := 2) scBeaten.nd rfl (Or.inr rfl)) (fun _ _ _ _ _ => pts_nil)
        (fun _ _ _ _ _ => pe_callTy (tupK K) (by rfl) T.tuple (by decide +kernel) (pa_cons
          (pe_lc (own := [("other", 3)]) (g := gName 3) rfl scBeaten.nd (pi_range1 (by rfl) T.range (pa_cons (pv 1) pa_nil)) (blkOk_by (N := ["results", "many", "one", "other"]) (sc := relS (lcScope (callArg (retExpr sBeaten))) (defScope sBeaten)) (by decide +kernel)) (fun _ _ _ _ _ => pg_name (i := 3) scBeaten.nd rfl (Or.inl rfl))
            (fun _ _ _ _ _ => pts_one (pt_cmp (pc_din (hu_of hr) (pe_tup (pa_cons (pv 2) (pa_cons (pv 3) pa_nil))) (pv 0)))) (fun _ _ _ _ _ => pv 3)) pa_nil))) pa_nil))), ?_⟩
    refine ⟨.int n, rfl, n, rfl, by omega, by omega, fun D hD => ?_⟩
    rw [Int.toNat_natCast]
    refine lc_range (lo := 0) (n := n) (fun i H2 => Same H H2 ∧ ∃ rs : List Addr, H2 D = some (.lst (rs.map V.ref)) ∧ rs.length = i ∧ ∀ (k : Nat) (r : Addr), rs[k]? = some r → H2 r = some (.tup (rowV n (has kvs) k))) ⟨same_upd hD, [], upd_same, rfl, fun k r z => by simp at z⟩ (fun i H2 hi p => ?_) fun H2 p => ?_
    · obtain ⟨s2, rs, eD, hl, hrs⟩ := p
      rw [Int.zero_add]
      refine ⟨rfl, yes_if ?_⟩
      refine ⟨.int n, rfl, n, rfl, by omega, by omega, fun D2 hD2 => ?_⟩
      rw [Int.toNat_natCast]
      refine lc_rangeF (fun j => has kvs i j) (fun j => V.int (j : Int)) hD2 (by omega) (fun _ => rfl) (fun j hj H4 Qt s4 k => ?_) (fun j hj H4 Qv s4 k => ⟨.int j, rfl, k H4 (Same.refl _)⟩) fun H4 s4 eD2 => ?_
      · refine ⟨.int i, rfl, .int j, rfl, by show 2 ≤ sizeLine; decide, fun tp htp => ?_⟩
        have hd4 : (upd H4 tp (.tup [.int (i : Int), .int (j : Int)])) d = some (.dT kvs) := same_upd htp _ _ (s4 _ _ (s2 _ _ hd))
        exact ⟨.ref d, rfl, d, _, rfl, DGet.t (k := pk i j) hd4 upd_same, _, rfl, k _ (same_upd htp)⟩
      · refine ⟨D2, _, rfl, .inl ⟨(Or.inl (Or.inl eD2) : SqL K H4 D2 _), fun l hl2 => ?_⟩⟩
        have eD4 := s4 _ _ eD
        have nl : D ≠ l := ne_of_none eD4 hl2
        refine ⟨rs.map V.ref, ?_, ?_, ?_, rs ++ [l], ?_, ?_, fun k r hk => ?_⟩
        · rw [upd_ne nl]
          exact eD4
        · rw [List.length_map, hl]
          exact small_of (by omega)
        · exact same_put hD ((s2.trans s4).trans (same_upd hl2))
        · rw [upd_same, refs_snoc]
        · rw [List.length_append, hl]
          rfl
        · rcases snoc_at hk with h5 | ⟨h5, rfl⟩
          · have h6 := hrs k r h5
            have nD : r ≠ D := ne_of h6 eD (by intro z; cases z)
            rw [upd_ne nD]
            exact same_upd hl2 _ _ (s4 _ _ h6)
          · have nD : r ≠ D := nl.symm
            rw [upd_ne nD, upd_same, h5, hl]
            unfold rowV rowI
            rw [List.map_map]
            rfl
    · obtain ⟨s2, rs, eD, hl, hrs⟩ := p
      refine ⟨D, _, rfl, .inl ⟨(Or.inl (Or.inl eD) : SqL K H2 D _), fun l hl2 => q _ l (s2.trans (same_upd hl2)) ⟨rs, upd_same, hl, fun k r hk => same_upd hl2 _ _ (hrs k r hk)⟩⟩⟩

/-! ### _law_by -/
theorem scBy : FnScope ["_law_beats", "_law_many", "_law_one", "_law_other"] ["_law_beats", "_law_many"] (defScope sBy) := ⟨rfl, rfl, rfl, by decide +kernel, rfl, by decide +kernel, by decide +kernel⟩
theorem ok_By {f : Addr} {fd : FuncData} (F : Fun K "_law_by" "_law_by" sBy f fd) (T : Txt mg) : FnOk P w K mg base CX0 1 f fd ["_law_beats", "_law_many"] spBy := by
  refine F.ok scBy (fun vs H Q E h => ?_) (fun cdv A outer s H vs Q E hr h => ?_)
  · obtain ⟨d, n, kvs, rfl, _⟩ := h
    rfl
  · obtain ⟨d, n, kvs, rfl, hd, hn, q⟩ := h
    refine ⟨_, pss_one (ps_ret (pe_callTy (tupK K) (by rfl) T.tuple (by decide +kernel) (pa_cons
      (pe_lc (own := [("_law_one", 2)]) (g := gName 2) (tt := tYes) rfl scBy.nd (pi_range1 (by rfl) T.range (pa_cons (pv 1) pa_nil)) (blkOk_by (N := ["_law_beats", "_law_many", "_law_one", "_law_other"]) (sc := defScope sBy) (by decide +kernel)) (fun _ _ _ _ _ => pg_name (i := 2) scBy.nd rfl (Or.inr rfl)) (fun _ _ _ _ _ => pts_nil)
        (fun _ _ _ _ _ => pe_callTy (tupK K) (by rfl) T.tuple (by decide +kernel) (pa_cons
          (pe_lc (own := [("_law_other", 3)]) (g := gName 3) rfl scBy.nd (pi_range1 (by rfl) T.range (pa_cons (pv 1) pa_nil)) (blkOk_by (N := ["_law_beats", "_law_many", "_law_one", "_law_other"]) (sc := relS (lcScope (callArg (retExpr sBy))) (defScope sBy)) (by decide +kernel)) (fun _ _ _ _ _ => pg_name (i := 3) scBy.nd rfl (Or.inl rfl))
            (fun _ _ _ _ _ => pts_one (pt_cmp (pc_din (hu_of hr) (pe_tup (pa_cons (pv 2) (pa_cons (pv 3) pa_nil))) (pv 0)))) (fun _ _ _ _ _ => pv 3)) pa_nil))) pa_nil))), ?_⟩
    refine ⟨.int n, rfl, n, rfl, by omega, by omega, fun D hD => ?_⟩
    rw [Int.toNat_natCast]
    refine lc_range (lo := 0) (n := n) (fun i H2 => Same H H2 ∧ ∃ rs : List Addr, H2 D = some (.lst (rs.map V.ref)) ∧ rs.length = i ∧ ∀ (k : Nat) (r : Addr), rs[k]? = some r → H2 r = some (.tup (rowV n (has kvs) k))) ⟨same_upd hD, [], upd_same, rfl, fun k r z => by simp at z⟩ (fun i H2 hi p => ?_) fun H2 p => ?_
    · obtain ⟨s2, rs, eD, hl, hrs⟩ := p
      rw [Int.zero_add]
      refine ⟨rfl, yes_if ?_⟩
      refine ⟨.int n, rfl, n, rfl, by omega, by omega, fun D2 hD2 => ?_⟩
      rw [Int.toNat_natCast]
      refine lc_rangeF (fun j => has kvs i j) (fun j => V.int (j : Int)) hD2 (by omega) (fun _ => rfl) (fun j hj H4 Qt s4 k => ?_) (fun j hj H4 Qv s4 k => ⟨.int j, rfl, k H4 (Same.refl _)⟩) fun H4 s4 eD2 => ?_
      · refine ⟨.int i, rfl, .int j, rfl, by show 2 ≤ sizeLine; decide, fun tp htp => ?_⟩
        have hd4 : (upd H4 tp (.tup [.int (i : Int), .int (j : Int)])) d = some (.dT kvs) := same_upd htp _ _ (s4 _ _ (s2 _ _ hd))
        exact ⟨.ref d, rfl, d, _, rfl, DGet.t (k := pk i j) hd4 upd_same, _, rfl, k _ (same_upd htp)⟩
      · refine ⟨D2, _, rfl, .inl ⟨(Or.inl (Or.inl eD2) : SqL K H4 D2 _), fun l hl2 => ?_⟩⟩
        have eD4 := s4 _ _ eD
        have nl : D ≠ l := ne_of_none eD4 hl2
        refine ⟨rs.map V.ref, ?_, ?_, ?_, rs ++ [l], ?_, ?_, fun k r hk => ?_⟩
        · rw [upd_ne nl]
          exact eD4
        · rw [List.length_map, hl]
          exact small_of (by omega)
        · exact same_put hD ((s2.trans s4).trans (same_upd hl2))
        · rw [upd_same, refs_snoc]
        · rw [List.length_append, hl]
          rfl
        · rcases snoc_at hk with h5 | ⟨h5, rfl⟩
          · have h6 := hrs k r h5
            have nD : r ≠ D := ne_of h6 eD (by intro z; cases z)
            rw [upd_ne nD]
            exact same_upd hl2 _ _ (s4 _ _ h6)
          · have nD : r ≠ D := nl.symm
            rw [upd_ne nD, upd_same, h5, hl]
            unfold rowV rowI
            rw [List.map_map]
            rfl
    · obtain ⟨s2, rs, eD, hl, hrs⟩ := p
      refine ⟨D, _, rfl, .inl ⟨(Or.inl (Or.inl eD) : SqL K H2 D _), fun l hl2 => q _ l (s2.trans (same_upd hl2)) ⟨rs, upd_same, hl, fun k r hk => same_upd hl2 _ _ (hrs k r hk)⟩⟩⟩
end
end RB

/-! RbSwitch: switched_by, renamed_by and the law's own two. -/
namespace RB
open PySem PySem.Spec PySem.W PyProof.Rows L2

/-! ### the pairs so far -/
def Filled (kvs : List (List L2.Key × V)) (S : Int → Int → Prop) : Prop := ∀ i j : Int, (valV kvs (pk i j)).isSome = true ↔ S i j
theorem Filled.nil : Filled [] (fun _ _ => False) := fun i j => by
  constructor
  · intro h
    cases h
  · intro h
    exact h.elim
theorem Filled.put {kvs : List (List L2.Key × V)} {S : Int → Int → Prop} (h : Filled kvs S) (a c : Int) (v : V) : Filled (putK kvs (pk a c) v) (fun i j => S i j ∨ (i = a ∧ j = c)) := fun i j => by
  rw [valV_put]
  by_cases e : pk i j = pk a c
  · rw [if_pos e]
    have e1 : i = a ∧ j = c := by
      unfold pk at e
      obtain ⟨e1, e2⟩ := List.cons.inj e
      obtain ⟨e2, _⟩ := List.cons.inj e2
      exact ⟨Sum.inl.inj e1, Sum.inl.inj e2⟩
    exact ⟨fun _ => .inr e1, fun _ => rfl⟩
  · rw [if_neg e, h i j]
    refine ⟨fun z => .inl z, fun z => z.elim id fun q => absurd ?_ e⟩
    rw [q.1, q.2]
theorem Filled.congr {kvs : List (List L2.Key × V)} {S S' : Int → Int → Prop} (h : Filled kvs S) (e : ∀ i j, S i j ↔ S' i j) : Filled kvs S' := fun i j => (h i j).trans (e i j)

/-- the pairs of the rows ahead of x, and of the first m of row x -/
def Upto (n : Nat) (b : Nat → Nat → Bool) (f : Nat → Nat → Int × Int) (x m : Nat) (i j : Int) : Prop :=
  (∃ x' y, x' < x ∧ y < n ∧ b x' y = true ∧ f x' y = (i, j)) ∨ ∃ y, y ∈ (row n b x).take m ∧ f x y = (i, j)
def DoneF (n : Nat) (b : Nat → Nat → Bool) (f : Nat → Nat → Int × Int) (x m : Nat) (kvs : List (List L2.Key × V)) : Prop := Filled kvs (Upto n b f x m) ∧ kvs.length ≤ x * n + m
theorem DoneF.start (n : Nat) (b : Nat → Nat → Bool) (f : Nat → Nat → Int × Int) : DoneF n b f 0 0 [] := by
  refine ⟨Filled.nil.congr fun i j => ⟨fun h => h.elim, ?_⟩, Nat.zero_le _⟩
  rintro (⟨x', y, h, _⟩ | ⟨y, h, _⟩)
  · exact Nat.not_lt_zero _ h
  · rw [List.take_zero] at h
    cases h
theorem DoneF.step {n : Nat} {b : Nat → Nat → Bool} {f : Nat → Nat → Int × Int} {x m y : Nat} {kvs : List (List L2.Key × V)} (h : DoneF n b f x m kvs) (hy : (row n b x)[m]? = some y) (v : V) : DoneF n b f x (m + 1) (putK kvs (pk (f x y).1 (f x y).2) v) := by
  refine ⟨(h.1.put _ _ v).congr fun i j => ?_, by have := length_putK kvs (pk (f x y).1 (f x y).2) v; have := h.2; omega⟩
  unfold Upto
  rw [List.take_add_one, hy]
  constructor
  · rintro ((q | ⟨z, hz, e⟩) | ⟨e1, e2⟩)
    · exact .inl q
    · exact .inr ⟨z, List.mem_append_left _ hz, e⟩
    · exact .inr ⟨y, List.mem_append_right _ (by simp), by rw [e1, e2]⟩
  · rintro (q | ⟨z, hz, e⟩)
    · exact .inl (.inl q)
    · rcases List.mem_append.mp hz with hz | hz
      · exact .inl (.inr ⟨z, hz, e⟩)
      · have ez : z = y := by simpa using hz
        subst ez
        refine .inr ?_
        rw [e]
        exact ⟨rfl, rfl⟩
theorem DoneF.next {n : Nat} {b : Nat → Nat → Bool} {f : Nat → Nat → Int × Int} {x : Nat} {kvs : List (List L2.Key × V)} (h : DoneF n b f x (row n b x).length kvs) : DoneF n b f (x + 1) 0 kvs := by
  refine ⟨h.1.congr fun i j => ?_, ?_⟩
  · unfold Upto
    rw [List.take_length, List.take_zero]
    constructor
    · rintro (⟨x', y, h1, h2⟩ | ⟨y, hy, e⟩)
      · exact .inl ⟨x', y, by omega, h2⟩
      · exact .inl ⟨x, y, by omega, (mem_row.mp hy).1, (mem_row.mp hy).2, e⟩
    · rintro (⟨x', y, h1, h2, h3, h4⟩ | ⟨y, hy, _⟩)
      · by_cases ex : x' = x
        · subst ex
          exact .inr ⟨y, mem_row.mpr ⟨h2, h3⟩, h4⟩
        · exact .inl ⟨x', y, by omega, h2, h3, h4⟩
      · cases hy
  · have h1 := h.2
    have h2 := row_len n b x
    rw [Nat.succ_mul]
    omega
open Classical in
theorem DoneF.fin {n : Nat} {b : Nat → Nat → Bool} {f : Nat → Nat → Int × Int} {kvs : List (List L2.Key × V)} (h : DoneF n b f n 0 kvs) (i j : Nat) : has kvs i j = img n b f i j := by
  have q := h.1 (i : Int) (j : Int)
  unfold has
  have e : Upto n b f n 0 (i : Int) (j : Int) ↔ ∃ x y, x < n ∧ y < n ∧ b x y = true ∧ f x y = ((i : Int), (j : Int)) := by
    unfold Upto
    rw [List.take_zero]
    constructor
    · rintro (q | ⟨y, hy, _⟩)
      · exact q
      · cases hy
    · intro q
      exact .inl q
  rw [e] at q
  unfold img
  cases hh : (valV kvs (pk (i : Int) (j : Int))).isSome with
  | true => exact (decide_eq_true (q.mp hh)).symm
  | false =>
    refine (decide_eq_false fun z => ?_).symm
    rw [q.mpr z] at hh
    cases hh
theorem DoneF.small {n : Nat} {b : Nat → Nat → Bool} {f : Nat → Nat → Int × Int} {x m y : Nat} {kvs : List (List L2.Key × V)} (h : DoneF n b f x m kvs) (hn : n ≤ 8) (hx : x < n) (hy : (row n b x)[m]? = some y) : kvs.length < sizeLine := by
  have h1 := h.2
  have h2 := row_len n b x
  have h3 : m < (row n b x).length := (List.getElem?_eq_some_iff.mp hy).1
  have h4 : x * n ≤ 8 * 8 := Nat.mul_le_mul (by omega) hn
  exact small_of (by omega)
theorem rowV_at {n : Nat} {b : Nat → Nat → Bool} {i m : Nat} {v : V} (h : (rowV n b i)[m]? = some v) : ∃ y, (row n b i)[m]? = some y ∧ v = V.int (y : Int) ∧ y < n ∧ b i y = true := by
  unfold rowV rowI at h
  rw [List.getElem?_map, List.getElem?_map] at h
  cases e : (row n b i)[m]? with
  | none =>
    rw [e] at h
    cases h
  | some y =>
    rw [e] at h
    have hm := mem_row.mp (List.mem_of_getElem? e)
    exact ⟨y, rfl, (Option.some.inj h).symm, hm.1, hm.2⟩
theorem rowV_len (n : Nat) (b : Nat → Nat → Bool) (i : Nat) : (rowV n b i).length = (row n b i).length := by
  unfold rowV rowI
  rw [List.length_map, List.length_map]

/-! ### for over enumerate(tuple) -/
theorem for_enumT {K : PySem.W.Frag} {a : Addr} {xs : List V} {g : TG} {tb : TS} {D : Ends} {σ : L2.St} {H : Hp} (Pv : Nat → L2.St → Hp → Prop) (h0 : Pv 0 σ H) (hl : ∀ i σ H, i ≤ xs.length → Pv i σ H → SqT K H a xs)
    (hs : ∀ i x T σ H, xs[i]? = some x → Pv i σ H → H T = none → g (.ref T) σ (upd H T (.tup [.int (i : Nat), x])) fun σ2 H2 => tb { D with nx := Pv (i + 1), ct := Pv (i + 1), bk := D.nx } σ2 H2) (hd : ∀ σ H, Pv xs.length σ H → D.nx σ H) :
    ∃ W : Nat → Nat → L2.St → Hp → Prop, (∃ m, W 0 m σ H) ∧ ∀ i m σ H, W i m σ H →
      ((ItE K a).stop i H ∧ D.nx σ H) ∨ ((ItE K a).go i H ∧ ∃ N : L2.St → Hp → Prop, (∀ σ' H', N σ' H' → ∃ m', m' < m ∧ W (i + 1) m' σ' H') ∧ ∀ x H', (ItE K a).yld i H x H' → g x σ H' fun σ2 H2 => tb { D with nx := N, ct := N, bk := D.nx } σ2 H2) := by
  refine ⟨fun i m σ H => i + m = xs.length ∧ Pv i σ H, ⟨xs.length, by omega, h0⟩, fun i m σ H hW => ?_⟩
  obtain ⟨em, p⟩ := hW
  have q := hl i σ H (by omega) p
  by_cases hi : i < xs.length
  · refine .inr ⟨⟨xs, xs[i], q, List.getElem?_eq_getElem hi⟩, Pv (i + 1), fun σ2 H2 p2 => ⟨m - 1, by omega, by omega, p2⟩, fun x H2 y => ?_⟩
    obtain ⟨T, z, rfl, hT, rfl, hz⟩ := y
    exact hs i z T σ H (hz xs q) p hT
  · have e : i = xs.length := by omega
    subst e
    exact .inl ⟨⟨xs, q, Nat.le_refl _⟩, hd σ H p⟩

theorem same_in {ks : List Int} {i z : Int} : (V.bl (inV (.int i) (ks.map V.int)) = V.bl (inV (.int z) (ks.map V.int))) ↔ ((i ∈ ks) = (z ∈ ks)) := by
  rw [inV_ints, inV_ints]
  constructor
  · intro h
    have h2 := V.bl.inj h
    exact propext ((decide_eq_decide).mp h2)
  · intro h
    have h2 : (i ∈ ks) ↔ (z ∈ ks) := by rw [h]
    rw [decide_eq_decide.mpr h2]
theorem fsw_pos {ks : List Int} {x y : Nat} (h : ((x : Int) ∈ ks) = ((y : Int) ∈ ks)) : fsw ks x y = ((x : Int), (y : Int)) := by
  unfold fsw
  rw [if_pos h]
theorem fsw_neg {ks : List Int} {x y : Nat} (h : ¬ ((x : Int) ∈ ks) = ((y : Int) ∈ ks)) : fsw ks x y = ((y : Int), (x : Int)) := by
  unfold fsw
  rw [if_neg h]
theorem ref_at {rs : List Addr} {i : Nat} {x : V} (h : (rs.map V.ref)[i]? = some x) : ∃ r, rs[i]? = some r ∧ x = V.ref r := by
  rw [List.getElem?_map] at h
  cases e : rs[i]? with
  | none =>
    rw [e] at h
    cases h
  | some r =>
    rw [e] at h
    exact ⟨r, rfl, (Option.some.inj h).symm⟩
def spSw : Sp := fun vs H Q _ => ∃ (t s : Addr) (n : Nat) (b : Nat → Nat → Bool) (ks : List Int), vs = [.ref t, .ref s] ∧ Tour H t n b ∧ n ≤ 8 ∧ H s = some (.tup (ks.map V.int)) ∧
  ∀ (H' : Hp) (t' : Addr), Same H H' → Tour H' t' n (img n b (fsw ks)) → Q (.ref t') H'
def spRen : Sp := fun vs H Q _ => ∃ (t o : Addr) (n : Nat) (b : Nat → Nat → Bool) (os : List Int), vs = [.ref t, .ref o] ∧ Tour H t n b ∧ n ≤ 8 ∧ H o = some (.tup (os.map V.int)) ∧ os.length = n ∧
  ∀ (H' : Hp) (t' : Addr), Same H H' → Tour H' t' n (img n b (fren os)) → Q (.ref t') H'

section
variable {P : Program} {w : World} {K : PySem.W.Frag} {mg : Str → Option Value} {base : Heap}
theorem scSwitch : FnScope ["tournament", "players", "found", "one", "row", "other"] ["tournament", "players"] (defScope sSwitch) := ⟨rfl, rfl, rfl, by decide +kernel, rfl, by decide +kernel, by decide +kernel⟩
theorem ok_switch {f fB : Addr} {fd fdB : FuncData} (F : Fun K "switched_by" "switched_by" sSwitch f fd) (T : Txt mg) (GB : FnOk P w K mg base CX0 1 fB fdB ["results", "many"] spBy) (kB : PySem.W.keepIn K (.ref fB) = true) (bB : Binds K fdB ["results", "many"] []) (gB : mg "beaten_by" = some (.ref fB)) :
    FnOk P w K mg base CX0 2 f fd ["tournament", "players"] spSw := by
  refine F.ok scSwitch (fun vs H Q E h => ?_) (fun cdv A outer s0 H vs Q E hr h => ?_)
  · obtain ⟨t, s, n, b, ks, rfl, _⟩ := h
    rfl
  · obtain ⟨t, s, n, b, ks, rfl, ⟨rs, h1, h2, h3⟩, hn, hs, q⟩ := h
    refine ⟨_, pss_cons (ps_set (i := 2) scSwitch.nd rfl (.inl rfl) pe_dnewT)
      (pss_cons (ps_for PassesOwn.never rfl (pi_enumT (by rfl) T.enum (pa_cons (pv 0) pa_nil)) (pg_tup rfl (pgs_cons (pg_name (i := 3) scSwitch.nd rfl (.inl rfl)) (pgs_cons (pg_name (i := 4) scSwitch.nd rfl (.inl rfl)) pgs_nil)))
        (pss_one (ps_for PassesOwn.never rfl (pi_tup (pv 4)) (pg_name (i := 5) scSwitch.nd rfl (.inl rfl))
          (pss_one (ps_dput (hu_of hr) (pv 2) (pe_ifExp (pt_cmpR op_eq (pe_cmpR (inS K) (pv 3) (pv 1) (by rfl)) (pe_cmpR (inS K) (pv 5) (pv 1) (by rfl)) (nomark _)) (pe_tup (pa_cons (pv 3) (pa_cons (pv 5) pa_nil))) (pe_tup (pa_cons (pv 5) (pa_cons (pv 3) pa_nil)))) pe_bl rfl)))))
      (pss_one (ps_ret (pe_call GB hr (by rfl) gB kB bB .nil pass0 (pa_cons (pv 2) (pa_cons (pe_callB (lenK K) (by rfl) T.len PySem.boot_len (pa_cons (pv 0) pa_nil)) pa_nil)))))), ?_⟩
    intro d hd
    have s1 : Same H (upd H d (.dT [])) := same_upd hd
    refine ⟨.ref t, rfl, t, _, rfl, (Or.inl (Or.inl (s1 _ _ h1)) : SqT K _ t _), for_enumT (K := K) (a := t) (xs := rs.map V.ref) (fun i σ H2 => Same H H2 ∧ (∃ kvs, H2 d = some (.dT kvs) ∧ DoneF n b (fsw ks) i 0 kvs) ∧ ∃ y3 y4 y5, σ = [some (.ref t), some (.ref s), some (.ref d), y3, y4, y5])
      ⟨s1, ⟨[], upd_same, DoneF.start n b _⟩, none, none, none, rfl⟩ (fun i σ H2 _ p => .inl (.inl (p.1 _ _ h1))) (fun i x T σ H2 hi p hT => ?_) (fun σ H2 p => ?_)⟩
    · obtain ⟨s2, ⟨kvs, eD, dn⟩, y3, y4, y5, rfl⟩ := p
      obtain ⟨r, hr2, rfl⟩ := ref_at hi
      have hi2 : i < n := by
        rw [← h2]
        exact (List.getElem?_eq_some_iff.mp hr2).1
      have s3 : Same H (upd H2 T (.tup [.int (i : Nat), .ref r])) := s2.trans (same_upd hT)
      have eD3 : (upd H2 T (.tup [.int (i : Nat), .ref r])) d = some (.dT kvs) := same_upd hT _ _ eD
      refine ⟨T, [.int i, .ref r], rfl, .inl (.inl upd_same), rfl, .int i, [.ref r], rfl, .ref r, [], rfl, rfl, ?_⟩
      refine ⟨.ref r, rfl, r, rfl, ⟨_, (Or.inl (Or.inl (s3 _ _ (h3 i r hr2))) : SqT K _ r _)⟩, for_tup (K := K) (a := r) (xs := rowV n b i) (fun m σ H4 => Same H H4 ∧ (∃ kvs, H4 d = some (.dT kvs) ∧ DoneF n b (fsw ks) i m kvs) ∧ ∃ y5, σ = [some (.ref t), some (.ref s), some (.ref d), some (.int (i : Int)), some (.ref r), y5])
        ⟨s3, ⟨kvs, eD3, dn⟩, y5, rfl⟩ (fun m σ H4 _ p => .inl (.inl (p.1 _ _ (h3 i r hr2)))) (fun m y σ H4 hm p => ?_) (fun σ H4 p => ?_)⟩
      · obtain ⟨s4, ⟨kvs4, eD4, dn4⟩, z5, rfl⟩ := p
        obtain ⟨z, hz, rfl, hzn, hbz⟩ := rowV_at hm
        have hs4 : SqT K H4 s (ks.map V.int) := .inl (.inl (s4 _ _ hs))
        refine ⟨.ref d, rfl, .int i, rfl, .ref s, rfl, s, _, rfl, .inr hs4, rfl, flat_ints _, .int z, rfl, .ref s, rfl, s, _, rfl, .inr hs4, rfl, flat_ints _, rfl, _, rfl, ?_⟩
        by_cases e : ((i : Int) ∈ ks) = ((z : Int) ∈ ks)
        · rw [show decide (V.bl (if false = true then !inV (V.int (i : Int)) (ks.map V.int) else inV (V.int (i : Int)) (ks.map V.int)) = V.bl (if false = true then !inV (V.int (z : Int)) (ks.map V.int) else inV (V.int (z : Int)) (ks.map V.int))) = true from decide_eq_true (same_in.mpr e)]
          refine iteT ⟨.int i, rfl, .int z, rfl, by show 2 ≤ sizeLine; decide, fun tp htp => ?_⟩
          refine ⟨d, _, rfl, DPut.t (k := pk i z) (same_upd htp _ _ eD4) upd_same (dn4.small hn hi2 hz), same_put hd (s4.trans (same_upd htp)), ⟨_, upd_same, ?_⟩, _, rfl⟩
          have st := dn4.step hz (.bl true)
          rw [fsw_pos e] at st
          exact st
        · rw [show decide (V.bl (if false = true then !inV (V.int (i : Int)) (ks.map V.int) else inV (V.int (i : Int)) (ks.map V.int)) = V.bl (if false = true then !inV (V.int (z : Int)) (ks.map V.int) else inV (V.int (z : Int)) (ks.map V.int))) = false from decide_eq_false (fun q => e (same_in.mp q))]
          refine iteF ⟨.int z, rfl, .int i, rfl, by show 2 ≤ sizeLine; decide, fun tp htp => ?_⟩
          refine ⟨d, _, rfl, DPut.t (k := pk z i) (same_upd htp _ _ eD4) upd_same (dn4.small hn hi2 hz), same_put hd (s4.trans (same_upd htp)), ⟨_, upd_same, ?_⟩, _, rfl⟩
          have st := dn4.step hz (.bl true)
          rw [fsw_neg e] at st
          exact st
      · obtain ⟨s4, ⟨kvs4, eD4, dn4⟩, z5, rfl⟩ := p
        rw [rowV_len] at dn4
        exact ⟨s4, ⟨kvs4, eD4, dn4.next⟩, _, _, _, rfl⟩
    · obtain ⟨s2, ⟨kvs, eD, dn⟩, y3, y4, y5, rfl⟩ := p
      rw [List.length_map, h2] at dn
      refine ⟨.ref d, rfl, .ref t, rfl, t, _, rfl, (Or.inr (Or.inl (Or.inl (s2 _ _ h1))) : SqL K H2 t _ ∨ SqT K H2 t _), d, n, kvs, ?_, eD, by omega, fun H3 t' s3 ht => q H3 t' (s2.trans s3) (ht.congr fun i _ j _ => dn.fin i j)⟩
      rw [List.length_map, h2]
      rfl
end
end RB

/-! RbSwitch2: renamed_by, _law_switched, _law_renamed. -/
namespace RB
open PySem PySem.Spec PySem.W PyProof.Rows L2
theorem os_at {os : List Int} {n i : Nat} (hl : os.length = n) (hi : i < n) : atI (os.map V.int) (i : Int) = some (V.int (os.getD i 0)) := by
  refine atI_nat ?_
  rw [List.getElem?_map, List.getElem?_eq_getElem (by omega), List.getD_eq_getElem?_getD, List.getElem?_eq_getElem (by omega)]
  rfl
section
variable {P : Program} {w : World} {K : PySem.W.Frag} {mg : Str → Option Value} {base : Heap}
/-! ### renamed_by -/
theorem scRename : FnScope ["tournament", "order", "found", "one", "row", "other"] ["tournament", "order"] (defScope sRename) := ⟨rfl, rfl, rfl, by decide +kernel, rfl, by decide +kernel, by decide +kernel⟩
theorem ok_rename {f fB : Addr} {fd fdB : FuncData} (F : Fun K "renamed_by" "renamed_by" sRename f fd) (T : Txt mg) (GB : FnOk P w K mg base CX0 1 fB fdB ["results", "many"] spBy) (kB : PySem.W.keepIn K (.ref fB) = true) (bB : Binds K fdB ["results", "many"] []) (gB : mg "beaten_by" = some (.ref fB)) :
    FnOk P w K mg base CX0 2 f fd ["tournament", "order"] spRen := by
  refine F.ok scRename (fun vs H Q E h => ?_) (fun cdv A outer s0 H vs Q E hr h => ?_)
  · obtain ⟨t, s, n, b, os, rfl, _⟩ := h
    rfl
  · obtain ⟨t, s, n, b, os, rfl, ⟨rs, h1, h2, h3⟩, hn, hs, ho, q⟩ := h
    refine ⟨_, pss_cons (ps_set (i := 2) scRename.nd rfl (.inl rfl) pe_dnewT)
      (pss_cons (ps_for PassesOwn.never rfl (pi_enumT (by rfl) T.enum (pa_cons (pv 0) pa_nil)) (pg_tup rfl (pgs_cons (pg_name (i := 3) scRename.nd rfl (.inl rfl)) (pgs_cons (pg_name (i := 4) scRename.nd rfl (.inl rfl)) pgs_nil)))
        (pss_one (ps_for PassesOwn.never rfl (pi_tup (pv 4)) (pg_name (i := 5) scRename.nd rfl (.inl rfl))
          (pss_one (ps_dput (hu_of hr) (pv 2) (pe_tup (pa_cons (pe_ix (ixT K) (pv 1) (pv 3) (fun _ _ => rfl)) (pa_cons (pe_ix (ixT K) (pv 1) (pv 5) (fun _ _ => rfl)) pa_nil))) pe_bl rfl)))))
      (pss_one (ps_ret (pe_call GB hr (by rfl) gB kB bB .nil pass0 (pa_cons (pv 2) (pa_cons (pe_callB (lenK K) (by rfl) T.len PySem.boot_len (pa_cons (pv 0) pa_nil)) pa_nil)))))), ?_⟩
    intro d hd
    have s1 : Same H (upd H d (.dT [])) := same_upd hd
    refine ⟨.ref t, rfl, t, _, rfl, (Or.inl (Or.inl (s1 _ _ h1)) : SqT K _ t _), for_enumT (K := K) (a := t) (xs := rs.map V.ref) (fun i σ H2 => Same H H2 ∧ (∃ kvs, H2 d = some (.dT kvs) ∧ DoneF n b (fren os) i 0 kvs) ∧ ∃ y3 y4 y5, σ = [some (.ref t), some (.ref s), some (.ref d), y3, y4, y5])
      ⟨s1, ⟨[], upd_same, DoneF.start n b _⟩, none, none, none, rfl⟩ (fun i σ H2 _ p => .inl (.inl (p.1 _ _ h1))) (fun i x T σ H2 hi p hT => ?_) (fun σ H2 p => ?_)⟩
    · obtain ⟨s2, ⟨kvs, eD, dn⟩, y3, y4, y5, rfl⟩ := p
      obtain ⟨r, hr2, rfl⟩ := ref_at hi
      have hi2 : i < n := by
        rw [← h2]
        exact (List.getElem?_eq_some_iff.mp hr2).1
      have s3 : Same H (upd H2 T (.tup [.int (i : Nat), .ref r])) := s2.trans (same_upd hT)
      have eD3 : (upd H2 T (.tup [.int (i : Nat), .ref r])) d = some (.dT kvs) := same_upd hT _ _ eD
      refine ⟨T, [.int i, .ref r], rfl, .inl (.inl upd_same), rfl, .int i, [.ref r], rfl, .ref r, [], rfl, rfl, ?_⟩
      refine ⟨.ref r, rfl, r, rfl, ⟨_, (Or.inl (Or.inl (s3 _ _ (h3 i r hr2))) : SqT K _ r _)⟩, for_tup (K := K) (a := r) (xs := rowV n b i) (fun m σ H4 => Same H H4 ∧ (∃ kvs, H4 d = some (.dT kvs) ∧ DoneF n b (fren os) i m kvs) ∧ ∃ y5, σ = [some (.ref t), some (.ref s), some (.ref d), some (.int (i : Int)), some (.ref r), y5])
        ⟨s3, ⟨kvs, eD3, dn⟩, y5, rfl⟩ (fun m σ H4 _ p => .inl (.inl (p.1 _ _ (h3 i r hr2)))) (fun m y σ H4 hm p => ?_) (fun σ H4 p => ?_)⟩
      · obtain ⟨s4, ⟨kvs4, eD4, dn4⟩, z5, rfl⟩ := p
        obtain ⟨z, hz, rfl, hzn, hbz⟩ := rowV_at hm
        have hs4 : SqT K H4 s (os.map V.int) := .inl (.inl (s4 _ _ hs))
        refine ⟨.ref d, rfl, .ref s, rfl, .int i, rfl, s, _, i, _, rfl, rfl, hs4, os_at ho hi2, .ref s, rfl, .int z, rfl, s, _, z, _, rfl, rfl, hs4, os_at ho hzn, by show 2 ≤ sizeLine; decide, fun tp htp => ?_⟩
        exact ⟨d, _, rfl, DPut.t (k := pk (os.getD i 0) (os.getD z 0)) (same_upd htp _ _ eD4) upd_same (dn4.small hn hi2 hz), same_put hd (s4.trans (same_upd htp)), ⟨_, upd_same, dn4.step hz (.bl true)⟩, _, rfl⟩
      · obtain ⟨s4, ⟨kvs4, eD4, dn4⟩, z5, rfl⟩ := p
        rw [rowV_len] at dn4
        exact ⟨s4, ⟨kvs4, eD4, dn4.next⟩, _, _, _, rfl⟩
    · obtain ⟨s2, ⟨kvs, eD, dn⟩, y3, y4, y5, rfl⟩ := p
      rw [List.length_map, h2] at dn
      refine ⟨.ref d, rfl, .ref t, rfl, t, _, rfl, (Or.inr (Or.inl (Or.inl (s2 _ _ h1))) : SqL K H2 t _ ∨ SqT K H2 t _), d, n, kvs, ?_, eD, by omega, fun H3 t' s3 ht => q H3 t' (s2.trans s3) (ht.congr fun i _ j _ => dn.fin i j)⟩
      rw [List.length_map, h2]
      rfl

/-! ### _law_renamed -/
theorem scRenL : FnScope ["_law_tournament_here", "_law_order_here", "_law_beats", "_law_one", "_law_other"] ["_law_tournament_here", "_law_order_here"] (defScope sRenL) := ⟨rfl, rfl, rfl, by decide +kernel, rfl, by decide +kernel, by decide +kernel⟩
theorem ok_renL {f fB : Addr} {fd fdB : FuncData} (F : Fun K "_law_renamed" "_law_renamed" sRenL f fd) (T : Txt mg) (GB : FnOk P w K mg base CX0 1 fB fdB ["_law_beats", "_law_many"] spBy) (kB : PySem.W.keepIn K (.ref fB) = true) (bB : Binds K fdB ["_law_beats", "_law_many"] []) (gB : mg "_law_by" = some (.ref fB)) :
    FnOk P w K mg base CX0 2 f fd ["_law_tournament_here", "_law_order_here"] spRen := by
  refine F.ok scRenL (fun vs H Q E h => ?_) (fun cdv A outer s0 H vs Q E hr h => ?_)
  · obtain ⟨t, s, n, b, os, rfl, _⟩ := h
    rfl
  · obtain ⟨t, s, n, b, os, rfl, ⟨rs, h1, h2, h3⟩, hn, hs, ho, q⟩ := h
    refine ⟨_, pss_cons (ps_set (i := 2) scRenL.nd rfl (.inl rfl) pe_dnewT)
      (pss_cons (ps_for PassesOwn.never rfl (pi_range1 (by rfl) T.range (pa_cons (pe_callB (lenK K) (by rfl) T.len PySem.boot_len (pa_cons (pv 0) pa_nil)) pa_nil)) (pg_name (i := 3) scRenL.nd rfl (.inl rfl))
        (pss_one (ps_for PassesOwn.never rfl (pi_tup (pe_ix (ixT K) (pv 0) (pv 3) (fun _ _ => rfl))) (pg_name (i := 4) scRenL.nd rfl (.inl rfl))
          (pss_one (ps_dput (hu_of hr) (pv 2) (pe_tup (pa_cons (pe_ix (ixT K) (pv 1) (pv 3) (fun _ _ => rfl)) (pa_cons (pe_ix (ixT K) (pv 1) (pv 4) (fun _ _ => rfl)) pa_nil))) pe_bl rfl)))))
      (pss_one (ps_ret (pe_call GB hr (by rfl) gB kB bB .nil pass0 (pa_cons (pv 2) (pa_cons (pe_callB (lenK K) (by rfl) T.len PySem.boot_len (pa_cons (pv 0) pa_nil)) pa_nil)))))), ?_⟩
    intro d hd
    have s1 : Same H (upd H d (.dT [])) := same_upd hd
    have hlen : ((rs.map V.ref).length : Int) = (n : Int) := by rw [List.length_map, h2]
    refine ⟨.ref t, rfl, t, _, rfl, (Or.inr (Or.inl (Or.inl (s1 _ _ h1))) : SqL K _ t _ ∨ SqT K _ t _), _, rfl, ?_⟩
    rw [hlen]
    refine ⟨by omega, by omega, ?_⟩
    rw [Int.toNat_natCast]
    refine for_range (lo := 0) (n := n) (fun i σ H2 => Same H H2 ∧ (∃ kvs, H2 d = some (.dT kvs) ∧ DoneF n b (fren os) i 0 kvs) ∧ ∃ y3 y4, σ = [some (.ref t), some (.ref s), some (.ref d), y3, y4])
      ⟨s1, ⟨[], upd_same, DoneF.start n b _⟩, none, none, rfl⟩ (fun i σ H2 hi2 p => ?_) (fun σ H2 p => ?_)
    · obtain ⟨s2, ⟨kvs, eD, dn⟩, y3, y4, rfl⟩ := p
      rw [Int.zero_add]
      obtain ⟨r, g1, g2⟩ := Tour.rowAt h2 h3 hi2
      refine ⟨.ref t, rfl, .int i, rfl, t, _, i, _, rfl, rfl, (Or.inl (Or.inl (s2 _ _ h1)) : SqT K _ t _), atI_nat g1, ?_⟩
      refine ⟨r, rfl, ⟨_, (Or.inl (Or.inl (s2 _ _ g2)) : SqT K _ r _)⟩, for_tup (K := K) (a := r) (xs := rowV n b i) (fun m σ H4 => Same H H4 ∧ (∃ kvs, H4 d = some (.dT kvs) ∧ DoneF n b (fren os) i m kvs) ∧ ∃ y5, σ = [some (.ref t), some (.ref s), some (.ref d), some (.int (i : Int)), y5])
        ⟨s2, ⟨kvs, eD, dn⟩, y4, rfl⟩ (fun m σ H4 _ p => .inl (.inl (p.1 _ _ g2))) (fun m y σ H4 hm p => ?_) (fun σ H4 p => ?_)⟩
      · obtain ⟨s4, ⟨kvs4, eD4, dn4⟩, z5, rfl⟩ := p
        obtain ⟨z, hz, rfl, hzn, hbz⟩ := rowV_at hm
        have hs4 : SqT K H4 s (os.map V.int) := .inl (.inl (s4 _ _ hs))
        refine ⟨.ref d, rfl, .ref s, rfl, .int i, rfl, s, _, i, _, rfl, rfl, hs4, os_at ho hi2, .ref s, rfl, .int z, rfl, s, _, z, _, rfl, rfl, hs4, os_at ho hzn, by show 2 ≤ sizeLine; decide, fun tp htp => ?_⟩
        exact ⟨d, _, rfl, DPut.t (k := pk (os.getD i 0) (os.getD z 0)) (same_upd htp _ _ eD4) upd_same (dn4.small hn hi2 hz), same_put hd (s4.trans (same_upd htp)), ⟨_, upd_same, dn4.step hz (.bl true)⟩, _, rfl⟩
      · obtain ⟨s4, ⟨kvs4, eD4, dn4⟩, z5, rfl⟩ := p
        rw [rowV_len] at dn4
        exact ⟨s4, ⟨kvs4, eD4, dn4.next⟩, _, _, rfl⟩
    · obtain ⟨s2, ⟨kvs, eD, dn⟩, y3, y4, rfl⟩ := p
      refine ⟨.ref d, rfl, .ref t, rfl, t, _, rfl, (Or.inr (Or.inl (Or.inl (s2 _ _ h1))) : SqL K H2 t _ ∨ SqT K H2 t _), d, n, kvs, ?_, eD, by omega, fun H3 t' s3 ht => q H3 t' (s2.trans s3) (ht.congr fun i _ j _ => dn.fin i j)⟩
      rw [List.length_map, h2]
      rfl

/-! ### _law_switched -/
theorem scSwL : FnScope ["_law_tournament_here", "_law_players", "_law_beats", "_law_one", "_law_other", "_law_pair"] ["_law_tournament_here", "_law_players"] (defScope sSwL) := ⟨rfl, rfl, rfl, by decide +kernel, rfl, by decide +kernel, by decide +kernel⟩
theorem ok_swL {f fB : Addr} {fd fdB : FuncData} (F : Fun K "_law_switched" "_law_switched" sSwL f fd) (T : Txt mg) (GB : FnOk P w K mg base CX0 1 fB fdB ["_law_beats", "_law_many"] spBy) (kB : PySem.W.keepIn K (.ref fB) = true) (bB : Binds K fdB ["_law_beats", "_law_many"] []) (gB : mg "_law_by" = some (.ref fB)) :
    FnOk P w K mg base CX0 2 f fd ["_law_tournament_here", "_law_players"] spSw := by
  refine F.ok scSwL (fun vs H Q E h => ?_) (fun cdv A outer s0 H vs Q E hr h => ?_)
  · obtain ⟨t, s, n, b, ks, rfl, _⟩ := h
    rfl
  · obtain ⟨t, s, n, b, ks, rfl, ⟨rs, h1, h2, h3⟩, hn, hs, q⟩ := h
    refine ⟨_, pss_cons (ps_set (i := 2) scSwL.nd rfl (.inl rfl) pe_dnewT)
      (pss_cons (ps_for PassesOwn.never rfl (pi_range1 (by rfl) T.range (pa_cons (pe_callB (lenK K) (by rfl) T.len PySem.boot_len (pa_cons (pv 0) pa_nil)) pa_nil)) (pg_name (i := 3) scSwL.nd rfl (.inl rfl))
        (pss_one (ps_for PassesOwn.never rfl (pi_tup (pe_ix (ixT K) (pv 0) (pv 3) (fun _ _ => rfl))) (pg_name (i := 4) scSwL.nd rfl (.inl rfl))
          (pss_cons (ps_set (i := 5) scSwL.nd rfl (.inl rfl) (pe_tup (pa_cons (pv 3) (pa_cons (pv 4) pa_nil))))
          (pss_cons (ps_if (pt_cmpR op_ne (pe_cmpR (inS K) (pv 3) (pv 1) (by rfl)) (pe_cmpR (inS K) (pv 4) (pv 1) (by rfl)) (nomark _)) (pss_one (ps_set (i := 5) scSwL.nd rfl (.inl rfl) (pe_tup (pa_cons (pv 4) (pa_cons (pv 3) pa_nil))))) pss_nil)
          (pss_one (ps_dput (hu_of hr) (pv 2) (pv 5) pe_bl rfl)))))))
      (pss_one (ps_ret (pe_call GB hr (by rfl) gB kB bB .nil pass0 (pa_cons (pv 2) (pa_cons (pe_callB (lenK K) (by rfl) T.len PySem.boot_len (pa_cons (pv 0) pa_nil)) pa_nil)))))), ?_⟩
    intro d hd
    have s1 : Same H (upd H d (.dT [])) := same_upd hd
    have hlen : ((rs.map V.ref).length : Int) = (n : Int) := by rw [List.length_map, h2]
    refine ⟨.ref t, rfl, t, _, rfl, (Or.inr (Or.inl (Or.inl (s1 _ _ h1))) : SqL K _ t _ ∨ SqT K _ t _), _, rfl, ?_⟩
    rw [hlen]
    refine ⟨by omega, by omega, ?_⟩
    rw [Int.toNat_natCast]
    refine for_range (lo := 0) (n := n) (fun i σ H2 => Same H H2 ∧ (∃ kvs, H2 d = some (.dT kvs) ∧ DoneF n b (fsw ks) i 0 kvs) ∧ ∃ y3 y4 y5, σ = [some (.ref t), some (.ref s), some (.ref d), y3, y4, y5])
      ⟨s1, ⟨[], upd_same, DoneF.start n b _⟩, none, none, none, rfl⟩ (fun i σ H2 hi2 p => ?_) (fun σ H2 p => ?_)
    · obtain ⟨s2, ⟨kvs, eD, dn⟩, y3, y4, y5, rfl⟩ := p
      rw [Int.zero_add]
      obtain ⟨r, g1, g2⟩ := Tour.rowAt h2 h3 hi2
      refine ⟨.ref t, rfl, .int i, rfl, t, _, i, _, rfl, rfl, (Or.inl (Or.inl (s2 _ _ h1)) : SqT K _ t _), atI_nat g1, ?_⟩
      refine ⟨r, rfl, ⟨_, (Or.inl (Or.inl (s2 _ _ g2)) : SqT K _ r _)⟩, for_tup (K := K) (a := r) (xs := rowV n b i) (fun m σ H4 => Same H H4 ∧ (∃ kvs, H4 d = some (.dT kvs) ∧ DoneF n b (fsw ks) i m kvs) ∧ ∃ y4 y5, σ = [some (.ref t), some (.ref s), some (.ref d), some (.int (i : Int)), y4, y5])
        ⟨s2, ⟨kvs, eD, dn⟩, y4, y5, rfl⟩ (fun m σ H4 _ p => .inl (.inl (p.1 _ _ g2))) (fun m y σ H4 hm p => ?_) (fun σ H4 p => ?_)⟩
      · obtain ⟨s4, ⟨kvs4, eD4, dn4⟩, z4, z5, rfl⟩ := p
        obtain ⟨z, hz, rfl, hzn, hbz⟩ := rowV_at hm
        refine ⟨.int i, rfl, .int z, rfl, by show 2 ≤ sizeLine; decide, fun tp htp => ?_⟩
        have s5 := s4.trans (same_upd (o := .tup [.int (i : Int), .int (z : Int)]) htp)
        have hs5 : SqT K (upd H4 tp (.tup [.int (i : Int), .int (z : Int)])) s (ks.map V.int) := .inl (.inl (s5 _ _ hs))
        have eD5 : (upd H4 tp (.tup [.int (i : Int), .int (z : Int)])) d = some (.dT kvs4) := same_upd htp _ _ eD4
        refine ⟨.int i, rfl, .ref s, rfl, s, _, rfl, .inr hs5, rfl, flat_ints _, .int z, rfl, .ref s, rfl, s, _, rfl, .inr hs5, rfl, flat_ints _, rfl, _, rfl, ?_⟩
        by_cases e : ((i : Int) ∈ ks) = ((z : Int) ∈ ks)
        · rw [show decide (V.bl (if false = true then !inV (V.int (i : Int)) (ks.map V.int) else inV (V.int (i : Int)) (ks.map V.int)) = V.bl (if false = true then !inV (V.int (z : Int)) (ks.map V.int) else inV (V.int (z : Int)) (ks.map V.int))) = true from decide_eq_true (same_in.mpr e)]
          refine iteF ⟨.ref d, rfl, .ref tp, rfl, d, _, rfl, DPut.t (k := pk i z) eD5 upd_same (dn4.small hn hi2 hz), same_put hd s5, ⟨_, upd_same, ?_⟩, _, _, rfl⟩
          have st := dn4.step hz (.bl true)
          rw [fsw_pos e] at st
          exact st
        · rw [show decide (V.bl (if false = true then !inV (V.int (i : Int)) (ks.map V.int) else inV (V.int (i : Int)) (ks.map V.int)) = V.bl (if false = true then !inV (V.int (z : Int)) (ks.map V.int) else inV (V.int (z : Int)) (ks.map V.int))) = false from decide_eq_false (fun q => e (same_in.mp q))]
          refine iteT ⟨.int z, rfl, .int i, rfl, by show 2 ≤ sizeLine; decide, fun tq htq => ?_⟩
          refine ⟨.ref d, rfl, .ref tq, rfl, d, _, rfl, DPut.t (k := pk z i) (same_upd htq _ _ eD5) upd_same (dn4.small hn hi2 hz), same_put hd (s5.trans (same_upd htq)), ⟨_, upd_same, ?_⟩, _, _, rfl⟩
          have st := dn4.step hz (.bl true)
          rw [fsw_neg e] at st
          exact st
      · obtain ⟨s4, ⟨kvs4, eD4, dn4⟩, z4, z5, rfl⟩ := p
        rw [rowV_len] at dn4
        exact ⟨s4, ⟨kvs4, eD4, dn4.next⟩, _, _, _, rfl⟩
    · obtain ⟨s2, ⟨kvs, eD, dn⟩, y3, y4, y5, rfl⟩ := p
      refine ⟨.ref d, rfl, .ref t, rfl, t, _, rfl, (Or.inr (Or.inl (Or.inl (s2 _ _ h1))) : SqL K H2 t _ ∨ SqT K H2 t _), d, n, kvs, ?_, eD, by omega, fun H3 t' s3 ht => q H3 t' (s2.trans s3) (ht.congr fun i _ j _ => dn.fin i j)⟩
      rw [List.length_map, h2]
      rfl
end
end RB

/-! RbAccept: what a judged value may be; are_players, accepts_way. -/
namespace RB
open PySem PySem.Spec PySem.W PyProof.Rows L2

/-! ### judged values -/
/-- no tuple, or the tuple of flat things xs -/
def ItemAt (H : Hp) (v : V) : Option (List V) → Prop
  | none => v = .non ∨ ∃ a xs, v = .ref a ∧ H a = some (.lst xs)
  | some xs => ∃ a, v = .ref a ∧ H a = some (.tup xs) ∧ (∀ x ∈ xs, flat3 x = true) ∧ xs.length ≤ 20
/-- no tuple; a tuple that is no pair; a pair of two items -/
def ValAt (H : Hp) (v : V) : Option (Option (Option (List V) × Option (List V))) → Prop
  | none => v = .non ∨ ∃ a xs, v = .ref a ∧ H a = some (.lst xs)
  | some none => ∃ a xs, v = .ref a ∧ H a = some (.tup xs) ∧ xs.length ≠ 2
  | some (some (o, p)) => ∃ a x y, v = .ref a ∧ H a = some (.tup [x, y]) ∧ ItemAt H x o ∧ ItemAt H y p
theorem ItemAt.same {H H' : Hp} {v : V} {p : Option (List V)} (h : ItemAt H v p) (s : Same H H') : ItemAt H' v p := by
  cases p with
  | none =>
    rcases h with h | ⟨a, xs, h1, h2⟩
    · exact .inl h
    · exact .inr ⟨a, xs, h1, s _ _ h2⟩
  | some xs =>
    obtain ⟨a, h1, h2, h3⟩ := h
    exact ⟨a, h1, s _ _ h2, h3⟩
theorem ValAt.same {H H' : Hp} {v : V} {u : Option (Option (Option (List V) × Option (List V)))} (h : ValAt H v u) (s : Same H H') : ValAt H' v u := by
  match u, h with
  | none, .inl h => exact .inl h
  | none, .inr ⟨a, xs, h1, h2⟩ => exact .inr ⟨a, xs, h1, s _ _ h2⟩
  | some none, ⟨a, xs, h1, h2, h3⟩ => exact ⟨a, xs, h1, s _ _ h2, h3⟩
  | some (some (o, p)), ⟨a, x, y, h1, h2, h3, h4⟩ => exact ⟨a, x, y, h1, s _ _ h2, h3.same s, h4.same s⟩
theorem ItemAt.isi {K : PySem.W.Frag} {H : Hp} {v : V} {p : Option (List V)} (h : ItemAt H v p) : IsB K H v "tuple" p.isSome := by
  cases p with
  | none =>
    rcases h with rfl | ⟨a, xs, rfl, h2⟩
    · exact isi_tupN
    · exact isi_tupL h2
  | some xs =>
    obtain ⟨a, rfl, h2, _⟩ := h
    exact isi_tupT h2
theorem ValAt.isi {K : PySem.W.Frag} {H : Hp} {v : V} {u : Option (Option (Option (List V) × Option (List V)))} (h : ValAt H v u) : IsB K H v "tuple" u.isSome := by
  match u, h with
  | none, .inl h =>
    subst h
    exact isi_tupN
  | none, .inr ⟨a, xs, h1, h2⟩ =>
    subst h1
    exact isi_tupL h2
  | some none, ⟨a, xs, h1, h2, h3⟩ =>
    subst h1
    exact isi_tupT h2
  | some (some (o, p)), ⟨a, x, y, h1, h2, h3, h4⟩ =>
    subst h1
    exact isi_tupT h2

/-! ### data -/
def dInts (ns : List Int) : List PyData := ns.map PyData.int
/-- a tournament as data -/
def dT (n : Nat) (b : Nat → Nat → Bool) : PyData := .tuple ((List.range n).map fun i => .tuple (dInts (rowI n b i)))
theorem dp_ints {K : PySem.W.Frag} {H : Hp} : ∀ ns : List Int, DpAll K H (ns.map V.int) (dInts ns)
  | [] => .nil
  | n :: ns => .cons (.int n) (dp_ints ns)
theorem lay_ints : ∀ ns : List Int, PyData.canLayAll0 (dInts ns) = true
  | [] => by
    show PyData.canLayAll0 [] = true
    simp [PyData.canLayAll0]
  | n :: ns => by
    have ih := lay_ints ns
    show PyData.canLayAll0 (.int n :: dInts ns) = true
    simp [PyData.canLayAll0, PyData.canLay0, ih]
theorem depth_ints0 : ∀ ns : List Int, PyData.depthAll (dInts ns) = 0
  | [] => by
    show PyData.depthAll [] = 0
    simp [PyData.depthAll]
  | n :: ns => by
    have ih := depth_ints0 ns
    show PyData.depthAll (.int n :: dInts ns) = 0
    simp [PyData.depthAll, PyData.depth, ih]
theorem shaped_of {d : PyData} (h1 : d.canLay0 = true) (h2 : d.depth ≤ 64) : SeqAt.shaped d = true := by
  show (d.canLay0 && decide (d.depth ≤ 64)) = true
  rw [h1, decide_eq_true h2]
  rfl
theorem shaped_list (ns : List Int) : SeqAt.shaped (.list (dInts ns)) = true := by
  refine shaped_of (by simp only [PyData.canLay0]; exact lay_ints ns) ?_
  simp only [PyData.depth, depth_ints0]
  omega
theorem shaped_tup (ns : List Int) : SeqAt.shaped (.tuple (dInts ns)) = true := by
  refine shaped_of (by simp only [PyData.canLay0]; exact lay_ints ns) ?_
  simp only [PyData.depth, depth_ints0]
  omega
theorem rows_lay (f : Nat → List Int) : ∀ l : List Nat, PyData.canLayAll0 (l.map fun i => .tuple (dInts (f i))) = true ∧ PyData.depthAll (l.map fun i => .tuple (dInts (f i))) ≤ 1
  | [] => by
    rw [List.map_nil]
    simp [PyData.canLayAll0, PyData.depthAll]
  | i :: l => by
    obtain ⟨h1, h2⟩ := rows_lay f l
    rw [List.map_cons]
    refine ⟨by simp [PyData.canLayAll0, PyData.canLay0, lay_ints, h1], ?_⟩
    simp only [PyData.depthAll, PyData.depth, depth_ints0]
    omega
theorem shaped_dT (n : Nat) (b : Nat → Nat → Bool) : SeqAt.shaped (dT n b) = true := by
  obtain ⟨h1, h2⟩ := rows_lay (rowI n b) (List.range n)
  unfold dT
  refine shaped_of (by simp only [PyData.canLay0]; exact h1) ?_
  simp only [PyData.depth]
  omega
theorem dp_rows {K : PySem.W.Frag} {H : Hp} {n : Nat} {b : Nat → Nat → Bool} : ∀ (rs : List Addr) (k : Nat), (∀ (i : Nat) (r : Addr), rs[i]? = some r → H r = some (.tup (rowV n b (k + i)))) →
    DpAll K H (rs.map V.ref) ((List.range rs.length).map fun i => .tuple (dInts (rowI n b (k + i))))
  | [], k, h => .nil
  | r :: rs, k, h => by
    have ih := dp_rows (K := K) (H := H) (n := n) (b := b) rs (k + 1) fun i r hr => by
      have q := h (i + 1) r hr
      have e : k + (i + 1) = k + 1 + i := by omega
      rw [e] at q
      exact q
    rw [List.length_cons, List.range_succ_eq_map, List.map_cons, List.map_cons, List.map_map]
    have e : ((fun i => PyData.tuple (dInts (rowI n b (k + i)))) ∘ Nat.succ) = fun i => PyData.tuple (dInts (rowI n b (k + 1 + i))) := by
      funext i
      show PyData.tuple (dInts (rowI n b (k + (i + 1)))) = _
      have e : k + (i + 1) = k + 1 + i := by omega
      rw [e]
    rw [e]
    exact .cons (.tup (.inl (.inl (h 0 r rfl))) (dp_ints _)) ih
theorem Tour.dp {K : PySem.W.Frag} {H : Hp} {t : Addr} {n : Nat} {b : Nat → Nat → Bool} (T : Tour H t n b) : Dp K H (.ref t) (dT n b) := by
  obtain ⟨rs, h1, h2, h3⟩ := T
  have q := dp_rows (K := K) (H := H) (n := n) (b := b) rs 0 fun i r hr => by
    rw [Nat.zero_add]
    exact h3 i r hr
  rw [h2] at q
  have e : (fun i => PyData.tuple (dInts (rowI n b (0 + i)))) = fun i => PyData.tuple (dInts (rowI n b i)) := by
    funext i
    rw [Nat.zero_add]
  rw [e] at q
  exact .tup (.inl (.inl h1)) q
theorem eqv_ints : ∀ xs ys : List Int, PyData.eqvAll (dInts xs) (dInts ys) = decide (xs = ys)
  | [], [] => by
    show PyData.eqvAll [] [] = _
    simp [PyData.eqvAll]
  | [], y :: ys => by
    show PyData.eqvAll [] (.int y :: dInts ys) = _
    simp [PyData.eqvAll]
  | x :: xs, [] => by
    show PyData.eqvAll (.int x :: dInts xs) [] = _
    simp [PyData.eqvAll]
  | x :: xs, y :: ys => by
    have ih := eqv_ints xs ys
    show PyData.eqvAll (.int x :: dInts xs) (.int y :: dInts ys) = _
    rw [show PyData.eqvAll (.int x :: dInts xs) (.int y :: dInts ys) = (PyData.eqv (.int x) (.int y) && PyData.eqvAll (dInts xs) (dInts ys)) by simp only [PyData.eqvAll], ih]
    rw [show PyData.eqv (.int x) (.int y) = (x == y) by simp only [PyData.eqv]]
    by_cases h : x = y
    · subst h
      rw [beq_self_eq_true, Bool.true_and]
      by_cases h2 : xs = ys
      · rw [decide_eq_true h2, decide_eq_true (by rw [h2])]
      · rw [decide_eq_false h2, decide_eq_false (fun q => h2 (List.cons.inj q).2)]
    · rw [beq_eq_false_iff_ne.mpr h, Bool.false_and, decide_eq_false (fun q => h (List.cons.inj q).1)]
theorem eqv_lists (xs ys : List Int) : PyData.eqv (.list (dInts xs)) (.list (dInts ys)) = decide (xs = ys) := by
  rw [show PyData.eqv (.list (dInts xs)) (.list (dInts ys)) = PyData.eqvAll (dInts xs) (dInts ys) by simp only [PyData.eqv], eqv_ints]
theorem rgV_rng (n : Nat) : rgV 0 (n : Int) = (rng n).map V.int := by
  unfold rgV rng
  rw [List.map_map]
  have e : ((n : Int) - 0).toNat = n := by omega
  rw [e]
  refine List.map_congr_left fun i _ => ?_
  show V.int (0 + (i : Int)) = V.int (i : Int)
  rw [Int.zero_add]

/-- what both judges say -/
def Good (n : Nat) (b c : Nat → Nat → Bool) (u : Option (Option (Option (List V) × Option (List V)))) : Prop :=
  ∃ os ks : List Int, u = some (some (some (os.map V.int), some (ks.map V.int))) ∧ os.Perm (rng n) ∧ Asc n ks ∧ PyData.eqv (dT n (img n (img n b (fsw ks)) (fren os))) (dT n c) = true

theorem pure_all : ∀ {xs : List V}, (xs.map pureInt).all id = true ↔ ∃ os : List Int, xs = os.map V.int
  | [] => ⟨fun _ => ⟨[], rfl⟩, fun _ => rfl⟩
  | x :: xs => by
    have ih := pure_all (xs := xs)
    rw [List.map_cons, List.all_cons, Bool.and_eq_true, ih]
    constructor
    · rintro ⟨h, os, rfl⟩
      cases x with
      | int i => exact ⟨i :: os, rfl⟩
      | _ => cases h
    · rintro ⟨os, e⟩
      cases os with
      | nil => cases e
      | cons k os =>
        rw [List.map_cons] at e
        obtain ⟨rfl, rfl⟩ := List.cons.inj e
        exact ⟨rfl, os, rfl⟩

section
variable {P : Program} {w : World} {K : PySem.W.Frag} {mg : Str → Option Value} {base : Heap}
/-! ### are_players -/
theorem scPlayers : FnScope ["value", "many"] ["value", "many"] (defScope sPlayers) := ⟨rfl, rfl, rfl, by decide +kernel, rfl, by decide +kernel, by decide +kernel⟩
def spPlayers : Sp := fun vs H Q _ => ∃ (v : V) (n : Nat) (p : Option (List V)), vs = [v, .int n] ∧ ItemAt H v p ∧ ∀ (H' : Hp) (k : Bool), Same H H' → (k = true ↔ ∃ ks : List Int, p = some (ks.map V.int) ∧ Asc n ks) → Q (.bl k) H'
theorem ok_players {f fC : Addr} {fd fdC : FuncData} (F : Fun K "are_players" "are_players" sPlayers f fd) (T : Txt mg) (GC : FnOk P w K mg base CX0 2 fC fdC ["value", "many"] spClimb) (kC : PySem.W.keepIn K (.ref fC) = true) (bC : Binds K fdC ["value", "many"] []) (gC : mg "is_climbing" = some (.ref fC)) :
    FnOk P w K mg base CX0 3 f fd ["value", "many"] spPlayers := by
  refine F.ok scPlayers (fun vs H Q E h => ?_) (fun cdv A outer s0 H vs Q E hr h => ?_)
  · obtain ⟨v, n, p, rfl, _⟩ := h
    rfl
  · obtain ⟨v, n, p, rfl, hv, q⟩ := h
    refine ⟨_, pss_one (ps_ret (pe_and (pe_is K "tuple" T.isi T.tuple (pv 0)) (pe_one (pe_call GC hr (by rfl) gC kC bC .nil pass0 (pa_cons (pv 0) (pa_cons (pv 1) pa_nil)))))), ?_⟩
    refine ⟨v, rfl, _, _, _, rfl, hv.isi, _, rfl, ?_⟩
    cases p with
    | none =>
      refine iteF (q H false (Same.refl _) ⟨fun z => absurd z (by decide), ?_⟩)
      rintro ⟨ks, e, _⟩
      cases e
    | some xs =>
      obtain ⟨a, rfl, h2, h3, h4⟩ := hv
      refine iteT ⟨.ref a, rfl, .int n, rfl, a, xs, n, rfl, h2, h3, by omega, fun H' k s' hk => q H' k s' (hk.trans ?_)⟩
      constructor
      · rintro ⟨ks, e, h⟩
        exact ⟨ks, by rw [e], h⟩
      · rintro ⟨ks, e, h⟩
        exact ⟨ks, Option.some.inj e, h⟩
end
end RB

/-! RbAccept2: accepts_way. -/
namespace RB
open PySem PySem.Spec PySem.W PyProof.Rows L2
theorem perm_len {n : Nat} {os : List Int} (p : os.Perm (rng n)) : os.length = n := by rw [p.length_eq, rng_len]
section
variable {P : Program} {w : World} {K : PySem.W.Frag} {mg : Str → Option Value} {base : Heap}
theorem scAccept : FnScope ["tournament", "other", "value", "many", "order", "players", "one"] ["tournament", "other", "value"] (defScope sAccept) := ⟨rfl, rfl, rfl, by decide +kernel, rfl, by decide +kernel, by decide +kernel⟩
def spAccept : Sp := fun vs H Q _ => ∃ (t u : Addr) (v : V) (n : Nat) (b c : Nat → Nat → Bool) (x : Option (Option (Option (List V) × Option (List V)))), vs = [.ref t, .ref u, v] ∧ Tour H t n b ∧ IsT n b ∧ Tour H u n c ∧ IsT n c ∧ 1 ≤ n ∧ n ≤ 8 ∧ ValAt H v x ∧
  ∀ (H' : Hp) (k : Bool), Same H H' → (k = true ↔ Good n b c x) → Q (.bl k) H'
theorem ok_accept {f fK fI fP fS fR : Addr} {fd fdK fdI fdP fdS fdR : FuncData} (F : Fun K "accepts_way" "accepts_way" sAccept f fd) (T : Txt mg)
    (GK : FnOk P w K mg base CX0 4 fK fdK ["tournament"] spCheck) (kK : PySem.W.keepIn K (.ref fK) = true) (bK : Binds K fdK ["tournament"] []) (gK : mg "check_tournament" = some (.ref fK))
    (GI : FnOk P w K mg base CX0 3 fI fdI ["value"] spIsT) (kI : PySem.W.keepIn K (.ref fI) = true) (bI : Binds K fdI ["value"] []) (gI : mg "is_tournament" = some (.ref fI))
    (GP : FnOk P w K mg base CX0 3 fP fdP ["value", "many"] spPlayers) (kP : PySem.W.keepIn K (.ref fP) = true) (bP : Binds K fdP ["value", "many"] []) (gP : mg "are_players" = some (.ref fP))
    (GS : FnOk P w K mg base CX0 2 fS fdS ["tournament", "players"] spSw) (kS : PySem.W.keepIn K (.ref fS) = true) (bS : Binds K fdS ["tournament", "players"] []) (gS : mg "switched_by" = some (.ref fS))
    (GR : FnOk P w K mg base CX0 2 fR fdR ["tournament", "order"] spRen) (kR : PySem.W.keepIn K (.ref fR) = true) (bR : Binds K fdR ["tournament", "order"] []) (gR : mg "renamed_by" = some (.ref fR)) :
    FnOk P w K mg base CX0 5 f fd ["tournament", "other", "value"] spAccept := by
  refine F.ok scAccept (fun vs H Q E h => ?_) (fun cdv A outer s0 H vs Q E hr h => ?_)
  · obtain ⟨t, u, v, n, b, c, x, rfl, _⟩ := h
    rfl
  · obtain ⟨t, u, v, n, b, c, x, rfl, hT, iT, hU, iU, hn1, hn8, hv, q⟩ := h
    have hr3 : Room 3 _ := hr.mono (by decide)
    have hr2 : Room 2 _ := hr.mono (by decide)
    refine ⟨_, pss_cons (ps_expr (pe_call GK hr (by rfl) gK kK bK .nil pass0 (pa_cons (pv 0) pa_nil)))
      (pss_cons (ps_if (PW.pt (pw_or (pt_not (pt_val (pe_call GI hr3 (by rfl) gI kI bI .nil pass0 (pa_cons (pv 1) pa_nil)))) (pw_or1 (pt_cmpR op_ne (pe_callB (lenK K) (by rfl) T.len PySem.boot_len (pa_cons (pv 1) pa_nil)) (pe_callB (lenK K) (by rfl) T.len PySem.boot_len (pa_cons (pv 0) pa_nil)) (nomark _))))) pss_never pss_nil)
      (pss_cons (ps_set (i := 3) scAccept.nd rfl (.inl rfl) (pe_callB (lenK K) (by rfl) T.len PySem.boot_len (pa_cons (pv 0) pa_nil)))
      (pss_cons (ps_if (PW.pt (pw_or (pt_not (pt_val (pe_is K "tuple" T.isi T.tuple (pv 2)))) (pw_or (pt_cmpR op_ne (pe_callB (lenK K) (by rfl) T.len PySem.boot_len (pa_cons (pv 2) pa_nil)) pe_int (nomark _))
          (pw_or (pt_not (pt_val (pe_is K "tuple" T.isi T.tuple (pe_ix (ixT K) (pv 2) pe_int (fun _ _ => rfl))))) (pw_or1 (pt_cmpR op_ne (pe_callB (lenK K) (by rfl) T.len PySem.boot_len (pa_cons (pe_ix (ixT K) (pv 2) pe_int (fun _ _ => rfl)) pa_nil)) (pv 3) (nomark _))))))) (pss_one (ps_ret pe_bl)) pss_nil)
      (pss_cons (ps_asg (pv 2) (pg_tup rfl (pgs_cons (pg_name (i := 4) scAccept.nd rfl (.inl rfl)) (pgs_cons (pg_name (i := 5) scAccept.nd rfl (.inl rfl)) pgs_nil))))
      (pss_cons (ps_if (PW.pt (pw_or (pt_not (pt_val (pe_call GP hr3 (by rfl) gP kP bP .nil pass0 (pa_cons (pv 5) (pa_cons (pv 3) pa_nil))))) (pw_or1 (pt_not (pt_val (pe_callB (allK K) (by rfl) T.all (by decide +kernel) (pa_cons
          (pe_lc (own := [("one", 6)]) (g := gName 6) (tt := tYes) rfl scAccept.nd (pi_tup (pv 4)) (blkOk_by (N := ["tournament", "other", "value", "many", "order", "players", "one"]) (sc := defScope sAccept) (by decide +kernel)) (fun _ _ _ _ _ => pg_name (i := 6) scAccept.nd rfl (Or.inl rfl)) (fun _ _ _ _ _ => pts_nil)
            (fun _ _ _ _ _ => pe_and (pe_is K "int" T.isi T.int (pv 6)) (pe_one (pe_not (pe_is K "bool" T.isi T.bool (pv 6)))))) pa_nil))))))) (pss_one (ps_ret pe_bl)) pss_nil)
      (pss_cons (ps_if (pt_cmpR (op_neD hr.units) (pe_callB cr_sortedTp (by rfl) T.sorted (by decide +kernel) (pa_cons (pv 4) pa_nil)) (pe_listRg rfl (by rfl) T.list (prg_1 (by rfl) T.range (pv 3))) (nomark _)) (pss_one (ps_ret pe_bl)) pss_nil)
      (pss_one (ps_ret (pe_cmpR (op_eqD hr.units) (pe_call GR hr2 (by rfl) gR kR bR .nil pass0 (pa_cons (pe_call GS hr2 (by rfl) gS kS bS .nil pass0 (pa_cons (pv 0) (pa_cons (pv 5) pa_nil))) (pa_cons (pv 4) pa_nil))) (pv 1) (nomark _)))))))))), ?_⟩
    -- check_tournament(tournament)
    refine ⟨.ref t, rfl, t, n, b, rfl, hT, iT, hn1, hn8, fun H1 s1 => ?_⟩
    -- not is_tournament(other) or len(other) != len(tournament)
    refine ⟨.ref u, rfl, u, n, c, rfl, hU.same s1, iU, hn1, hn8, fun H2 s2 => ⟨true, rfl, iteF ?_⟩⟩
    have s12 := s1.trans s2
    have lenT : ∀ {H4 : Hp}, Same H H4 → ∀ {a : Addr} {b2 : Nat → Nat → Bool}, Tour H a n b2 → ∃ ys : List V, (SqL K H4 a ys ∨ SqT K H4 a ys) ∧ (ys.length : Int) = n := fun s4 a b2 hh => by
      obtain ⟨rs, g1, g2, _⟩ := hh.same s4
      exact ⟨_, .inr (.inl (.inl g1)), by rw [List.length_map, g2]⟩
    obtain ⟨ys, y1, y2⟩ := lenT s12 hU
    obtain ⟨zs, z1, z2⟩ := lenT s12 hT
    refine ⟨.ref u, rfl, u, ys, rfl, y1, .ref t, rfl, t, zs, rfl, z1, rfl, _, rfl, ?_⟩
    rw [y2, z2, decide_eq_true rfl]
    refine iteF ?_
    -- many = len(tournament)
    refine ⟨.ref t, rfl, t, zs, rfl, z1, ?_⟩
    rw [z2]
    have hv2 := hv.same s12
    have no : ∀ H4 : Hp, Same H H4 → ¬ Good n b c x → Q (.bl false) H4 := fun H4 s4 hg => q _ false s4 ⟨fun z => absurd z (by decide), fun z => absurd z hg⟩
    -- the value's form
    refine ⟨v, rfl, _, _, _, rfl, hv2.isi, _, rfl, ?_⟩
    match x, hv2, no with
    | none, hv2, no =>
      refine iteT (iteT (no _ s12 ?_))
      rintro ⟨os, ks, e, _⟩
      cases e
    | some none, hv2, no =>
      obtain ⟨a, xs, rfl, h2, h3⟩ := hv2
      refine iteF ⟨.ref a, rfl, a, xs, rfl, (Or.inr (Or.inl (Or.inl h2)) : SqL K H2 a _ ∨ SqT K H2 a _), rfl, _, rfl, ?_⟩
      rw [decide_eq_false (show ¬ V.int (xs.length : Int) = V.int 2 from fun z => h3 (by have := V.int.inj z; omega))]
      refine iteT (iteT (no _ s12 ?_))
      rintro ⟨os, ks, e, _⟩
      cases e
    | some (some (o, p)), hv2, no =>
      obtain ⟨a, x1, y1v, rfl, h2, ho, hp⟩ := hv2
      have ha : SqT K H2 a [x1, y1v] := .inl (.inl h2)
      refine iteF ⟨.ref a, rfl, a, _, rfl, .inr ha, rfl, _, rfl, ?_⟩
      refine iteF ⟨.ref a, rfl, a, _, 0, x1, rfl, rfl, ha, atI_nat (j := 0) rfl, _, _, _, rfl, ho.isi, _, rfl, ?_⟩
      match o, ho, no with
      | none, ho, no =>
        refine iteT (iteT (no _ s12 ?_))
        rintro ⟨os, ks, e, _⟩
        cases e
      | some os, ⟨ao, ex, ho2, ho3, ho4⟩, no =>
        subst ex
        have hao : SqT K H2 ao os := .inl (.inl ho2)
        refine iteF ⟨.ref a, rfl, a, _, 0, .ref ao, rfl, rfl, ha, atI_nat (j := 0) rfl, ao, os, rfl, .inr hao, .int n, rfl, rfl, _, rfl, ?_⟩
        by_cases hl : os.length = n
        · rw [hl, decide_eq_true rfl]
          refine iteF ?_
          -- order, players = value
          refine ⟨.ref a, rfl, a, _, rfl, ha, rfl, .ref ao, [y1v], rfl, y1v, [], rfl, rfl, ?_⟩
          -- are_players(players, many)
          refine ⟨y1v, rfl, .int n, rfl, y1v, n, p, rfl, hp, fun H3 k s3 hk => ⟨k, rfl, ?_⟩⟩
          cases k with
          | false =>
            refine iteT (iteT (no _ (s12.trans s3) ?_))
            rintro ⟨oi, ks, e, _, h5, _⟩
            have e2 : p = some (ks.map V.int) := (Prod.mk.inj (Option.some.inj (Option.some.inj e))).2
            exact absurd (hk.mpr ⟨ks, e2, h5⟩) (by decide)
          | true =>
            obtain ⟨ks, rfl, hasc⟩ := hk.mp rfl
            obtain ⟨ap, rfl, hp2, _, _⟩ := hp
            have s3b := s12.trans s3
            have hao3 : H3 ao = some (.tup os) := s3 _ _ ho2
            refine iteF ⟨.ref ao, rfl, ao, rfl, ⟨os, (Or.inl (Or.inl hao3) : SqT K H3 ao os)⟩, fun D hD => lc_tupM (fun z => V.bl (pureInt z)) (Or.inl (Or.inl hao3)) hD (by omega) (fun _ => rfl) (fun z hz H4 Qv s4 kk => ?_) fun H4 s4 eD => ?_⟩
            · have fz := ho3 z hz
              refine ⟨z, rfl, _, _, _, rfl, isi_int fz, _, rfl, ?_⟩
              have fin := kk H4 (Same.refl _)
              cases z with
              | non => exact iteF fin
              | bl bb => exact iteT ⟨_, rfl, _, _, _, rfl, isi_bool rfl, _, rfl, fin⟩
              | int i => exact iteT ⟨_, rfl, _, _, _, rfl, isi_bool rfl, _, rfl, fin⟩
              | _ => cases fz
            have s4b := s3b.trans s4
            have eD2 : H4 D = some (.lst ((os.map pureInt).map V.bl)) := by
              rw [eD, List.map_map]
              rfl
            refine ⟨D, _, rfl, (Or.inl (Or.inl eD2) : SqL K H4 D _), _, rfl, ?_⟩
            by_cases hall : (os.map pureInt).all id = true
            · rw [hall]
              obtain ⟨oi, rfl⟩ := pure_all.mp hall
              rw [List.length_map] at hl
              have hao4 : H4 ao = some (.tup (oi.map V.int)) := s4 _ _ hao3
              -- sorted(order) != list(range(many))
              refine iteF ⟨.ref ao, rfl, ao, oi, rfl, (Or.inl (Or.inl hao4) : SqT K H4 ao _), by omega, fun ns2 p5 perm5 srt5 hp5 => ?_⟩
              have s5 := s4b.trans (same_upd (o := .lst (ns2.map V.int)) hp5)
              refine ⟨.int n, rfl, n, rfl, ⟨by omega, by omega, by omega, by omega, by omega⟩, fun p6 hp6 => ?_⟩
              have s6 := s5.trans (same_upd (o := .lst (rgV 0 (n : Int))) hp6)
              have n56 : p5 ≠ p6 := fun z => by
                rw [← z, upd_same] at hp6
                cases hp6
              refine ⟨.list (dInts ns2), .list (dInts (rng n)), .lst (.inl (.inl ?_)) (dp_ints ns2), .lst (.inl (.inl ?_)) (dp_ints (rng n)), shaped_list _, shaped_list _, _, rfl, ?_⟩
              · exact Eq.trans (upd_ne n56) upd_same
              · rw [upd_same, rgV_rng]
              rw [eqv_lists]
              by_cases hs : ns2 = rng n
              · rw [decide_eq_true hs]
                have permO : oi.Perm (rng n) := (sorted_is perm5 srt5).mp hs
                refine iteF ?_
                refine ⟨.ref t, rfl, .ref ap, rfl, t, ap, n, b, ks, rfl, hT.same s6, hn8, ?_, fun H7 t1 s7 ht1 => ?_⟩
                · exact same_upd hp6 _ _ (same_upd hp5 _ _ (s4 _ _ (s3 _ _ hp2)))
                · have hao7 : H7 ao = some (.tup (oi.map V.int)) := s7 _ _ (same_upd hp6 _ _ (same_upd hp5 _ _ hao4))
                  refine ⟨.ref ao, rfl, t1, ao, n, _, oi, rfl, ht1, hn8, hao7, hl, fun H8 t2 s8 ht2 => ?_⟩
                  have s8b := (s6.trans s7).trans s8
                  refine ⟨.ref u, rfl, _, _, ht2.dp, (hU.same s8b).dp, shaped_dT _ _, shaped_dT _ _, q H8 _ s8b ?_⟩
                  constructor
                  · intro he
                    exact ⟨oi, ks, rfl, permO, hasc, he⟩
                  · rintro ⟨oj, kj, e, _, _, he⟩
                    have e2 := Prod.mk.inj (Option.some.inj (Option.some.inj e))
                    have e3 := map_int_inj (Option.some.inj e2.1)
                    have e4 := map_int_inj (Option.some.inj e2.2)
                    rw [e3, e4]
                    exact he
              · rw [decide_eq_false hs]
                refine iteT (no _ s6 ?_)
                rintro ⟨oj, kj, e, hp7, _⟩
                have e3 := map_int_inj (Option.some.inj (Prod.mk.inj (Option.some.inj (Option.some.inj e))).1)
                subst e3
                exact hs ((sorted_is perm5 srt5).mpr hp7)
            · have hf : (os.map pureInt).all id = false := by simpa using hall
              rw [hf]
              refine iteT (no _ s4b ?_)
              rintro ⟨oj, kj, e, _⟩
              have e3 := Option.some.inj (Prod.mk.inj (Option.some.inj (Option.some.inj e))).1
              exact hall (pure_all.mpr ⟨oj, e3⟩)
        · rw [decide_eq_false (show ¬ V.int (os.length : Int) = V.int (n : Int) from fun z => hl (by have := V.int.inj z; omega))]
          refine iteT (no _ s12 ?_)
          rintro ⟨oi, ks, e, h5, _⟩
          have e2 : os = oi.map V.int := Option.some.inj (Prod.mk.inj (Option.some.inj (Option.some.inj e))).1
          rw [e2, List.length_map] at hl
          exact hl (perm_len h5)
end
end RB

/-! RbStream: the law's stream of draws: _law_stream, _law_next; _law_is_integer, _law_equal. -/
namespace RB
open PySem PySem.Spec PySem.W PyProof.Rows L2

/-- at st stands a stream: its numbers (the list at l), what is left of a cell, the place -/
def StAt (H : Hp) (st l : Addr) : Prop := ∃ (ns : List Int) (c k : Int), H st = some (.lst [.ref l, .int c, .int k]) ∧ H l = some (.lst (ns.map V.int)) ∧ 0 ≤ k ∧ ns.length ≤ 63
/-- all but what stands at st is as it was -/
def Frm (st : Addr) (H H' : Hp) : Prop := ∀ a o, H a = some o → a ≠ st → H' a = some o
theorem Frm.of {st : Addr} {H H' : Hp} (s : Same H H') : Frm st H H' := fun a o e _ => s a o e
theorem Frm.refl (st : Addr) (H : Hp) : Frm st H H := fun a o e _ => e
theorem Frm.trans {st : Addr} {H H1 H2 : Hp} (a : Frm st H H1) (b : Frm st H1 H2) : Frm st H H2 := fun x o e n => b x o (a x o e n) n
theorem Frm.upd {st : Addr} {H : Hp} {o : HO} : Frm st H (upd H st o) := fun a x e n => by
  rw [upd_ne n]
  exact e
theorem StAt.ne {H : Hp} {st l a : Addr} {xs : List V} (S : StAt H st l) (h : H a = some (.tup xs)) : a ≠ st := by
  obtain ⟨ns, c, k, e, _⟩ := S
  exact ne_of h e (by intro z; cases z)
theorem Frm.tup {st l a : Addr} {H H' : Hp} {xs : List V} (f : Frm st H H') (S : StAt H st l) (h : H a = some (.tup xs)) : H' a = some (.tup xs) := f a _ h (S.ne h)
theorem Frm.tour {st l t : Addr} {H H' : Hp} {n : Nat} {b : Nat → Nat → Bool} (f : Frm st H H') (S : StAt H st l) (T : Tour H t n b) : Tour H' t n b := T.keep fun a xs e => f.tup S e
theorem StAt.same {H H' : Hp} {st l : Addr} (S : StAt H st l) (s : Same H H') : StAt H' st l := by
  obtain ⟨ns, c, k, e1, e2, h⟩ := S
  exact ⟨ns, c, k, s _ _ e1, s _ _ e2, h⟩
/-- what is new apart from a stream -/
theorem StAt.new {H : Hp} {st l a : Addr} (S : StAt H st l) (h : H a = none) : a ≠ st ∧ a ≠ l := by
  obtain ⟨ns, c, k, e1, e2, _⟩ := S
  exact ⟨(ne_of_none e1 h).symm, (ne_of_none e2 h).symm⟩
theorem StAt.upd {H : Hp} {st l a : Addr} {o : HO} (S : StAt H st l) (h : a ≠ st ∧ a ≠ l) : StAt (upd H a o) st l := by
  obtain ⟨ns, c, k, e1, e2, q⟩ := S
  exact ⟨ns, c, k, by rw [upd_ne h.1.symm]; exact e1, by rw [upd_ne h.2.symm]; exact e2, q⟩
/-- a store at what was new ahead -/
theorem Frm.put {st a : Addr} {H H1 : Hp} {o : HO} (f : Frm st H H1) (h : H a = none) : Frm st H (L2.upd H1 a o) := fun b x e n => by
  rw [upd_ne (ne_of_none e h)]
  exact f b x e n

section
variable {P : Program} {w : World} {K : PySem.W.Frag} {mg : Str → Option Value} {base : Heap}
/-! ### _law_stream -/
theorem scStream : FnScope ["_law_script"] ["_law_script"] (defScope sStream) := ⟨rfl, rfl, rfl, by decide +kernel, rfl, by decide +kernel, by decide +kernel⟩
def spStream (K : PySem.W.Frag) : Sp := fun vs H Q _ => ∃ (a : Addr) (ns : List Int), vs = [.ref a] ∧ SqL K H a (ns.map V.int) ∧ ns.length ≤ 63 ∧ ∀ (H' : Hp) (st l : Addr), Same H H' → H st = none → StAt H' st l → Q (.ref st) H'
theorem ok_stream {f : Addr} {fd : FuncData} (F : Fun K "_law_stream" "_law_stream" sStream f fd) (T : Txt mg) : FnOk P w K mg base CX0 1 f fd ["_law_script"] (spStream K) := by
  refine F.ok scStream (fun vs H Q E h => ?_) (fun cdv A outer s0 H vs Q E hr h => ?_)
  · obtain ⟨a, ns, rfl, _⟩ := h
    rfl
  · obtain ⟨a, ns, rfl, hS, hn, q⟩ := h
    refine ⟨_, pss_one (ps_ret (pe_lst (pa_cons (pe_callTy call_list_of (by rfl) T.list (by decide +kernel) (pa_cons (pv 0) pa_nil)) (pa_cons pe_int (pa_cons pe_int pa_nil))))), ?_⟩
    refine ⟨.ref a, rfl, a, ns.map V.int, rfl, .inl hS, fun l hl => ⟨by show 3 ≤ sizeLine; decide, fun st hst => ?_⟩⟩
    have s1 : Same H (upd H l (.lst (ns.map V.int))) := same_upd hl
    have nl : l ≠ st := fun z => by
      rw [← z, upd_same] at hst
      cases hst
    exact q _ st l (s1.trans (same_upd hst)) (s1.free hst) ⟨ns, 0, 0, upd_same, Eq.trans (upd_ne nl) upd_same, Int.le_refl _, hn⟩

/-! ### _law_next -/
theorem scNext : FnScope ["_law_stream_here", "_law_many", "_law_k", "_law_cell", "_law_digit"] ["_law_stream_here", "_law_many"] (defScope sNext) := ⟨rfl, rfl, rfl, by decide +kernel, rfl, by decide +kernel, by decide +kernel⟩
def spNext : Sp := fun vs H Q _ => ∃ (st l : Addr) (m : Int), vs = [.ref st, .int m] ∧ StAt H st l ∧ 0 < m ∧ m < 1073741824 ∧ ∀ (H' : Hp) (d : Nat), StAt H' st l → Frm st H H' → (d : Int) < m → Q (.int (d : Int)) H'
theorem ok_next {f : Addr} {fd : FuncData} (F : Fun K "_law_next" "_law_next" sNext f fd) (T : Txt mg) : FnOk P w K mg base CX0 1 f fd ["_law_stream_here", "_law_many"] spNext := by
  refine F.ok scNext (fun vs H Q E h => ?_) (fun cdv A outer s0 H vs Q E hr h => ?_)
  · obtain ⟨st, l, m, rfl, _⟩ := h
    rfl
  · obtain ⟨st, l, m, rfl, ⟨ns, c, k, e1, e2, hk, hn⟩, hm0, hm1, q⟩ := h
    refine ⟨_, C8.pss_cut (ps_if (pt_cmpR op_eq (pe_ix (ixL K) (pv 0) pe_int (fun _ _ => rfl)) pe_int (nomark _))
        (pss_cons (ps_set (i := 2) scNext.nd rfl (.inl rfl) (pe_ix (ixL K) (pv 0) pe_int (fun _ _ => rfl)))
        (pss_cons (ps_set (i := 3) scNext.nd rfl (.inl rfl) (pe_op op_add pe_int (pv 2)))
        (C8.pss_cut (ps_if (pt_cmpR op_lt (pv 2) (pe_callB (lenK K) (by rfl) T.len PySem.boot_len (pa_cons (pe_ix (ixL K) (pv 0) pe_int (fun _ _ => rfl)) pa_nil)) (nomark _))
          (pss_one (ps_set (i := 3) scNext.nd rfl (.inl rfl) (pe_callB call_abs (by rfl) T.abs (by decide +kernel) (pa_cons (pe_ix (ixL K) (pe_ix (ixL K) (pv 0) pe_int (fun _ _ => rfl)) (pv 2) (fun _ _ => rfl)) pa_nil)))) pss_nil)
        (C8.pss_cut (ps_if (pt_cmpR op_lt (pv 3) (pe_op op_pow pe_int pe_int) (nomark _))
          (pss_cons (ps_set (i := 3) scNext.nd rfl (.inl rfl) (pe_op op_mod (pe_callTy call_int1 (by rfl) T.int (by decide +kernel) (pa_cons (pe_op op_add (pe_op op_add (pe_op op_mul (pv 3) pe_int) (pe_op op_mul (pv 2) pe_int)) pe_int) pa_nil)) pe_int))
          (pss_one (ps_set (i := 3) scNext.nd rfl (.inl rfl) (pe_op op_add (pe_op op_mul (pe_op op_mod (pe_callTy call_int1 (by rfl) T.int (by decide +kernel) (pa_cons (pe_op op_add (pe_op op_mul (pv 3) pe_int) pe_int) pa_nil)) pe_int) pe_int) (pv 3))))) pss_nil)
        (pss_cons (ps_asg (pv 3) (pg_sub (pv 0) pe_int set_list))
        (pss_one (ps_asg (pe_op op_add (pv 2) pe_int) (pg_sub (pv 0) pe_int set_list)))))))) pss_nil)
      (pss_cons (ps_set (i := 4) scNext.nd rfl (.inl rfl) (pe_op op_mod (pe_callTy call_int1 (by rfl) T.int (by decide +kernel) (pa_cons (pe_ix (ixL K) (pv 0) pe_int (fun _ _ => rfl)) pa_nil)) (pv 1)))
      (pss_cons (ps_asg (pe_op op_fdiv (pe_ix (ixL K) (pv 0) pe_int (fun _ _ => rfl)) (pv 1)) (pg_sub (pv 0) pe_int set_list))
      (pss_one (ps_ret (pv 4))))), ?_⟩
    have nls : l ≠ st := ne_of e2 e1 (by
      intro z
      have z2 := HO.lst.inj z
      cases ns with
      | nil => cases z2
      | cons a r =>
        rw [List.map_cons] at z2
        cases (List.cons.inj z2).1)
    have hst : SqL K H st [.ref l, .int c, .int k] := .inl (.inl e1)
    have hl : SqL K H l (ns.map V.int) := .inl (.inl e2)
    refine ⟨fun σ H2 => Frm st H H2 ∧ ∃ y2 y3 c2 k2, σ = [some (.ref st), some (.int m), y2, y3, none] ∧ H2 st = some (.lst [.ref l, .int c2, .int k2]) ∧ 0 ≤ k2, ?_, fun σ H2 p => ?_⟩
    · refine ⟨.ref st, rfl, st, _, 1, _, rfl, rfl, hst, atI_nat (j := 1) rfl, rfl, _, rfl, ite2 (fun _ => ?_) (fun _ => ?_)⟩
      · -- a new cell
        refine ⟨.ref st, rfl, st, _, 2, _, rfl, rfl, hst, atI_nat (j := 2) rfl, ?_⟩
        refine ⟨.int k, rfl, 7, k, rfl, rfl, ?_⟩
        refine ⟨fun σ H2 => H2 = H ∧ ∃ z : Int, σ = [some (.ref st), some (.int m), some (.int k), some (.int z), none], ?_, fun σ H2 p => ?_⟩
        · refine ⟨.int k, rfl, .ref st, rfl, st, _, 0, _, rfl, rfl, hst, atI_nat (j := 0) rfl, l, _, rfl, .inl hl, k, _, rfl, rfl, _, rfl, ite2 (fun hlt => ?_) (fun _ => ⟨rfl, _, rfl⟩)⟩
          have hlt2 : k < (ns.length : Int) := by
            have z := of_decide_eq_true hlt
            rw [List.length_map] at z
            exact z
          have g : atI (ns.map V.int) k = some (V.int (ns.getD k.toNat 0)) := by
            refine at_of (j := k.toNat) (by omega) ?_
            rw [List.getElem?_map, List.getElem?_eq_getElem (by omega), List.getD_eq_getElem?_getD, List.getElem?_eq_getElem (by omega)]
            rfl
          exact ⟨.ref st, rfl, st, _, 0, _, rfl, rfl, hst, atI_nat (j := 0) rfl, .int k, rfl, l, _, k, _, rfl, rfl, hl, g, _, rfl, rfl, _, rfl⟩
        · obtain ⟨rfl, z, rfl⟩ := p
          refine ⟨fun σ H3 => H3 = H2 ∧ ∃ z : Int, σ = [some (.ref st), some (.int m), some (.int k), some (.int z), none], ?_, fun σ H3 p => ?_⟩
          · refine ⟨.int z, rfl, 10, 18, rfl, rfl, ⟨by decide, by decide, by decide⟩, z, _, rfl, rfl, _, rfl, ite2 (fun _ => ?_) (fun _ => ⟨rfl, _, rfl⟩)⟩
            refine ⟨.int z, rfl, z, 48271, rfl, rfl, .inr ⟨by decide, by decide⟩, .int k, rfl, k, 69621, rfl, rfl, .inr ⟨by decide, by decide⟩, _, _, rfl, rfl, _, 11, rfl, rfl, .inl ⟨_, rfl, ?_⟩⟩
            refine ⟨_, 2147483647, rfl, rfl, (show (0 : Int) < 2147483647 by decide), ?_⟩
            refine ⟨_, rfl, _, 16807, rfl, rfl, .inr ⟨by decide, by decide⟩, _, 13, rfl, rfl, .inl ⟨_, rfl, ?_⟩⟩
            refine ⟨_, 2147483647, rfl, rfl, (show (0 : Int) < 2147483647 by decide), _, 65537, rfl, rfl, .inr ⟨by decide, by decide⟩, _, rfl, _, _, rfl, rfl, rfl, _, rfl⟩
          · obtain ⟨rfl, z2, rfl⟩ := p
            refine ⟨.int z2, rfl, .ref st, rfl, st, _, 1, 1, rfl, rfl, e1, rfl, ?_⟩
            refine ⟨.int k, rfl, k, 1, rfl, rfl, .ref st, rfl, st, _, 2, 2, rfl, rfl, upd_same, rfl, ?_⟩
            exact ⟨Frm.upd.trans Frm.upd, _, _, z2, k + 1, rfl, upd_same, by omega⟩
      · exact ⟨Frm.refl st H, _, _, c, k, rfl, e1, hk⟩
    · obtain ⟨f2, y2, y3, c2, k2, rfl, g1, hk2⟩ := p
      have hs2 : SqL K H2 st [.ref l, .int c2, .int k2] := .inl (.inl g1)
      refine ⟨.ref st, rfl, st, _, 1, _, rfl, rfl, hs2, atI_nat (j := 1) rfl, .inl ⟨c2, rfl, .int m, rfl, c2, m, rfl, rfl, hm0, ?_⟩⟩
      refine ⟨.ref st, rfl, st, _, 1, _, rfl, rfl, hs2, atI_nat (j := 1) rfl, .int m, rfl, c2, m, rfl, rfl, ⟨hm0, hm1⟩, .ref st, rfl, st, _, 1, 1, rfl, rfl, g1, rfl, ?_⟩
      have hd0 := Int.emod_nonneg c2 (show m ≠ 0 by omega)
      have hd1 := Int.emod_lt_of_pos c2 hm0
      have ed : c2 % m = (((c2 % m).toNat : Nat) : Int) := by omega
      refine ⟨_, rfl, ?_⟩
      show Q (.int (c2 % m)) (upd H2 st (.lst [.ref l, .int (c2 / m), .int k2]))
      rw [ed]
      refine q _ _ ⟨ns, c2 / m, k2, upd_same, ?_, hk2, hn⟩ (f2.trans Frm.upd) (by omega)
      rw [upd_ne nls]
      exact f2 _ _ e2 nls

/-! ### _law_is_integer, _law_equal -/
theorem scIsInt : FnScope ["_law_actual"] ["_law_actual"] (defScope sIsInt) := ⟨rfl, rfl, rfl, by decide +kernel, rfl, by decide +kernel, by decide +kernel⟩
def spIsInt : Sp := fun vs H Q _ => ∃ x : V, vs = [x] ∧ flat3 x = true ∧ Q (.bl (pureInt x)) H
theorem ok_isInt {f : Addr} {fd : FuncData} (F : Fun K "_law_is_integer" "_law_is_integer" sIsInt f fd) (T : Txt mg) : FnOk P w K mg base CX0 1 f fd ["_law_actual"] spIsInt := by
  refine F.ok scIsInt (fun vs H Q E h => ?_) (fun cdv A outer s0 H vs Q E hr h => ?_)
  · obtain ⟨x, rfl, _⟩ := h
    rfl
  · obtain ⟨x, rfl, hx, q⟩ := h
    refine ⟨_, pss_one (ps_ret (pe_and (pe_is K "int" T.isi T.int (pv 0)) (pe_one (pe_not (pe_is K "bool" T.isi T.bool (pv 0)))))), ?_⟩
    refine ⟨x, rfl, _, _, _, rfl, isi_int hx, _, rfl, ?_⟩
    cases x with
    | non => exact iteF q
    | bl bb => exact iteT ⟨_, rfl, _, _, _, rfl, isi_bool rfl, _, rfl, q⟩
    | int i => exact iteT ⟨_, rfl, _, _, _, rfl, isi_bool rfl, _, rfl, q⟩
    | _ => cases hx
theorem scEqual : FnScope ["_law_actual", "_law_due"] ["_law_actual", "_law_due"] (defScope sEqual) := ⟨rfl, rfl, rfl, by decide +kernel, rfl, by decide +kernel, by decide +kernel⟩
def spEqual : Sp := fun vs H Q _ => ∃ a d : Bool, vs = [.bl a, .bl d] ∧ Q (.bl (decide (V.bl a = V.bl d))) H
theorem ok_equal {f : Addr} {fd : FuncData} (F : Fun K "_law_equal" "_law_equal" sEqual f fd) (T : Txt mg) : FnOk P w K mg base CX0 1 f fd ["_law_actual", "_law_due"] spEqual := by
  refine F.ok scEqual (fun vs H Q E h => ?_) (fun cdv A outer s0 H vs Q E hr h => ?_)
  · obtain ⟨a, d, rfl, _⟩ := h
    rfl
  · obtain ⟨a, d, rfl, q⟩ := h
    refine ⟨_, pss_cons (ps_if (pt_cmpR op_isN (pv 1) pe_non (nomark _)) pss_never pss_nil)
      (pss_cons (ps_if (pt_val (pe_is K "bool" T.isi T.bool (pv 1))) (pss_one (ps_ret (pe_and (pe_is K "bool" T.isi T.bool (pv 0)) (pe_one (pe_cmpR op_eq (pv 0) (pv 1) (nomark _)))))) pss_nil) pss_never), ?_⟩
    refine ⟨.bl d, rfl, rfl, _, rfl, iteF ?_⟩
    refine ⟨.bl d, rfl, _, _, _, rfl, isi_bool rfl, _, rfl, iteT ?_⟩
    refine ⟨.bl a, rfl, _, _, _, rfl, isi_bool rfl, _, rfl, iteT ?_⟩
    exact ⟨.bl a, rfl, .bl d, rfl, rfl, q⟩
end
end RB

/-! RbDraw: drawn tournaments: _law_signed, _law_tournament_of, _law_any, _law_tournament. -/
namespace RB
open PySem PySem.Spec PySem.W PyProof.Rows L2

theorem seqIx {n d : Nat} (h : d < n) : seqIndex? (d : Int) n = some d := by
  refine (ixN_seq ?_).1
  unfold ixN
  rw [if_pos (by omega), if_pos (by omega), Int.toNat_natCast]
/-- at f stands the list of the signed players ps -/
def SigAt (H : Hp) (f : Addr) (ps : List (Nat × Bool)) : Prop := ∃ ts : List Addr, H f = some (.lst (ts.map V.ref)) ∧ ts.length = ps.length ∧ ∀ (i : Nat) (t : Addr) (x : Nat × Bool), ts[i]? = some t → ps[i]? = some x → H t = some (.tup [.int (x.1 : Int), .bl x.2])
def natV (l : List Nat) : List V := l.map fun j : Nat => V.int (j : Int)
theorem natV_rng (n : Nat) : rgV 0 (n : Int) = natV (List.range n) := by
  rw [rgV_rng]
  unfold rng natV
  rw [List.map_map]
  rfl
theorem natV_at {l : List Nat} {i j : Nat} (h : l[i]? = some j) : (natV l)[i]? = some (V.int (j : Int)) := by
  unfold natV
  rw [List.getElem?_map, h]
  rfl
theorem natV_erase : ∀ (l : List Nat) (i : Nat), (natV l).eraseIdx i = natV (l.eraseIdx i)
  | [], _ => rfl
  | _ :: _, 0 => rfl
  | a :: l, i + 1 => by
    show V.int (a : Int) :: (natV l).eraseIdx i = V.int (a : Int) :: natV (l.eraseIdx i)
    rw [natV_erase l i]

section
variable {P : Program} {w : World} {K : PySem.W.Frag} {mg : Str → Option Value} {base : Heap}
/-! ### _law_signed -/
theorem scSigned : FnScope ["_law_stream_here", "_law_many", "_law_left", "_law_found", "_law_turn"] ["_law_stream_here", "_law_many"] (defScope sSigned) := ⟨rfl, rfl, rfl, by decide +kernel, rfl, by decide +kernel, by decide +kernel⟩
def spSigned : Sp := fun vs H Q _ => ∃ (st l : Addr) (n : Nat), vs = [.ref st, .int n] ∧ StAt H st l ∧ n ≤ 8 ∧
  ∀ (H' : Hp) (f : Addr) (ps : List (Nat × Bool)), StAt H' st l → Frm st H H' → SigAt H' f ps → (ps.map (·.1)).Perm (List.range n) → Q (.ref f) H'
theorem ok_signed {f fN : Addr} {fd fdN : FuncData} (F : Fun K "_law_signed" "_law_signed" sSigned f fd) (T : Txt mg) (GN : FnOk P w K mg base CX0 1 fN fdN ["_law_stream_here", "_law_many"] spNext) (kN : PySem.W.keepIn K (.ref fN) = true) (bN : Binds K fdN ["_law_stream_here", "_law_many"] []) (gN : mg "_law_next" = some (.ref fN)) :
    FnOk P w K mg base CX0 2 f fd ["_law_stream_here", "_law_many"] spSigned := by
  refine F.ok scSigned (fun vs H Q E h => ?_) (fun cdv A outer s0 H vs Q E hr h => ?_)
  · obtain ⟨st, l, n, rfl, _⟩ := h
    rfl
  · obtain ⟨st, l, n, rfl, S, hn, q⟩ := h
    refine ⟨_, pss_cons (ps_set (i := 2) scSigned.nd rfl (.inl rfl) (pe_listRg rfl (by rfl) T.list (prg_1 (by rfl) T.range (pv 1))))
      (pss_cons (ps_set (i := 3) scSigned.nd rfl (.inl rfl) (pe_lst pa_nil))
      (pss_cons (ps_for PassesOwn.never rfl (pi_range1 (by rfl) T.range (pa_cons (pv 1) pa_nil)) (pg_name (i := 4) scSigned.nd rfl (.inl rfl))
        (pss_one (ps_expr (pe_bm PySem.F.plainAttrs_list PySem.F.slot_list_append PySem.F.type_list_append mt_append (pv 3) (pa_cons (pe_tup
          (pa_cons (pe_bm PySem.F.plainAttrs_list PySem.F.slot_list_pop PySem.F.type_list_pop mt_popAt (pv 2) (pa_cons (pe_call GN hr (by rfl) gN kN bN .nil pass0 (pa_cons (pv 0) (pa_cons (pe_callB (lenK K) (by rfl) T.len PySem.boot_len (pa_cons (pv 2) pa_nil)) pa_nil))) pa_nil))
          (pa_cons (pe_cmpR op_eq (pe_call GN hr (by rfl) gN kN bN .nil pass0 (pa_cons (pv 0) (pa_cons pe_int pa_nil))) pe_int (nomark _)) pa_nil))) pa_nil)))))
      (pss_one (ps_ret (pv 3))))), ?_⟩
    refine ⟨.int n, rfl, n, rfl, ⟨by omega, by omega, by omega, by omega, by omega⟩, fun la hla => ?_⟩
    rw [natV_rng]
    refine ⟨Nat.zero_le _, fun fa hfa => ?_⟩
    have s1 : Same H (upd H la (.lst (natV (List.range n)))) := same_upd hla
    have nfl : fa ≠ la := fun z => by
      rw [z, upd_same] at hfa
      cases hfa
    have hfa0 : H fa = none := s1.free hfa
    obtain ⟨nl1, nl2⟩ := S.new hla
    obtain ⟨nf1, nf2⟩ := S.new hfa0
    refine ⟨.int n, rfl, n, rfl, by omega, by omega, ?_⟩
    rw [Int.toNat_natCast]
    refine for_range (lo := 0) (n := n) (fun i σ H2 => StAt H2 st l ∧ Frm st H H2 ∧ (∃ (lf : List Nat) (ps : List (Nat × Bool)), H2 la = some (.lst (natV lf)) ∧ SigAt H2 fa ps ∧ ps.length = i ∧ (ps.map (·.1) ++ lf).Perm (List.range n)) ∧ ∃ y4, σ = [some (.ref st), some (.int n), some (.ref la), some (.ref fa), y4])
      ⟨(S.upd ⟨nl1, nl2⟩).upd ⟨nf1, nf2⟩, Frm.of (s1.trans (same_upd hfa)), ⟨List.range n, [], Eq.trans (upd_ne nfl.symm) upd_same, ⟨[], upd_same, rfl, fun i t x z => by simp at z⟩, rfl, List.Perm.refl _⟩, none, rfl⟩ (fun i σ H2 hi p => ?_) (fun σ H2 p => ?_)
    · obtain ⟨S2, f2, ⟨lf, ps, eL, ⟨ts, eF, tl, tt⟩, pl, pp⟩, y4, rfl⟩ := p
      have hlen : lf.length = n - i := by
        have z := pp.length_eq
        rw [List.length_append, List.length_map, List.length_range, pl] at z
        omega
      have lenL : ((natV lf).length : Int) = (lf.length : Int) := by unfold natV; rw [List.length_map]
      refine ⟨.ref fa, rfl, .inl ⟨rfl, _, SqL.of eF⟩, ?_⟩
      refine ⟨.ref la, rfl, .inl ⟨rfl, _, SqL.of eL⟩, .ref st, rfl, .ref la, rfl, la, _, rfl, .inl (SqL.of eL), st, l, _, rfl, S2, ?_, ?_, fun H3 d S3 f3 hd => ?_⟩
      · rw [lenL]
        omega
      · rw [lenL]
        omega
      rw [lenL] at hd
      have hd2 : d < lf.length := by omega
      have eL3 : H3 la = some (.lst (natV lf)) := f3 _ _ eL nl1
      have eF3 : H3 fa = some (.lst (ts.map V.ref)) := f3 _ _ eF nf1
      refine ⟨la, natV lf, (d : Int), d, .int (lf[d] : Int), rfl, rfl, eL3, by omega, by omega, seqIx (by unfold natV; rw [List.length_map]; exact hd2), natV_at (List.getElem?_eq_getElem hd2), ?_⟩
      rw [natV_erase]
      have S4 : StAt (upd H3 la (.lst (natV (lf.eraseIdx d)))) st l := S3.upd ⟨nl1, nl2⟩
      refine ⟨.ref st, rfl, st, l, 2, rfl, S4, by decide, by decide, fun H5 d2 S5 f5 hd2b => ⟨rfl, ?_⟩⟩
      refine ⟨by show 2 ≤ sizeLine; decide, fun tp htp => ?_⟩
      have eF5 : H5 fa = some (.lst (ts.map V.ref)) := f5 _ _ (Eq.trans (upd_ne nfl) eF3) nf1
      have eL5 : H5 la = some (.lst (natV (lf.eraseIdx d))) := f5 _ _ upd_same nl1
      have nft : fa ≠ tp := ne_of_none eF5 htp
      have nlt : la ≠ tp := ne_of_none eL5 htp
      have eF6 : (upd H5 tp (.tup [.int (lf[d] : Int), .bl (decide (V.int (d2 : Int) = V.int 1))])) fa = some (.lst (ts.map V.ref)) := Eq.trans (upd_ne nft) eF5
      refine ⟨fa, _, _, rfl, rfl, eF6, ?_, ?_⟩
      · rw [List.length_map, tl, pl]
        exact small_of (by omega)
      -- the turn's end
      have fAll : Frm st H H5 := fun a o e n0 => f5 _ _ (by rw [upd_ne (ne_of_none e hla)]; exact f3 _ _ (f2 _ _ e n0) n0) n0
      have htp0 : tp ≠ st ∧ tp ≠ l := S5.new htp
      refine ⟨(S5.upd htp0).upd ⟨nf1, nf2⟩, fun a o e n0 => ?_, ⟨lf.eraseIdx d, ps ++ [(lf[d], decide (V.int (d2 : Int) = V.int 1))], ?_, ⟨ts ++ [tp], ?_, ?_, fun j t x ht hx => ?_⟩, ?_, ?_⟩, _, rfl⟩
      · rw [upd_ne (ne_of_none e hfa0), upd_ne (ne_of_none (fAll a o e n0) htp)]
        exact fAll a o e n0
      · rw [upd_ne nfl.symm, upd_ne nlt]
        exact eL5
      · rw [upd_same, refs_snoc]
      · rw [List.length_append, List.length_append, tl]
        rfl
      · have keepT : ∀ t2 : Addr, ∀ xs2 : List V, H2 t2 = some (.tup xs2) → (upd (upd H5 tp (.tup [.int (lf[d] : Int), .bl (decide (V.int (d2 : Int) = V.int 1))])) fa (.lst (ts.map V.ref ++ [V.ref tp]))) t2 = some (.tup xs2) := fun t2 xs2 e => by
          have e3 : H3 t2 = some (.tup xs2) := f3.tup S2 e
          have n1 : t2 ≠ la := ne_of e3 eL3 (by intro z; cases z)
          have e5 : H5 t2 = some (.tup xs2) := f5.tup S4 (Eq.trans (upd_ne n1) e3)
          have n2 : t2 ≠ fa := ne_of e5 eF5 (by intro z; cases z)
          rw [upd_ne n2, upd_ne (ne_of_none e5 htp)]
          exact e5
        rcases snoc_at ht with h5 | ⟨h5, rfl⟩
        · have hj : j < ps.length := by
            rw [← tl]
            exact (List.getElem?_eq_some_iff.mp h5).1
          rw [List.getElem?_append_left hj] at hx
          exact keepT _ _ (tt j t x h5 hx)
        · rw [h5, tl] at hx
          rw [List.getElem?_append_right (Nat.le_refl _), Nat.sub_self] at hx
          have ex := (Option.some.inj hx).symm
          subst ex
          rw [upd_ne nft.symm, upd_same]
      · rw [List.length_append, pl]
        rfl
      · rw [List.map_append, List.append_assoc]
        refine List.Perm.trans ?_ pp
        refine List.Perm.append_left _ ?_
        exact (perm_erase (List.getElem?_eq_getElem hd2)).symm
    · obtain ⟨S2, f2, ⟨lf, ps, eL, sg, pl, pp⟩, y4, rfl⟩ := p
      have hlen : lf = [] := by
        have z := pp.length_eq
        rw [List.length_append, List.length_map, List.length_range, pl] at z
        exact List.eq_nil_of_length_eq_zero (by omega)
      rw [hlen, List.append_nil] at pp
      exact ⟨.ref fa, rfl, q H2 fa ps S2 f2 sg pp⟩
end
end RB

/-! RbDraw2: _law_tournament_of. -/
namespace RB
open PySem PySem.Spec PySem.W PyProof.Rows L2

/-- the pair that two entries make -/
def fsig (x y : Nat × Bool) : Int × Int := if x.2 = y.2 then ((x.1 : Int), (y.1 : Int)) else ((y.1 : Int), (x.1 : Int))
/-- the pairs of entries up to the m-th below the c-th -/
def UptoS (ps : List (Nat × Bool)) (c m : Nat) (i j : Int) : Prop := ∃ (a c2 : Nat) (x y : Nat × Bool), a < c2 ∧ (c2 < c ∨ (c2 = c ∧ a < m)) ∧ ps[a]? = some x ∧ ps[c2]? = some y ∧ fsig x y = (i, j)
def DoneS (ps : List (Nat × Bool)) (c m : Nat) (kvs : List (List L2.Key × V)) : Prop := Filled kvs (UptoS ps c m) ∧ kvs.length ≤ c * ps.length + m
theorem DoneS.start (ps : List (Nat × Bool)) : DoneS ps 0 0 [] := by
  refine ⟨Filled.nil.congr fun i j => ⟨fun h => h.elim, ?_⟩, Nat.zero_le _⟩
  rintro ⟨a, c, x, y, h1, h2, _⟩
  omega
theorem DoneS.step {ps : List (Nat × Bool)} {c m : Nat} {kvs : List (List L2.Key × V)} {x y : Nat × Bool} (h : DoneS ps c m kvs) (hm : m < c) (hx : ps[m]? = some x) (hy : ps[c]? = some y) (v : V) : DoneS ps c (m + 1) (putK kvs (pk (fsig x y).1 (fsig x y).2) v) := by
  refine ⟨(h.1.put _ _ v).congr fun i j => ?_, by have := length_putK kvs (pk (fsig x y).1 (fsig x y).2) v; have := h.2; omega⟩
  constructor
  · rintro (⟨a, c2, x2, y2, h1, h2, h3, h4, h5⟩ | ⟨e1, e2⟩)
    · exact ⟨a, c2, x2, y2, h1, by omega, h3, h4, h5⟩
    · exact ⟨m, c, x, y, hm, by omega, hx, hy, by rw [e1, e2]⟩
  · rintro ⟨a, c2, x2, y2, h1, h2, h3, h4, h5⟩
    by_cases e : c2 = c ∧ a = m
    · obtain ⟨rfl, rfl⟩ := e
      rw [hx] at h3
      rw [hy] at h4
      cases Option.some.inj h3
      cases Option.some.inj h4
      refine .inr ?_
      rw [h5]
      exact ⟨rfl, rfl⟩
    · exact .inl ⟨a, c2, x2, y2, h1, by omega, h3, h4, h5⟩
theorem DoneS.next {ps : List (Nat × Bool)} {c : Nat} {kvs : List (List L2.Key × V)} (h : DoneS ps c c kvs) (hc : c < ps.length) : DoneS ps (c + 1) 0 kvs := by
  refine ⟨h.1.congr fun i j => ?_, ?_⟩
  · constructor
    · rintro ⟨a, c2, x2, y2, h1, h2, h3⟩
      exact ⟨a, c2, x2, y2, h1, by omega, h3⟩
    · rintro ⟨a, c2, x2, y2, h1, h2, h3⟩
      exact ⟨a, c2, x2, y2, h1, by omega, h3⟩
  · have := h.2
    rw [Nat.succ_mul]
    omega
open Classical in
theorem DoneS.fin {ps : List (Nat × Bool)} {kvs : List (List L2.Key × V)} (h : DoneS ps ps.length 0 kvs) (i j : Nat) : has kvs i j = tof ps i j := by
  have q := h.1 (i : Int) (j : Int)
  have e : UptoS ps ps.length 0 (i : Int) (j : Int) ↔ tofP ps i j := by
    constructor
    · rintro ⟨a, c, x, y, h1, h2, h3, h4, h5⟩
      refine ⟨a, c, x, y, h1, h3, h4, ?_⟩
      unfold fsig at h5
      by_cases hb : x.2 = y.2
      · rw [if_pos hb] at h5 ⊢
        have e1 := congrArg Prod.fst h5
        have e2 := congrArg Prod.snd h5
        simp only at e1 e2
        omega
      · rw [if_neg hb] at h5 ⊢
        have e1 := congrArg Prod.fst h5
        have e2 := congrArg Prod.snd h5
        simp only at e1 e2
        omega
    · rintro ⟨a, c, x, y, h1, h3, h4, h5⟩
      have hc := (List.getElem?_eq_some_iff.mp h4).1
      refine ⟨a, c, x, y, h1, .inl hc, h3, h4, ?_⟩
      unfold fsig
      by_cases hb : x.2 = y.2
      · rw [if_pos hb] at h5 ⊢
        rw [h5.1, h5.2]
      · rw [if_neg hb] at h5 ⊢
        rw [h5.1, h5.2]
  rw [e] at q
  unfold has tof
  cases hh : (valV kvs (pk (i : Int) (j : Int))).isSome with
  | true => exact (decide_eq_true (q.mp hh)).symm
  | false =>
    refine (decide_eq_false fun z => ?_).symm
    rw [q.mpr z] at hh
    cases hh
theorem DoneS.small {ps : List (Nat × Bool)} {c m : Nat} {kvs : List (List L2.Key × V)} (h : DoneS ps c m kvs) (hn : ps.length ≤ 8) (hc : c < ps.length) (hm : m < c) : kvs.length < sizeLine := by
  have h1 := h.2
  have h4 : c * ps.length ≤ 8 * 8 := Nat.mul_le_mul (by omega) hn
  exact small_of (by omega)
theorem cut_to {xs : List V} {c : Nat} (h : c ≤ xs.length) : cutV xs none (some (c : Int)) = xs.take c := by
  unfold cutV
  rw [HT.sIx_none, HT.sIx_nat, Nat.min_eq_left h, Nat.sub_zero, List.drop_zero]

section
variable {P : Program} {w : World} {K : PySem.W.Frag} {mg : Str → Option Value} {base : Heap}
theorem scTof : FnScope ["_law_order_here", "_law_beats", "_law_at", "_law_one", "_law_alike", "_law_pair"] ["_law_order_here"] (defScope sTof) := ⟨rfl, rfl, rfl, by decide +kernel, rfl, by decide +kernel, by decide +kernel⟩
def spTof : Sp := fun vs H Q _ => ∃ (f : Addr) (ps : List (Nat × Bool)), vs = [.ref f] ∧ SigAt H f ps ∧ ps.length ≤ 8 ∧ ∀ (H' : Hp) (t : Addr), Same H H' → Tour H' t ps.length (tof ps) → Q (.ref t) H'
theorem ok_tof {f fB : Addr} {fd fdB : FuncData} (F : Fun K "_law_tournament_of" "_law_tournament_of" sTof f fd) (T : Txt mg) (GB : FnOk P w K mg base CX0 1 fB fdB ["_law_beats", "_law_many"] spBy) (kB : PySem.W.keepIn K (.ref fB) = true) (bB : Binds K fdB ["_law_beats", "_law_many"] []) (gB : mg "_law_by" = some (.ref fB)) :
    FnOk P w K mg base CX0 2 f fd ["_law_order_here"] spTof := by
  refine F.ok scTof (fun vs H Q E h => ?_) (fun cdv A outer s0 H vs Q E hr h => ?_)
  · obtain ⟨fo, ps, rfl, _⟩ := h
    rfl
  · obtain ⟨fo, ps, rfl, ⟨ts, eF, tl, tt⟩, hn, q⟩ := h
    refine ⟨_, pss_cons (ps_set (i := 1) scTof.nd rfl (.inl rfl) pe_dnewT)
      (pss_cons (ps_for PassesOwn.never rfl (pi_range1 (by rfl) T.range (pa_cons (pe_callB (lenK K) (by rfl) T.len PySem.boot_len (pa_cons (pv 0) pa_nil)) pa_nil)) (pg_name (i := 2) scTof.nd rfl (.inl rfl))
        (pss_one (ps_for PassesOwn.never rfl (pi_list (pe_slice sl_list (pv 0) po_none (po_some (pv 2)))) (pg_tup rfl (pgs_cons (pg_name (i := 3) scTof.nd rfl (.inl rfl)) (pgs_cons (pg_name (i := 4) scTof.nd rfl (.inl rfl)) pgs_nil)))
          (pss_cons (ps_set (i := 5) scTof.nd rfl (.inl rfl) (pe_tup (pa_cons (pv 3) (pa_cons (pe_ix (ixT K) (pe_ix (ixL K) (pv 0) (pv 2) (fun _ _ => rfl)) pe_int (fun _ _ => rfl)) pa_nil))))
          (pss_cons (ps_if (pt_cmpR op_ne (pv 4) (pe_ix (ixT K) (pe_ix (ixL K) (pv 0) (pv 2) (fun _ _ => rfl)) pe_int (fun _ _ => rfl)) (nomark _)) (pss_one (ps_set (i := 5) scTof.nd rfl (.inl rfl) (pe_revT (pv 5)))) pss_nil)
          (pss_one (ps_dput (hu_of hr) (pv 1) (pv 5) pe_bl rfl)))))))
      (pss_one (ps_ret (pe_call GB hr (by rfl) gB kB bB .nil pass0 (pa_cons (pv 1) (pa_cons (pe_callB (lenK K) (by rfl) T.len PySem.boot_len (pa_cons (pv 0) pa_nil)) pa_nil)))))), ?_⟩
    intro d hd
    have s1 : Same H (upd H d (.dT [])) := same_upd hd
    have lenF : ((ts.map V.ref).length : Int) = (ps.length : Int) := by rw [List.length_map, tl]
    have tupAt : ∀ j, j < ps.length → ∃ t x, ts[j]? = some t ∧ ps[j]? = some x ∧ (ts.map V.ref)[j]? = some (V.ref t) ∧ H t = some (.tup [.int (x.1 : Int), .bl x.2]) := fun j hj => by
      have hj2 : j < ts.length := by omega
      refine ⟨ts[j], ps[j], List.getElem?_eq_getElem hj2, List.getElem?_eq_getElem hj, ?_, tt j _ _ (List.getElem?_eq_getElem hj2) (List.getElem?_eq_getElem hj)⟩
      rw [List.getElem?_map, List.getElem?_eq_getElem hj2]
      rfl
    refine ⟨.ref fo, rfl, fo, _, rfl, .inl (SqL.of (s1 _ _ eF)), _, rfl, ?_⟩
    rw [lenF]
    refine ⟨by omega, by omega, ?_⟩
    rw [Int.toNat_natCast]
    refine for_range (lo := 0) (n := ps.length) (fun c σ H2 => Same H H2 ∧ (∃ kvs, H2 d = some (.dT kvs) ∧ DoneS ps c 0 kvs) ∧ ∃ y2 y3 y4 y5, σ = [some (.ref fo), some (.ref d), y2, y3, y4, y5])
      ⟨s1, ⟨[], upd_same, DoneS.start ps⟩, none, none, none, none, rfl⟩ (fun c σ H2 hc p => ?_) (fun σ H2 p => ?_)
    · obtain ⟨s2, ⟨kvs, eD, dn⟩, y2, y3, y4, y5, rfl⟩ := p
      rw [Int.zero_add]
      obtain ⟨tc, xc, gc1, gc2, gc3, gc4⟩ := tupAt c hc
      refine ⟨.ref fo, rfl, .int c, rfl, c, rfl, fo, _, rfl, SqL.of (s2 _ _ eF), fun sl hsl => ?_⟩
      have ecut : cutV (ts.map V.ref) none (some (c : Int)) = (ts.take c).map V.ref := by
        rw [cut_to (by rw [List.length_map]; omega), List.map_take]
      rw [ecut]
      have s3 : Same H (upd H2 sl (.lst ((ts.take c).map V.ref))) := s2.trans (same_upd hsl)
      have eD3 : (upd H2 sl (.lst ((ts.take c).map V.ref))) d = some (.dT kvs) := same_upd hsl _ _ eD
      have eS3 : (upd H2 sl (.lst ((ts.take c).map V.ref))) sl = some (.lst ((ts.take c).map V.ref)) := upd_same
      have nsd : sl ≠ d := (ne_of_none eD hsl).symm
      have lenS : ((ts.take c).map V.ref).length = c := by
        rw [List.length_map, List.length_take]
        omega
      refine ⟨sl, rfl, ⟨_, SqL.of eS3⟩, for_list (K := K) (a := sl) (xs := (ts.take c).map V.ref) (fun m σ H4 => Same H H4 ∧ H4 sl = some (.lst ((ts.take c).map V.ref)) ∧ (∃ kvs, H4 d = some (.dT kvs) ∧ DoneS ps c m kvs) ∧ ∃ y3 y4 y5, σ = [some (.ref fo), some (.ref d), some (.int (c : Int)), y3, y4, y5])
        ⟨s3, eS3, ⟨kvs, eD3, dn⟩, y3, y4, y5, rfl⟩ (fun m σ H4 _ p => SqL.of p.2.1) (fun m z σ H4 hm p => ?_) (fun σ H4 p => ?_)⟩
      · obtain ⟨s4, eS4, ⟨kvs4, eD4, dn4⟩, z3, z4, z5, rfl⟩ := p
        have hmc : m < c := by
          rw [← lenS]
          exact (List.getElem?_eq_some_iff.mp hm).1
        obtain ⟨tm, xm, gm1, gm2, gm3, gm4⟩ := tupAt m (by omega)
        have ez : z = V.ref tm := by
          rw [List.getElem?_map, List.getElem?_take_of_lt hmc, gm1] at hm
          exact (Option.some.inj hm).symm
        subst ez
        refine ⟨tm, _, rfl, .inl (.inl (s4 _ _ gm4)), rfl, _, _, rfl, _, _, rfl, rfl, ?_⟩
        have hfo : ∀ H5, Same H4 H5 → SqL K H5 fo (ts.map V.ref) := fun H5 s5 => SqL.of (s5 _ _ (s4 _ _ eF))
        have htc : ∀ H5, Same H4 H5 → SqT K H5 tc [.int (xc.1 : Int), .bl xc.2] := fun H5 s5 => .inl (.inl (s5 _ _ (s4 _ _ gc4)))
        refine ⟨.int (xm.1 : Int), rfl, .ref fo, rfl, .int c, rfl, fo, _, c, _, rfl, rfl, hfo H4 (Same.refl _), atI_nat gc3, tc, _, 0, _, rfl, rfl, htc H4 (Same.refl _), atI_nat (j := 0) rfl, by show 2 ≤ sizeLine; decide, fun tp htp => ?_⟩
        have s5 : Same H4 (upd H4 tp (.tup [.int (xm.1 : Int), .int (xc.1 : Int)])) := same_upd htp
        refine ⟨.bl xm.2, rfl, .ref fo, rfl, .int c, rfl, fo, _, c, _, rfl, rfl, hfo _ s5, atI_nat gc3, tc, _, 1, _, rfl, rfl, htc _ s5, atI_nat (j := 1) rfl, rfl, _, rfl, ?_⟩
        have small := dn4.small hn hc hmc
        by_cases e : xm.2 = xc.2
        · rw [e, decide_eq_true rfl]
          have st := dn4.step hmc gm2 gc2 (.bl true)
          unfold fsig at st
          rw [if_pos e] at st
          refine iteF ⟨.ref d, rfl, .ref tp, rfl, d, _, rfl, DPut.t (k := pk (xm.1 : Int) (xc.1 : Int)) (s5 _ _ eD4) upd_same small, same_put hd (s4.trans s5), ?_, ⟨_, upd_same, st⟩, _, _, _, rfl⟩
          rw [upd_ne nsd]
          exact s5 _ _ eS4
        · rw [decide_eq_false (show ¬ V.bl xm.2 = V.bl xc.2 from fun z => e (V.bl.inj z))]
          have st := dn4.step hmc gm2 gc2 (.bl true)
          unfold fsig at st
          rw [if_neg e] at st
          refine iteT ⟨.ref tp, rfl, tp, _, rfl, .inl (.inl upd_same), fun tq htq => ?_⟩
          have s6 := s5.trans (same_upd (o := .tup [V.int (xm.1 : Int), V.int (xc.1 : Int)].reverse) htq)
          refine ⟨.ref d, rfl, .ref tq, rfl, d, _, rfl, DPut.t (k := pk (xc.1 : Int) (xm.1 : Int)) (s6 _ _ eD4) upd_same small, same_put hd (s4.trans s6), ?_, ⟨_, upd_same, st⟩, _, _, _, rfl⟩
          rw [upd_ne nsd]
          exact s6 _ _ eS4
      · obtain ⟨s4, eS4, ⟨kvs4, eD4, dn4⟩, z3, z4, z5, rfl⟩ := p
        rw [lenS] at dn4
        exact ⟨s4, ⟨kvs4, eD4, dn4.next hc⟩, _, _, _, _, rfl⟩
    · obtain ⟨s2, ⟨kvs, eD, dn⟩, y2, y3, y4, y5, rfl⟩ := p
      refine ⟨.ref d, rfl, .ref fo, rfl, fo, _, rfl, .inl (SqL.of (s2 _ _ eF)), d, ps.length, kvs, ?_, eD, by omega, fun H3 t s3 ht => q H3 t (s2.trans s3) (ht.congr fun i _ j _ => dn.fin i j)⟩
      rw [lenF]
      rfl
end
end RB

/-! RbDraw3: _law_any, _law_tournament. -/
namespace RB
open PySem PySem.Spec PySem.W PyProof.Rows L2

/-- the two players a < c have been asked -/
def Askd (o m a c : Nat) : Prop := a < c ∧ (c < o ∨ (c = o ∧ a < m))
structure AnyI (S : Int → Int → Prop) (o m : Nat) : Prop where
  only : ∀ i j : Int, S i j → ∃ a c : Nat, Askd o m a c ∧ ((i = (a : Int) ∧ j = (c : Int)) ∨ (i = (c : Int) ∧ j = (a : Int)))
  one : ∀ a c : Nat, Askd o m a c → (S a c ↔ ¬ S c a)
theorem AnyI.start : AnyI (fun _ _ => False) 0 0 := ⟨fun _ _ h => h.elim, fun a c h => by obtain ⟨_, h | h⟩ := h <;> omega⟩
theorem AnyI.step {S : Int → Int → Prop} {o m : Nat} (h : AnyI S o m) (hm : m < o) {x y : Int} (hxy : (x = (m : Int) ∧ y = (o : Int)) ∨ (x = (o : Int) ∧ y = (m : Int))) : AnyI (fun i j => S i j ∨ (i = x ∧ j = y)) o (m + 1) := by
  have n1 : ¬ S (m : Int) (o : Int) := fun z => by
    obtain ⟨a, c, ⟨h1, h2⟩, h3⟩ := h.only _ _ z
    omega
  have n2 : ¬ S (o : Int) (m : Int) := fun z => by
    obtain ⟨a, c, ⟨h1, h2⟩, h3⟩ := h.only _ _ z
    omega
  refine ⟨fun i j z => ?_, fun a c z => ?_⟩
  · rcases z with z | ⟨rfl, rfl⟩
    · obtain ⟨a, c, ⟨h1, h2⟩, h3⟩ := h.only _ _ z
      exact ⟨a, c, ⟨h1, by omega⟩, h3⟩
    · exact ⟨m, o, ⟨hm, by omega⟩, hxy⟩
  · obtain ⟨z1, z2⟩ := z
    by_cases e : c = o ∧ a = m
    · obtain ⟨rfl, rfl⟩ := e
      constructor
      · rintro (q | ⟨q1, q2⟩) (r | ⟨r1, r2⟩)
        · exact n1 q
        · exact n1 q
        · exact n2 r
        · omega
      · intro q
        refine .inr ?_
        rcases hxy with g | g
        · exact ⟨g.1.symm, g.2.symm⟩
        · exact absurd (.inr ⟨g.1.symm, g.2.symm⟩) q
    · have old : Askd o m a c := ⟨z1, by omega⟩
      have k1 : ¬ ((a : Int) = x ∧ (c : Int) = y) := by omega
      have k2 : ¬ ((c : Int) = x ∧ (a : Int) = y) := by omega
      have q := h.one a c old
      constructor
      · rintro (r | r) (t | t)
        · exact q.mp r t
        · exact k2 t
        · exact k1 r
        · exact k1 r
      · intro r
        exact .inl (q.mpr fun t => r (.inl t))
theorem AnyI.next {S : Int → Int → Prop} {o : Nat} (h : AnyI S o o) : AnyI S (o + 1) 0 := by
  refine ⟨fun i j z => ?_, fun a c z => ?_⟩
  · obtain ⟨a, c, ⟨h1, h2⟩, h3⟩ := h.only _ _ z
    exact ⟨a, c, ⟨h1, by omega⟩, h3⟩
  · obtain ⟨z1, z2⟩ := z
    exact h.one a c ⟨z1, by omega⟩
theorem AnyI.fin {S : Int → Int → Prop} {n : Nat} {kvs : List (List L2.Key × V)} (h : AnyI S n 0) (f : Filled kvs S) : IsT n (has kvs) := by
  have no : ∀ i : Nat, ¬ S (i : Int) (i : Int) := fun i z => by
    obtain ⟨a, c, ⟨h1, h2⟩, h3⟩ := h.only _ _ z
    omega
  have bl : ∀ i j : Nat, i < j → j < n → has kvs i j = !has kvs j i := fun i j hij hj => by
    have q := h.one i j ⟨hij, by omega⟩
    have f1 := f (i : Int) (j : Int)
    have f2 := f (j : Int) (i : Int)
    unfold has
    cases h1 : (valV kvs (pk (i : Int) (j : Int))).isSome with
    | true =>
      cases h2 : (valV kvs (pk (j : Int) (i : Int))).isSome with
      | true => exact absurd (f2.mp h2) (q.mp (f1.mp h1))
      | false => rfl
    | false =>
      cases h2 : (valV kvs (pk (j : Int) (i : Int))).isSome with
      | true => rfl
      | false =>
        have n2 : ¬ S (j : Int) (i : Int) := fun z => by
          rw [f2.mpr z] at h2
          cases h2
        rw [f1.mpr (q.mpr n2)] at h1
        cases h1
  intro i hi
  refine ⟨?_, fun j hj hij => ?_⟩
  · unfold has
    cases h1 : (valV kvs (pk (i : Int) (i : Int))).isSome with
    | true => exact absurd ((f _ _).mp h1) (no i)
    | false => rfl
  · rcases Nat.lt_or_gt_of_ne hij with h1 | h1
    · exact bl i j h1 hj
    · rw [bl j i h1 hi, Bool.not_not]

section
variable {P : Program} {w : World} {K : PySem.W.Frag} {mg : Str → Option Value} {base : Heap}
theorem scAny : FnScope ["_law_stream_here", "_law_many", "_law_beats", "_law_other", "_law_one"] ["_law_stream_here", "_law_many"] (defScope sAny) := ⟨rfl, rfl, rfl, by decide +kernel, rfl, by decide +kernel, by decide +kernel⟩
/-- some tournament of n players -/
def spAnyT : Sp := fun vs H Q _ => ∃ (st l : Addr) (n : Nat), vs = [.ref st, .int n] ∧ StAt H st l ∧ n ≤ 8 ∧ ∀ (H' : Hp) (t : Addr) (b : Nat → Nat → Bool), StAt H' st l → Frm st H H' → Tour H' t n b → IsT n b → Q (.ref t) H'
theorem ok_any {f fN fB : Addr} {fd fdN fdB : FuncData} (F : Fun K "_law_any" "_law_any" sAny f fd) (T : Txt mg) (GN : FnOk P w K mg base CX0 1 fN fdN ["_law_stream_here", "_law_many"] spNext) (kN : PySem.W.keepIn K (.ref fN) = true) (bN : Binds K fdN ["_law_stream_here", "_law_many"] []) (gN : mg "_law_next" = some (.ref fN))
    (GB : FnOk P w K mg base CX0 1 fB fdB ["_law_beats", "_law_many"] spBy) (kB : PySem.W.keepIn K (.ref fB) = true) (bB : Binds K fdB ["_law_beats", "_law_many"] []) (gB : mg "_law_by" = some (.ref fB)) :
    FnOk P w K mg base CX0 2 f fd ["_law_stream_here", "_law_many"] spAnyT := by
  refine F.ok scAny (fun vs H Q E h => ?_) (fun cdv A outer s0 H vs Q E hr h => ?_)
  · obtain ⟨st, l, n, rfl, _⟩ := h
    rfl
  · obtain ⟨st, l, n, rfl, S, hn, q⟩ := h
    refine ⟨_, pss_cons (ps_set (i := 2) scAny.nd rfl (.inl rfl) pe_dnewT)
      (pss_cons (ps_for PassesOwn.never rfl (pi_range1 (by rfl) T.range (pa_cons (pv 1) pa_nil)) (pg_name (i := 3) scAny.nd rfl (.inl rfl))
        (pss_one (ps_for PassesOwn.never rfl (pi_range1 (by rfl) T.range (pa_cons (pv 3) pa_nil)) (pg_name (i := 4) scAny.nd rfl (.inl rfl))
          (pss_one (ps_dput (hu_of hr) (pv 2) (pe_ix (ixL K) (pe_lst (pa_cons (pe_tup (pa_cons (pv 4) (pa_cons (pv 3) pa_nil))) (pa_cons (pe_tup (pa_cons (pv 3) (pa_cons (pv 4) pa_nil))) pa_nil))) (pe_call GN hr (by rfl) gN kN bN .nil pass0 (pa_cons (pv 0) (pa_cons pe_int pa_nil))) (fun _ _ => rfl)) pe_bl rfl)))))
      (pss_one (ps_ret (pe_call GB hr (by rfl) gB kB bB .nil pass0 (pa_cons (pv 2) (pa_cons (pv 1) pa_nil)))))), ?_⟩
    intro d hd
    have nd := S.new hd
    refine ⟨.int n, rfl, n, rfl, by omega, by omega, ?_⟩
    rw [Int.toNat_natCast]
    refine for_range (lo := 0) (n := n) (fun o σ H2 => StAt H2 st l ∧ Frm st H H2 ∧ (∃ kvs R, H2 d = some (.dT kvs) ∧ Filled kvs R ∧ AnyI R o 0 ∧ kvs.length ≤ o * 8) ∧ ∃ y3 y4, σ = [some (.ref st), some (.int n), some (.ref d), y3, y4])
      ⟨S.upd nd, Frm.of (same_upd hd), ⟨[], _, upd_same, Filled.nil, AnyI.start, Nat.le_refl _⟩, none, none, rfl⟩ (fun o σ H2 ho p => ?_) (fun σ H2 p => ?_)
    · obtain ⟨S2, f2, ⟨kvs, R, eD, fl, ai, kl⟩, y3, y4, rfl⟩ := p
      rw [Int.zero_add]
      refine ⟨.int o, rfl, o, rfl, by omega, by omega, ?_⟩
      rw [Int.toNat_natCast]
      refine for_range (lo := 0) (n := o) (fun m σ H3 => StAt H3 st l ∧ Frm st H H3 ∧ (∃ kvs R, H3 d = some (.dT kvs) ∧ Filled kvs R ∧ AnyI R o m ∧ kvs.length ≤ o * 8 + m) ∧ ∃ y4, σ = [some (.ref st), some (.int n), some (.ref d), some (.int (o : Int)), y4])
        ⟨S2, f2, ⟨kvs, R, eD, fl, ai, by omega⟩, y4, rfl⟩ (fun m σ H3 hm p => ?_) (fun σ H3 p => ?_)
      · obtain ⟨S3, f3, ⟨kvs3, R3, eD3, fl3, ai3, kl3⟩, z4, rfl⟩ := p
        rw [Int.zero_add]
        refine ⟨.ref d, rfl, .int m, rfl, .int o, rfl, by show 2 ≤ sizeLine; decide, fun t1 h1 => ?_⟩
        refine ⟨.int o, rfl, .int m, rfl, by show 2 ≤ sizeLine; decide, fun t2 h2 => ?_⟩
        refine ⟨by show 2 ≤ sizeLine; decide, fun la hla => ?_⟩
        have s1 : Same H3 (upd H3 t1 (.tup [.int (m : Int), .int (o : Int)])) := same_upd h1
        have s2 := s1.trans (same_upd (o := .tup [.int (o : Int), .int (m : Int)]) h2)
        have s3 := s2.trans (same_upd (o := .lst [.ref t1, .ref t2]) hla)
        refine ⟨.ref st, rfl, st, l, 2, rfl, S3.same s3, by decide, by decide, fun H5 k S5 f5 hk => ?_⟩
        have nla := S3.new (s2.free hla)
        have e1 : H5 t1 = some (.tup [.int (m : Int), .int (o : Int)]) := f5.tup (S3.same s3) (same_upd hla _ _ (same_upd h2 _ _ upd_same))
        have e2 : H5 t2 = some (.tup [.int (o : Int), .int (m : Int)]) := f5.tup (S3.same s3) (same_upd hla _ _ upd_same)
        have eL : H5 la = some (.lst [.ref t1, .ref t2]) := f5 _ _ upd_same nla.1
        have eD5 : H5 d = some (.dT kvs3) := f5 _ _ (s3 _ _ eD3) nd.1
        have f35 : Frm st H H5 := (f3.trans (Frm.of s3)).trans f5
        have small : kvs3.length < sizeLine := small_of (by omega)
        have two : k = 0 ∨ k = 1 := by omega
        rcases two with rfl | rfl
        · refine ⟨la, _, 0, .ref t1, rfl, rfl, SqL.of eL, atI_nat (j := 0) rfl, d, _, rfl, DPut.t (k := pk (m : Int) (o : Int)) eD5 e1 small, S5.upd nd, f35.put hd, ⟨_, _, upd_same, fl3.put _ _ _, ai3.step hm (.inl ⟨rfl, rfl⟩), ?_⟩, _, rfl⟩
          have := length_putK kvs3 (pk (m : Int) (o : Int)) (.bl true)
          omega
        · refine ⟨la, _, 1, .ref t2, rfl, rfl, SqL.of eL, atI_nat (j := 1) rfl, d, _, rfl, DPut.t (k := pk (o : Int) (m : Int)) eD5 e2 small, S5.upd nd, f35.put hd, ⟨_, _, upd_same, fl3.put _ _ _, ai3.step hm (.inr ⟨rfl, rfl⟩), ?_⟩, _, rfl⟩
          have := length_putK kvs3 (pk (o : Int) (m : Int)) (.bl true)
          omega
      · obtain ⟨S3, f3, ⟨kvs3, R3, eD3, fl3, ai3, kl3⟩, z4, rfl⟩ := p
        exact ⟨S3, f3, ⟨kvs3, R3, eD3, fl3, ai3.next, by omega⟩, _, _, rfl⟩
    · obtain ⟨S2, f2, ⟨kvs, R, eD, fl, ai, kl⟩, y3, y4, rfl⟩ := p
      exact ⟨.ref d, rfl, .int n, rfl, d, n, kvs, rfl, eD, by omega, fun H3 t s3 ht => q H3 t _ (S2.same s3) (f2.trans (Frm.of s3)) ht (ai.fin fl)⟩

/-! ### _law_tournament -/
theorem scTourn : FnScope ["_law_stream_here", "_law_many"] ["_law_stream_here", "_law_many"] (defScope sTourn) := ⟨rfl, rfl, rfl, by decide +kernel, rfl, by decide +kernel, by decide +kernel⟩
theorem ok_tourn {f fN fA fS fT : Addr} {fd fdN fdA fdS fdT : FuncData} (F : Fun K "_law_tournament" "_law_tournament" sTourn f fd) (T : Txt mg) (GN : FnOk P w K mg base CX0 1 fN fdN ["_law_stream_here", "_law_many"] spNext) (kN : PySem.W.keepIn K (.ref fN) = true) (bN : Binds K fdN ["_law_stream_here", "_law_many"] []) (gN : mg "_law_next" = some (.ref fN))
    (GA : FnOk P w K mg base CX0 2 fA fdA ["_law_stream_here", "_law_many"] spAnyT) (kA : PySem.W.keepIn K (.ref fA) = true) (bA : Binds K fdA ["_law_stream_here", "_law_many"] []) (gA : mg "_law_any" = some (.ref fA))
    (GS : FnOk P w K mg base CX0 2 fS fdS ["_law_stream_here", "_law_many"] spSigned) (kS : PySem.W.keepIn K (.ref fS) = true) (bS : Binds K fdS ["_law_stream_here", "_law_many"] []) (gS : mg "_law_signed" = some (.ref fS))
    (GT : FnOk P w K mg base CX0 2 fT fdT ["_law_order_here"] spTof) (kT : PySem.W.keepIn K (.ref fT) = true) (bT : Binds K fdT ["_law_order_here"] []) (gT : mg "_law_tournament_of" = some (.ref fT)) :
    FnOk P w K mg base CX0 3 f fd ["_law_stream_here", "_law_many"] spAnyT := by
  refine F.ok scTourn (fun vs H Q E h => ?_) (fun cdv A outer s0 H vs Q E hr h => ?_)
  · obtain ⟨st, l, n, rfl, _⟩ := h
    rfl
  · obtain ⟨st, l, n, rfl, S, hn, q⟩ := h
    refine ⟨_, pss_cons (ps_if (pt_cmpR op_eq (pe_call GN (hr.mono (by decide)) (by rfl) gN kN bN .nil pass0 (pa_cons (pv 0) (pa_cons pe_int pa_nil))) pe_int (nomark _)) (pss_one (ps_ret (pe_call GA hr (by rfl) gA kA bA .nil pass0 (pa_cons (pv 0) (pa_cons (pv 1) pa_nil))))) pss_nil)
      (pss_one (ps_ret (pe_call GT hr (by rfl) gT kT bT .nil pass0 (pa_cons (pe_call GS hr (by rfl) gS kS bS .nil pass0 (pa_cons (pv 0) (pa_cons (pv 1) pa_nil))) pa_nil)))), ?_⟩
    refine ⟨.ref st, rfl, st, l, 3, rfl, S, by decide, by decide, fun H1 k S1 f1 hk => ⟨rfl, _, rfl, ite2 (fun _ => ?_) (fun _ => ?_)⟩⟩
    · exact ⟨.ref st, rfl, .int n, rfl, st, l, n, rfl, S1, hn, fun H2 t b S2 f2 hT hI => q H2 t b S2 (f1.trans f2) hT hI⟩
    · refine ⟨.ref st, rfl, .int n, rfl, st, l, n, rfl, S1, hn, fun H2 fo ps S2 f2 sg pp => ?_⟩
      have pl : ps.length = n := by
        have z := pp.length_eq
        rw [List.length_map, List.length_range] at z
        exact z
      refine ⟨fo, ps, rfl, sg, by omega, fun H3 t s3 ht => ?_⟩
      rw [pl] at ht
      exact q H3 t _ (S2.same s3) ((f1.trans f2).trans (Frm.of s3)) ht (isT_tof pp)
end
end RB

/-! RbSets: _law_sets, _law_order. -/
namespace RB
open PySem PySem.Spec PySem.W PyProof.Rows L2

theorem room2 {A : Around} {k : Nat} (h : Room k A) : A.units + 2 < cLine := by
  have := h.un
  omega
theorem room65 {A : Around} {k : Nat} (h : Room k A) : A.units + 65 < cLine := by
  have := h.un
  omega
def intOf : V → Option Int
  | .int i => some i
  | _ => none
theorem intOf_map : ∀ ks : List Int, (ks.map V.int).filterMap intOf = ks
  | [] => rfl
  | k :: ks => by
    have ih := intOf_map ks
    show (V.int k :: ks.map V.int).filterMap intOf = k :: ks
    rw [List.filterMap_cons]
    show k :: (ks.map V.int).filterMap intOf = k :: ks
    rw [ih]
/-- the ints of the tuple at r -/
def tupInts (H : Hp) (r : Addr) : List Int := match H r with
  | some (.tup xs) => xs.filterMap intOf
  | _ => []
theorem tupInts_of {H : Hp} {r : Addr} {ks : List Int} (h : H r = some (.tup (ks.map V.int))) : tupInts H r = ks := by
  unfold tupInts
  rw [h]
  exact intOf_map ks
/-- at f stands a list of tuples, each with its ints -/
def TupsAt (H : Hp) (f : Addr) (L : List (Addr × List Int)) : Prop := H f = some (.lst (L.map fun p => V.ref p.1)) ∧ ∀ p ∈ L, H p.1 = some (.tup (p.2.map V.int))
theorem catA_any {K : PySem.W.Frag} {a b : Addr} {xs ys : List V} {H : Hp} {Q : VK} (h1 : H a = some (.tup xs)) (h2 : H b = some (.tup ys)) (hz : xs.length + ys.length ≤ 1000)
    (h : ∀ (c : Addr) (H' : Hp), Same H H' → H' c = some (.tup (xs ++ ys)) → Q (.ref c) H') : rCatA K (.ref a) (.ref b) H Q := by
  refine ⟨a, b, xs, ys, rfl, rfl, .inl (.inl h1), .inl (.inl h2), Nat.le_of_lt (small_of hz), fun e => ?_, fun e1 e2 => ?_, fun _ _ p hp => ?_⟩
  · subst e
    exact h b H (Same.refl _) h2
  · subst e2
    refine h a H (Same.refl _) ?_
    rw [List.append_nil]
    exact h1
  · exact h p _ (same_upd hp) upd_same

section
variable {P : Program} {w : World} {K : PySem.W.Frag} {mg : Str → Option Value} {base : Heap}
/-! ### _law_sets -/
theorem scSets : FnScope ["_law_many", "_law_found", "_law_player", "_law_row"] ["_law_many"] (defScope sSets) := ⟨rfl, rfl, rfl, by decide +kernel, rfl, by decide +kernel, by decide +kernel⟩
def spSets : Sp := fun vs H Q _ => ∃ n : Nat, vs = [.int n] ∧ n ≤ 8 ∧ ∀ (H' : Hp) (f : Addr) (L : List (Addr × List Int)), Same H H' → H f = none → TupsAt H' f L → (∀ ks, ks ∈ L.map (·.2) ↔ Asc n ks) → L.length = 2 ^ n → Q (.ref f) H'
theorem pow_small {i n : Nat} (h : i ≤ n) (hn : n ≤ 8) : 2 ^ i ≤ 256 := by
  have h1 : 2 ^ i ≤ 2 ^ 8 := Nat.pow_le_pow_right (by decide) (by omega)
  exact h1
theorem ok_sets {f : Addr} {fd : FuncData} (F : Fun K "_law_sets" "_law_sets" sSets f fd) (T : Txt mg) : FnOk P w K mg base CX0 1 f fd ["_law_many"] spSets := by
  refine F.ok scSets (fun vs H Q E h => ?_) (fun cdv A outer s0 H vs Q E hr h => ?_)
  · obtain ⟨n, rfl, _⟩ := h
    rfl
  · obtain ⟨n, rfl, hn, q⟩ := h
    refine ⟨_, pss_cons (ps_set (i := 1) scSets.nd rfl (.inl rfl) (pe_lst (pa_cons (pe_tup pa_nil) pa_nil)))
      (pss_cons (ps_for PassesOwn.never rfl (pi_range1 (by rfl) T.range (pa_cons (pv 0) pa_nil)) (pg_name (i := 2) scSets.nd rfl (.inr rfl))
        (pss_one (ps_set (i := 1) scSets.nd rfl (.inl rfl) (pe_op op_cat (pv 1)
          (pe_lc (own := [("_law_row", 3)]) (g := gName 3) (tt := tYes) rfl scSets.nd (pi_list (pv 1)) (blkOk_by (N := ["_law_many", "_law_found", "_law_player", "_law_row"]) (sc := defScope sSets) (by decide +kernel)) (fun _ _ _ _ _ => pg_name (i := 3) scSets.nd rfl (Or.inl rfl)) (fun _ _ _ _ _ => pts_nil)
            (fun _ _ _ _ _ => pe_op (catA K) (pv 3) (pe_tup (pa_cons (pv 2) pa_nil))))))))
      (pss_one (ps_ret (pe_callB (cr_sortedR (room2 hr)) (by rfl) T.sorted (by decide +kernel) (pa_cons (pv 1) pa_nil))))), ?_⟩
    refine ⟨Nat.zero_le _, fun t0 ht0 => ⟨by show 1 ≤ sizeLine; decide, fun f0 hf0 => ?_⟩⟩
    have s1 : Same H (upd H t0 (.tup [])) := same_upd ht0
    have s2 := s1.trans (same_upd (o := .lst [.ref t0]) hf0)
    have n0 : t0 ≠ f0 := fun z => by
      rw [← z, upd_same] at hf0
      cases hf0
    refine ⟨.int n, rfl, n, rfl, by omega, by omega, ?_⟩
    rw [Int.toNat_natCast]
    refine for_range (lo := 0) (n := n) (fun i σ H2 => Same H H2 ∧ (∃ (f2 r0 : Addr) (rest : List (Addr × List Int)) (y2 y3 : Option V), σ = [some (.int n), some (.ref f2), y2, y3] ∧ TupsAt H2 f2 ((r0, []) :: rest) ∧ ((r0, []) :: rest).map (·.2) = subs i))
      ⟨s2, f0, t0, [], none, none, rfl, ⟨upd_same, fun p hp => ?_⟩, rfl⟩ (fun i σ H2 hi p => ?_) (fun σ H2 p => ?_)
    · have e : p = (t0, []) := by simpa using hp
      subst e
      exact Eq.trans (upd_ne n0) upd_same
    · obtain ⟨sH, f2, r0, rest, y2, y3, rfl, ⟨eF, eT⟩, em⟩ := p
      rw [Int.zero_add]
      generalize hL : ((r0, ([] : List Int)) :: rest) = L at eF eT em
      have len : L.length = 2 ^ i := by
        have z := congrArg List.length em
        rw [List.length_map, subs_len] at z
        exact z
      have hp := pow_small (Nat.le_of_lt hi) hn
      have lenV : (L.map fun p => V.ref p.1).length = L.length := List.length_map ..
      refine ⟨.ref f2, rfl, .ref f2, rfl, f2, rfl, ⟨_, SqL.of eF⟩, fun D hD => ?_⟩
      have eFD : (upd H2 D (.lst [])) f2 = some (.lst (L.map fun p => V.ref p.1)) := same_upd hD _ _ eF
      refine lc_list (K := K) (a := f2) (xs := L.map fun p => V.ref p.1) (fun m H3 => Same H2 H3 ∧ ∃ L2 : List (Addr × List Int), TupsAt H3 D L2 ∧ L2.map (·.2) = ((L.map (·.2)).take m).map fun r => r ++ [(i : Int)])
        ⟨same_upd hD, [], ⟨upd_same, fun p hp => nomatch hp⟩, rfl⟩ (fun m H3 _ p => SqL.of (p.1 _ _ eF)) (fun m x H3 hm p => ?_) (fun H3 p => ?_)
      · obtain ⟨s3, L2, ⟨eD, eT2⟩, em2⟩ := p
        rw [List.getElem?_map] at hm
        cases eL : L[m]? with
        | none =>
          rw [eL] at hm
          cases hm
        | some pr =>
          rw [eL] at hm
          cases Option.some.inj hm
          obtain ⟨r, ks⟩ := pr
          have eR : H3 r = some (.tup (ks.map V.int)) := s3 _ _ (eT _ (List.mem_of_getElem? eL))
          have ksl : ks.length ≤ 8 := by
            have hm2 : ks ∈ subs i := by
              rw [← em]
              exact List.mem_map.mpr ⟨_, List.mem_of_getElem? eL, rfl⟩
            have := subs_short hm2
            omega
          refine ⟨rfl, yes_if ?_⟩
          refine ⟨.ref r, rfl, .int i, rfl, by show 1 ≤ sizeLine; decide, fun tp htp => ?_⟩
          have s4 : Same H3 (upd H3 tp (.tup [.int (i : Int)])) := same_upd htp
          refine catA_any (xs := ks.map V.int) (ys := [.int (i : Int)]) (s4 _ _ eR) upd_same (by rw [List.length_map]; show ks.length + 1 ≤ 1000; omega) fun c H5 s5 eC => ?_
          have s45 := s4.trans s5
          have l2len : L2.length ≤ 256 := by
            have z := congrArg List.length em2
            rw [List.length_map, List.length_map, List.length_take, List.length_map] at z
            omega
          refine ⟨_, s45 _ _ eD, ?_, same_put hD (s3.trans s45), L2 ++ [(c, ks ++ [(i : Int)])], ⟨?_, fun p hp => ?_⟩, ?_⟩
          · rw [List.length_map]
            exact small_of (by omega)
          · rw [upd_same, List.map_append]
            rfl
          · rcases List.mem_append.mp hp with hp | hp
            · have z := s45 _ _ (eT2 p hp)
              have nz : p.1 ≠ D := ne_of (eT2 p hp) eD (by intro z; cases z)
              rw [upd_ne nz]
              exact z
            · have e : p = (c, ks ++ [(i : Int)]) := by simpa using hp
              subst e
              have nz : c ≠ D := ne_of eC (s45 _ _ eD) (by intro z; cases z)
              rw [upd_ne nz, eC, List.map_append]
              rfl
          · rw [List.map_append, em2, List.take_add_one, List.map_append, List.getElem?_map, eL]
            rfl
      · obtain ⟨s3, L2, ⟨eD, eT2⟩, em2⟩ := p
        rw [List.length_map] at em2
        have l2 : L2.map (·.2) = (L.map (·.2)).map fun r => r ++ [(i : Int)] := by
          rw [em2, List.take_of_length_le (by rw [List.length_map]; exact Nat.le_refl _)]
        have l2len : L2.length = L.length := by
          have z := congrArg List.length l2
          rw [List.length_map, List.length_map, List.length_map] at z
          exact z
        refine ⟨f2, D, _, _, rfl, rfl, s3 _ _ eF, eD, ?_, fun fn hfn => ?_⟩
        · rw [List.length_map, List.length_map, l2len]
          exact Nat.le_of_lt (small_of (by omega))
        · refine ⟨(sH.trans s3).trans (same_upd hfn), fn, r0, rest ++ L2, _, _, rfl, ⟨?_, fun p hp => ?_⟩, ?_⟩
          · have e : ((r0, ([] : List Int)) :: (rest ++ L2)) = L ++ L2 := by
              rw [← hL]
              rfl
            rw [e, upd_same, List.map_append]
          · have e : ((r0, ([] : List Int)) :: (rest ++ L2)) = L ++ L2 := by
              rw [← hL]
              rfl
            rw [e] at hp
            refine same_upd hfn _ _ ?_
            rcases List.mem_append.mp hp with hp | hp
            · exact s3 _ _ (eT p hp)
            · exact eT2 p hp
          · have e : ((r0, ([] : List Int)) :: (rest ++ L2)) = L ++ L2 := by
              rw [← hL]
              rfl
            rw [e, List.map_append, em, l2, em]
            rfl
    · obtain ⟨sH, f2, r0, rest, y2, y3, rfl, ⟨eF, eT⟩, em⟩ := p
      have eT0 := eT _ (List.mem_cons_self ..)
      refine ⟨.ref f2, rfl, f2, r0, rest.map (·.1), tupInts H2, rfl, ?_, tupInts_of (ks := []) eT0, fun r hr => ?_, fun rs p perm hp => ?_⟩
      · refine SqL.of (Eq.trans eF ?_)
        rw [List.map_cons, List.map_cons, List.map_map]
        rfl
      · have : ∃ p ∈ ((r0, ([] : List Int)) :: rest), p.1 = r := by
          rcases List.mem_cons.mp hr with rfl | hr
          · exact ⟨_, List.mem_cons_self .., rfl⟩
          · obtain ⟨p, hp, e⟩ := List.mem_map.mp hr
            exact ⟨p, List.mem_cons_of_mem _ hp, e⟩
        obtain ⟨p, hp, rfl⟩ := this
        rw [tupInts_of (eT p hp)]
        exact eT p hp
      · refine q _ p (rs.map fun r => (r, tupInts H2 r)) (sH.trans (same_upd hp)) (sH.free hp) ⟨?_, fun pr hpr => ?_⟩ (fun ks => ?_) ?_
        · rw [upd_same, List.map_map]
          rfl
        · obtain ⟨r, hr, rfl⟩ := List.mem_map.mp hpr
          have hr2 : r ∈ ((r0, ([] : List Int)) :: rest).map (·.1) := perm.mem_iff.mp hr
          obtain ⟨p2, hp2, rfl⟩ := List.mem_map.mp hr2
          have z := eT p2 hp2
          show (upd H2 p (.lst (rs.map V.ref))) p2.1 = some (.tup ((tupInts H2 p2.1).map V.int))
          rw [tupInts_of z]
          exact same_upd hp _ _ z
        · have e1 : (rs.map fun r => (r, tupInts H2 r)).map (·.2) = rs.map (tupInts H2) := by
            rw [List.map_map]
            rfl
          have e2 : (r0 :: rest.map (·.1)).map (tupInts H2) = ((r0, ([] : List Int)) :: rest).map (·.2) := by
            have z : ∀ M : List (Addr × List Int), (∀ p ∈ M, H2 p.1 = some (.tup (p.2.map V.int))) → (M.map (·.1)).map (tupInts H2) = M.map (·.2) := fun M hM => by
              rw [List.map_map]
              refine List.map_congr_left fun p hp => ?_
              exact tupInts_of (hM p hp)
            exact z _ eT
          rw [e1, (perm.map (tupInts H2)).mem_iff, e2, em]
          exact mem_subs
        · have z := congrArg List.length em
          rw [List.length_map, subs_len] at z
          rw [List.length_map, perm.length_eq, ← z]
          show (rest.map (·.1)).length + 1 = rest.length + 1
          rw [List.length_map]
end
end RB

/-! RbWay: _law_order, _law_is_way. -/
namespace RB
open PySem PySem.Spec PySem.W PyProof.Rows L2

theorem natV_ints (l : List Nat) : natV l = (l.map fun j : Nat => (j : Int)).map V.int := by
  unfold natV
  rw [List.map_map]
  rfl
theorem eqv_tups (xs ys : List Int) : PyData.eqv (.tuple (dInts xs)) (.tuple (dInts ys)) = decide (xs = ys) := by
  rw [show PyData.eqv (.tuple (dInts xs)) (.tuple (dInts ys)) = PyData.eqvAll (dInts xs) (dInts ys) by simp only [PyData.eqv], eqv_ints]
/-- a list of tuples of ints as data -/
def dTups (L : List (Addr × List Int)) : List PyData := L.map fun p => .tuple (dInts p.2)
theorem dp_tups {K : PySem.W.Frag} {H : Hp} : ∀ L : List (Addr × List Int), (∀ p ∈ L, H p.1 = some (.tup (p.2.map V.int))) → DpAll K H (L.map fun p => V.ref p.1) (dTups L)
  | [], _ => .nil
  | p :: L, h => .cons (.tup (.inl (.inl (h p (List.mem_cons_self ..)))) (dp_ints _)) (dp_tups L fun q hq => h q (List.mem_cons_of_mem _ hq))
theorem dTups_lay : ∀ L : List (Addr × List Int), PyData.canLayAll0 (dTups L) = true ∧ PyData.depthAll (dTups L) ≤ 1
  | [] => by
    show PyData.canLayAll0 [] = true ∧ PyData.depthAll [] ≤ 1
    simp [PyData.canLayAll0, PyData.depthAll]
  | p :: L => by
    obtain ⟨h1, h2⟩ := dTups_lay L
    show PyData.canLayAll0 (.tuple (dInts p.2) :: dTups L) = true ∧ PyData.depthAll (.tuple (dInts p.2) :: dTups L) ≤ 1
    refine ⟨by simp [PyData.canLayAll0, PyData.canLay0, lay_ints, h1], ?_⟩
    simp only [PyData.depthAll, PyData.depth, depth_ints0]
    omega
theorem shaped_tups (L : List (Addr × List Int)) : SeqAt.shaped (.list (dTups L)) = true := by
  obtain ⟨h1, h2⟩ := dTups_lay L
  refine shaped_of (by simp only [PyData.canLay0]; exact h1) ?_
  simp only [PyData.depth]
  omega
theorem any_tups (L : List (Addr × List Int)) (ks : List Int) : ((dTups L).any fun z => PyData.eqv z (.tuple (dInts ks))) = true ↔ ks ∈ L.map (·.2) := by
  unfold dTups
  rw [List.any_map, List.any_eq_true, List.mem_map]
  constructor
  · rintro ⟨p, hp, e⟩
    have e2 : PyData.eqv (.tuple (dInts p.2)) (.tuple (dInts ks)) = true := e
    rw [eqv_tups, decide_eq_true_eq] at e2
    exact ⟨p, hp, e2⟩
  · rintro ⟨p, hp, e⟩
    refine ⟨p, hp, ?_⟩
    show PyData.eqv (.tuple (dInts p.2)) (.tuple (dInts ks)) = true
    rw [eqv_tups, decide_eq_true_eq]
    exact e
theorem pure_app {xs ys : List V} : ((xs ++ ys).map pureInt).all id = true ↔ (∃ os : List Int, xs = os.map V.int) ∧ ∃ ks : List Int, ys = ks.map V.int := by
  rw [List.map_append, List.all_append, Bool.and_eq_true, pure_all, pure_all]

/-- a built-in method's call, with K told -/
theorem pe_bmK (K : PySem.W.Frag) {X : Cx} {o e : Expr} {es : List Expr} {to : TE} {t : TA} {name : Str} {apos cpos : Pos} {T id : String} {r : V → List V → Hp → VK → Prop} (pa : PlainAttrs T) (slot : Slot T name id) (hty : typeOf (.builtin id) = pure (.type "method_descriptor")) (hm : MtR X id r) (ho : PE X o to) (ha : PA X (e :: es) t)
    (eK : X.K = K := by rfl) (h1 : attributeBase o name X.env (eval o X.env) = eval o X.env := by rfl)
    (h2 : ((backTo cpos (starEach (e :: es) X.env)).all (fun x => !x.1) && (backToKw cpos (keywordEach [] X.env)).all (fun x => x.1.isSome) && decide ((e :: es).length + ([] : List Keyword).length + (if ([] : List Keyword).isEmpty then 0 else 1) < 30)) = true := by rfl)
    (h3 : (apos.endLine == cpos.line) = true := by rfl) (h4 : starEach (e :: es) X.env = (false, eval e X.env) :: starEach es X.env := by rfl) (h5 : (backTo cpos (starEach es X.env)).any (·.1) = false := by rfl) :
    PE X (.Call (.Attribute o name apos) (e :: es) [] cpos) (tBM K T r to t) := by
  subst eK
  exact pe_bm pa slot hty hm ho ha h1 h2 h3 h4 h5
section
variable {P : Program} {w : World} {K : PySem.W.Frag} {mg : Str → Option Value} {base : Heap}
/-! ### _law_order -/
theorem scOrder : FnScope ["_law_stream_here", "_law_many", "_law_left", "_law_turn"] ["_law_stream_here", "_law_many"] (defScope sOrder) := ⟨rfl, rfl, rfl, by decide +kernel, rfl, by decide +kernel, by decide +kernel⟩
def spOrder : Sp := fun vs H Q _ => ∃ (st l : Addr) (n : Nat), vs = [.ref st, .int n] ∧ StAt H st l ∧ n ≤ 8 ∧ ∀ (H' : Hp) (o : Addr) (os : List Int), StAt H' st l → Frm st H H' → H' o = some (.tup (os.map V.int)) → os.Perm (rng n) → Q (.ref o) H'
theorem ok_order {f fN : Addr} {fd fdN : FuncData} (F : Fun K "_law_order" "_law_order" sOrder f fd) (T : Txt mg) (GN : FnOk P w K mg base CX0 1 fN fdN ["_law_stream_here", "_law_many"] spNext) (kN : PySem.W.keepIn K (.ref fN) = true) (bN : Binds K fdN ["_law_stream_here", "_law_many"] []) (gN : mg "_law_next" = some (.ref fN)) :
    FnOk P w K mg base CX0 2 f fd ["_law_stream_here", "_law_many"] spOrder := by
  refine F.ok scOrder (fun vs H Q E h => ?_) (fun cdv A outer s0 H vs Q E hr h => ?_)
  · obtain ⟨st, l, n, rfl, _⟩ := h
    rfl
  · obtain ⟨st, l, n, rfl, S, hn, q⟩ := h
    refine ⟨_, pss_cons (ps_set (i := 2) scOrder.nd rfl (.inr rfl) (pe_listRg rfl (by rfl) T.list (prg_1 (by rfl) T.range (pv 1))))
      (pss_one (ps_ret (pe_callTy (tupK K) (by rfl) T.tuple (by decide +kernel) (pa_cons
        (pe_lc (own := [("_law_turn", 3)]) (g := gName 3) (tt := tYes) rfl scOrder.nd (pi_range1 (by rfl) T.range (pa_cons (pv 1) pa_nil)) (blkOk_by (N := ["_law_stream_here", "_law_many", "_law_left", "_law_turn"]) (sc := defScope sOrder) (by decide +kernel)) (fun _ _ _ _ _ => pg_name (i := 3) scOrder.nd rfl (Or.inl rfl)) (fun _ _ _ _ _ => pts_nil)
          (fun _ _ _ _ _ => pe_bmK K PySem.F.plainAttrs_list PySem.F.slot_list_pop PySem.F.type_list_pop mt_popAt (pv 2) (pa_cons (pe_call GN hr (by rfl) gN kN bN .nil pass0 (pa_cons (pv 0) (pa_cons (pe_callB (lenK K) (by rfl) T.len PySem.boot_len (pa_cons (pv 2) pa_nil)) pa_nil))) pa_nil))) pa_nil)))), ?_⟩
    refine ⟨.int n, rfl, n, rfl, ⟨by omega, by omega, by omega, by omega, by omega⟩, fun la hla => ?_⟩
    rw [natV_rng]
    have nl := S.new hla
    refine ⟨.int n, rfl, n, rfl, by omega, by omega, fun D hD => ?_⟩
    rw [Int.toNat_natCast]
    have s1 : Same H (upd H la (.lst (natV (List.range n)))) := same_upd hla
    have nDl : D ≠ la := fun z => by
      rw [z, upd_same] at hD
      cases hD
    have hD0 : H D = none := s1.free hD
    have nD := S.new hD0
    refine lc_range (lo := 0) (n := n) (fun i H2 => StAt H2 st l ∧ Frm st H H2 ∧ ∃ lf os : List Nat, H2 la = some (.lst (natV lf)) ∧ H2 D = some (.lst (natV os)) ∧ (os ++ lf).Perm (List.range n) ∧ os.length = i)
      ⟨(S.upd nl).upd nD, (Frm.of s1).put hD0, List.range n, [], Eq.trans (upd_ne nDl.symm) upd_same, upd_same, List.Perm.refl _, rfl⟩ (fun i H2 hi p => ?_) (fun H2 p => ?_)
    · obtain ⟨S2, f2, lf, os, eL, eD, pp, ol⟩ := p
      have hlen : lf.length = n - i := by
        have z := pp.length_eq
        rw [List.length_append, List.length_range, ol] at z
        omega
      have lenL : ((natV lf).length : Int) = (lf.length : Int) := by unfold natV; rw [List.length_map]
      refine ⟨rfl, yes_if ?_⟩
      refine ⟨.ref la, rfl, .inl ⟨rfl, _, SqL.of eL⟩, .ref st, rfl, .ref la, rfl, la, _, rfl, .inl (SqL.of eL), st, l, _, rfl, S2, ?_, ?_, fun H3 d S3 f3 hd => ?_⟩
      · rw [lenL]
        omega
      · rw [lenL]
        omega
      rw [lenL] at hd
      have hd2 : d < lf.length := by omega
      have eL3 : H3 la = some (.lst (natV lf)) := f3 _ _ eL nl.1
      have eD3 : H3 D = some (.lst (natV os)) := f3 _ _ eD nD.1
      refine ⟨la, natV lf, (d : Int), d, .int (lf[d] : Int), rfl, rfl, eL3, by omega, by omega, seqIx (by unfold natV; rw [List.length_map]; exact hd2), natV_at (List.getElem?_eq_getElem hd2), ?_⟩
      rw [natV_erase]
      refine ⟨natV os, Eq.trans (upd_ne nDl) eD3, ?_, (S3.upd nl).upd nD, ((f2.trans f3).put hla).put hD0, lf.eraseIdx d, os ++ [lf[d]], Eq.trans (upd_ne nDl.symm) upd_same, ?_, ?_, ?_⟩
      · unfold natV
        rw [List.length_map, ol]
        exact small_of (by omega)
      · rw [upd_same]
        unfold natV
        rw [List.map_append]
        rfl
      · rw [List.append_assoc]
        exact (List.Perm.append_left _ (perm_erase (List.getElem?_eq_getElem hd2)).symm).trans pp
      · rw [List.length_append, ol]
        rfl
    · obtain ⟨S2, f2, lf, os, eL, eD, pp, ol⟩ := p
      have hlen : lf = [] := by
        have z := pp.length_eq
        rw [List.length_append, List.length_range, ol] at z
        exact List.eq_nil_of_length_eq_zero (by omega)
      rw [hlen, List.append_nil] at pp
      refine ⟨D, _, rfl, .inl ⟨SqL.of eD, fun o ho => ?_⟩⟩
      refine q _ o (os.map fun j : Nat => (j : Int)) (S2.upd (S2.new ho)) (f2.trans (Frm.of (same_upd ho))) ?_ ?_
      · rw [upd_same, natV_ints]
      · unfold rng
        exact pp.map _

/-! ### _law_is_way -/
theorem scIsWay : FnScope ["_law_first", "_law_second", "_law_value", "_law_many", "_law_order_here", "_law_players", "_law_one"] ["_law_first", "_law_second", "_law_value"] (defScope sIsWay) := ⟨rfl, rfl, rfl, by decide +kernel, rfl, by decide +kernel, by decide +kernel⟩
def spIsWay : Sp := fun vs H Q _ => ∃ (t u : Addr) (v : V) (n : Nat) (b c : Nat → Nat → Bool) (x : Option (Option (Option (List V) × Option (List V)))), vs = [.ref t, .ref u, v] ∧ Tour H t n b ∧ Tour H u n c ∧ 1 ≤ n ∧ n ≤ 8 ∧ ValAt H v x ∧
  ∀ (H' : Hp) (k : Bool), Same H H' → (k = true ↔ Good n b c x) → Q (.bl k) H'
theorem ok_isWay {f fI fS fR fE : Addr} {fd fdI fdS fdR fdE : FuncData} (F : Fun K "_law_is_way" "_law_is_way" sIsWay f fd) (T : Txt mg)
    (GI : FnOk P w K mg base CX0 1 fI fdI ["_law_actual"] spIsInt) (kI : PySem.W.keepIn K (.ref fI) = true) (bI : Binds K fdI ["_law_actual"] []) (gI : mg "_law_is_integer" = some (.ref fI))
    (GE : FnOk P w K mg base CX0 1 fE fdE ["_law_many"] spSets) (kE : PySem.W.keepIn K (.ref fE) = true) (bE : Binds K fdE ["_law_many"] []) (gE : mg "_law_sets" = some (.ref fE))
    (GS : FnOk P w K mg base CX0 2 fS fdS ["_law_tournament_here", "_law_players"] spSw) (kS : PySem.W.keepIn K (.ref fS) = true) (bS : Binds K fdS ["_law_tournament_here", "_law_players"] []) (gS : mg "_law_switched" = some (.ref fS))
    (GR : FnOk P w K mg base CX0 2 fR fdR ["_law_tournament_here", "_law_order_here"] spRen) (kR : PySem.W.keepIn K (.ref fR) = true) (bR : Binds K fdR ["_law_tournament_here", "_law_order_here"] []) (gR : mg "_law_renamed" = some (.ref fR)) :
    FnOk P w K mg base CX0 3 f fd ["_law_first", "_law_second", "_law_value"] spIsWay := by
  refine F.ok scIsWay (fun vs H Q E h => ?_) (fun cdv A outer s0 H vs Q E hr h => ?_)
  · obtain ⟨t, u, v, n, b, c, x, rfl, _⟩ := h
    rfl
  · obtain ⟨t, u, v, n, b, c, x, rfl, hT, hU, hn1, hn8, hv, q⟩ := h
    have hr1 : Room 1 _ := hr.mono (by decide)
    refine ⟨_, pss_cons (ps_set (i := 3) scIsWay.nd rfl (.inl rfl) (pe_callB (lenK K) (by rfl) T.len PySem.boot_len (pa_cons (pv 0) pa_nil)))
      (pss_cons (ps_if (PW.pt (pw_or (pt_not (pt_val (pe_is K "tuple" T.isi T.tuple (pv 2)))) (pw_or1 (pt_cmpR op_ne (pe_callB (lenK K) (by rfl) T.len PySem.boot_len (pa_cons (pv 2) pa_nil)) pe_int (nomark _))))) (pss_one (ps_ret pe_bl)) pss_nil)
      (pss_cons (ps_asg (pv 2) (pg_tup rfl (pgs_cons (pg_name (i := 4) scIsWay.nd rfl (.inl rfl)) (pgs_cons (pg_name (i := 5) scIsWay.nd rfl (.inl rfl)) pgs_nil))))
      (pss_cons (ps_if (PW.pt (pw_or (pt_not (pt_val (pe_is K "tuple" T.isi T.tuple (pv 4)))) (pw_or (pt_not (pt_val (pe_is K "tuple" T.isi T.tuple (pv 5)))) (pw_or1 (pt_not (pt_val (pe_callB (allK K) (by rfl) T.all (by decide +kernel) (pa_cons
          (pe_lc (own := [("_law_one", 6)]) (g := gName 6) (tt := tYes) rfl scIsWay.nd (pi_tup (pe_op (catA K) (pv 4) (pv 5))) (blkOk_by (N := ["_law_first", "_law_second", "_law_value", "_law_many", "_law_order_here", "_law_players", "_law_one"]) (sc := defScope sIsWay) (by decide +kernel)) (fun _ _ _ _ _ => pg_name (i := 6) scIsWay.nd rfl (Or.inl rfl)) (fun _ _ _ _ _ => pts_nil)
            (fun _ _ _ _ _ => pe_call GI hr1 (by rfl) gI kI bI .nil pass0 (pa_cons (pv 6) pa_nil))) pa_nil)))))))) (pss_one (ps_ret pe_bl)) pss_nil)
      (pss_cons (ps_if (PW.pt (pw_or (pt_cmpR (op_neD hr.units) (pe_callB cr_sortedTp (by rfl) T.sorted (by decide +kernel) (pa_cons (pv 4) pa_nil)) (pe_listRg rfl (by rfl) T.list (prg_1 (by rfl) T.range (pv 3))) (nomark _))
          (pw_or1 (pt_cmpR (op_notInD (room65 hr)) (pv 5) (pe_call GE hr1 (by rfl) gE kE bE .nil pass0 (pa_cons (pv 3) pa_nil)) (by rfl))))) (pss_one (ps_ret pe_bl)) pss_nil)
      (pss_one (ps_ret (pe_cmpR (op_eqD hr.units) (pe_call GR hr (by rfl) gR kR bR .nil pass0 (pa_cons (pe_call GS hr (by rfl) gS kS bS .nil pass0 (pa_cons (pv 0) (pa_cons (pv 5) pa_nil))) (pa_cons (pv 4) pa_nil))) (pv 1) (nomark _)))))))), ?_⟩
    have lenT : ∃ ys : List V, (SqL K H t ys ∨ SqT K H t ys) ∧ (ys.length : Int) = n := by
      obtain ⟨rs, g1, g2, _⟩ := id hT
      exact ⟨_, .inr (.inl (.inl g1)), by rw [List.length_map, g2]⟩
    obtain ⟨zs, z1, z2⟩ := lenT
    refine ⟨.ref t, rfl, t, zs, rfl, z1, ?_⟩
    rw [z2]
    have no : ∀ H4 : Hp, Same H H4 → ¬ Good n b c x → Q (.bl false) H4 := fun H4 s4 hg => q _ false s4 ⟨fun z => absurd z (by decide), fun z => absurd z hg⟩
    refine ⟨v, rfl, _, _, _, rfl, hv.isi, _, rfl, ?_⟩
    match x, hv, no with
    | none, hv, no =>
      refine iteT (iteT (no _ (Same.refl _) ?_))
      rintro ⟨os, ks, e, _⟩
      cases e
    | some none, hv, no =>
      obtain ⟨a, xs, rfl, h2, h3⟩ := hv
      refine iteF ⟨.ref a, rfl, a, xs, rfl, (Or.inr (Or.inl (Or.inl h2)) : SqL K H a _ ∨ SqT K H a _), rfl, _, rfl, ?_⟩
      rw [decide_eq_false (show ¬ V.int (xs.length : Int) = V.int 2 from fun z => h3 (by have := V.int.inj z; omega))]
      refine iteT (no _ (Same.refl _) ?_)
      rintro ⟨os, ks, e, _⟩
      cases e
    | some (some (o, p)), hv, no =>
      obtain ⟨a, x1, y1v, rfl, h2, ho, hp⟩ := hv
      have ha : SqT K H a [x1, y1v] := .inl (.inl h2)
      refine iteF ⟨.ref a, rfl, a, _, rfl, .inr ha, rfl, _, rfl, ?_⟩
      refine iteF ?_
      refine ⟨.ref a, rfl, a, _, rfl, ha, rfl, x1, [y1v], rfl, y1v, [], rfl, rfl, ?_⟩
      refine ⟨x1, rfl, _, _, _, rfl, ho.isi, _, rfl, ?_⟩
      match o, ho, no with
      | none, ho, no =>
        refine iteT (iteT (no _ (Same.refl _) ?_))
        rintro ⟨os, ks, e, _⟩
        cases e
      | some os, ⟨ao, ex, ho2, ho3, ho4⟩, no =>
        subst ex
        refine iteF ⟨y1v, rfl, _, _, _, rfl, hp.isi, _, rfl, ?_⟩
        match p, hp, no with
        | none, hp, no =>
          refine iteT (iteT (no _ (Same.refl _) ?_))
          rintro ⟨os, ks, e, _⟩
          cases e
        | some ps, ⟨ap, ex, hp2, hp3, hp4⟩, no =>
          subst ex
          refine iteF ⟨.ref ao, rfl, .ref ap, rfl, catA_any ho2 hp2 (by omega) fun cc H3 s3 eC => ?_⟩
          refine ⟨cc, rfl, ⟨_, (Or.inl (Or.inl eC) : SqT K H3 cc _)⟩, fun D hD => lc_tupM (fun z => V.bl (pureInt z)) (Or.inl (Or.inl eC)) hD (by rw [List.length_append]; omega) (fun _ => rfl) (fun z hz H4 Qv s4 kk => ?_) fun H4 s4 eD => ?_⟩
          · have fz : flat3 z = true := by
              rcases List.mem_append.mp hz with h | h
              · exact ho3 z h
              · exact hp3 z h
            exact ⟨z, rfl, z, rfl, fz, kk H4 (Same.refl _)⟩
          have s4b := s3.trans s4
          have eD2 : H4 D = some (.lst (((os ++ ps).map pureInt).map V.bl)) := by
            rw [eD, List.map_map]
            rfl
          refine ⟨D, _, rfl, (Or.inl (Or.inl eD2) : SqL K H4 D _), _, rfl, ?_⟩
          by_cases hall : ((os ++ ps).map pureInt).all id = true
          · rw [hall]
            obtain ⟨⟨oi, rfl⟩, ⟨ks, rfl⟩⟩ := pure_app.mp hall
            rw [List.length_map] at ho4 hp4
            have hao4 : H4 ao = some (.tup (oi.map V.int)) := s4b _ _ ho2
            refine iteF ⟨.ref ao, rfl, ao, oi, rfl, (Or.inl (Or.inl hao4) : SqT K H4 ao _), by omega, fun ns2 p5 perm5 srt5 hp5 => ?_⟩
            have s5 := s4b.trans (same_upd (o := .lst (ns2.map V.int)) hp5)
            refine ⟨.int n, rfl, n, rfl, ⟨by omega, by omega, by omega, by omega, by omega⟩, fun p6 hp6 => ?_⟩
            have s6 := s5.trans (same_upd (o := .lst (rgV 0 (n : Int))) hp6)
            have n56 : p5 ≠ p6 := fun z => by
              rw [← z, upd_same] at hp6
              cases hp6
            refine ⟨.list (dInts ns2), .list (dInts (rng n)), .lst (.inl (.inl ?_)) (dp_ints ns2), .lst (.inl (.inl ?_)) (dp_ints (rng n)), shaped_list _, shaped_list _, _, rfl, ?_⟩
            · exact Eq.trans (upd_ne n56) upd_same
            · rw [upd_same, rgV_rng]
            rw [eqv_lists]
            by_cases hs : ns2 = rng n
            · rw [decide_eq_true hs]
              have permO : oi.Perm (rng n) := (sorted_is perm5 srt5).mp hs
              refine iteF ⟨.ref ap, rfl, .int n, rfl, n, rfl, hn8, fun H7 fs L s7 _ tL mL _ => ?_⟩
              obtain ⟨eL, eT⟩ := tL
              have s7b := s6.trans s7
              have hap7 : H7 ap = some (.tup (ks.map V.int)) := s7b _ _ hp2
              refine ⟨.tuple (dInts ks), dTups L, .tup (.inl (.inl hap7)) (dp_ints ks), .lst (.inl (.inl eL)) (dp_tups L eT), shaped_tup _, shaped_tups L, _, rfl, ?_⟩
              by_cases hk : Asc n ks
              · rw [(any_tups L ks).mpr ((mL ks).mpr hk)]
                refine iteF ⟨.ref t, rfl, .ref ap, rfl, t, ap, n, b, ks, rfl, hT.same s7b, hn8, hap7, fun H8 t1 s8 ht1 => ?_⟩
                have hao8 : H8 ao = some (.tup (oi.map V.int)) := s8 _ _ (s7b _ _ ho2)
                refine ⟨.ref ao, rfl, t1, ao, n, _, oi, rfl, ht1, hn8, hao8, perm_len permO, fun H9 t2 s9 ht2 => ?_⟩
                have s9b := (s7b.trans s8).trans s9
                refine ⟨.ref u, rfl, _, _, ht2.dp, (hU.same s9b).dp, shaped_dT _ _, shaped_dT _ _, q H9 _ s9b ?_⟩
                constructor
                · intro he
                  exact ⟨oi, ks, rfl, permO, hk, he⟩
                · rintro ⟨oj, kj, e, _, _, he⟩
                  have e2 := Prod.mk.inj (Option.some.inj (Option.some.inj e))
                  have e3 := map_int_inj (Option.some.inj e2.1)
                  have e4 := map_int_inj (Option.some.inj e2.2)
                  rw [e3, e4]
                  exact he
              · have hf : ((dTups L).any fun z => PyData.eqv z (.tuple (dInts ks))) = false := by
                  cases hh : (dTups L).any fun z => PyData.eqv z (.tuple (dInts ks)) with
                  | true => exact absurd ((mL ks).mp ((any_tups L ks).mp hh)) hk
                  | false => rfl
                rw [hf]
                refine iteT (no _ s7b ?_)
                rintro ⟨oj, kj, e, _, h5, _⟩
                have e4 := map_int_inj (Option.some.inj (Prod.mk.inj (Option.some.inj (Option.some.inj e))).2)
                rw [e4] at hk
                exact hk h5
            · rw [decide_eq_false hs]
              refine iteT (iteT (no _ s6 ?_))
              rintro ⟨oj, kj, e, hp7, _⟩
              have e3 := map_int_inj (Option.some.inj (Prod.mk.inj (Option.some.inj (Option.some.inj e))).1)
              subst e3
              exact hs ((sorted_is perm5 srt5).mpr hp7)
          · have hf : ((os ++ ps).map pureInt).all id = false := by simpa using hall
            rw [hf]
            refine iteT (no _ s4b ?_)
            rintro ⟨oj, kj, e, _⟩
            have e2 := Prod.mk.inj (Option.some.inj (Option.some.inj e))
            exact hall (pure_app.mpr ⟨⟨oj, Option.some.inj e2.1⟩, ⟨kj, Option.some.inj e2.2⟩⟩)
end
end RB

/-! RbEv: expressions by what their value is, over a stream that may be drawn from. -/
namespace RB
open PySem PySem.Spec PySem.W PyProof.Rows L2

/-- te gives a value of which ok is true; the stream at st may have been drawn from -/
def Ev (st l : Addr) (ok : Hp → V → Prop) (te : TE) (σ : L2.St) (H0 : Hp) : Prop := ∀ H, Frm st H0 H → StAt H st l → ∀ Q : VK, (∀ v H', Frm st H H' → StAt H' st l → ok H' v → Q v H') → te σ H Q
def EvL (st l : Addr) (ok : Hp → V → Prop) (n : Nat) (ta : TA) (σ : L2.St) (H0 : Hp) : Prop := ∀ H, Frm st H0 H → StAt H st l → ∀ Q : List V → Hp → Prop, (∀ vs H', Frm st H H' → StAt H' st l → vs.length = n → (∀ v ∈ vs, ok H' v) → Q vs H') → ta σ H Q
/-- a flat tuple of at most B things -/
def TupOk (B : Nat) (H : Hp) (v : V) : Prop := ∃ a xs, v = .ref a ∧ H a = some (.tup xs) ∧ (∀ x ∈ xs, flat3 x = true) ∧ xs.length ≤ B
def ItOk (H : Hp) (v : V) : Prop := ∃ p, ItemAt H v p
def VOk (H : Hp) (v : V) : Prop := ∃ x, ValAt H v x
/-- a list of n judged values, not the stream -/
def LstOk (st : Addr) (n : Nat) (H : Hp) (v : V) : Prop := ∃ a vs, v = .ref a ∧ H a = some (.lst vs) ∧ vs.length = n ∧ (∀ x ∈ vs, VOk H x) ∧ a ≠ st

theorem TupOk.it {B : Nat} {H : Hp} {v : V} (h : TupOk B H v) (hB : B ≤ 20) : ItOk H v := by
  obtain ⟨a, xs, e, h1, h2, h3⟩ := h
  exact ⟨some xs, a, e, h1, h2, by omega⟩
section
variable {st l : Addr} {H H' : Hp} {v : V}
theorem lst_frm (S' : StAt H' st l) (f : Frm st H H') {a : Addr} {xs : List V} (h : H a = some (.lst xs)) : ∃ ys, H' a = some (.lst ys) := by
  by_cases e : a = st
  · subst e
    obtain ⟨ns, c, k, e1, _⟩ := S'
    exact ⟨_, e1⟩
  · exact ⟨xs, f _ _ h e⟩
theorem TupOk.frm {B : Nat} (S : StAt H st l) (f : Frm st H H') (h : TupOk B H v) : TupOk B H' v := by
  obtain ⟨a, xs, e, h1, h2, h3⟩ := h
  exact ⟨a, xs, e, f.tup S h1, h2, h3⟩
theorem item_frm (S : StAt H st l) (S' : StAt H' st l) (f : Frm st H H') {p : Option (List V)} (h : ItemAt H v p) : ItemAt H' v p := by
  cases p with
  | none =>
    rcases h with h | ⟨a, xs, h1, h2⟩
    · exact .inl h
    · obtain ⟨ys, e⟩ := lst_frm S' f h2
      exact .inr ⟨a, ys, h1, e⟩
  | some xs =>
    obtain ⟨a, h1, h2, h3⟩ := h
    exact ⟨a, h1, f.tup S h2, h3⟩
theorem ItOk.frm (S : StAt H st l) (S' : StAt H' st l) (f : Frm st H H') (h : ItOk H v) : ItOk H' v := by
  obtain ⟨p, h⟩ := h
  exact ⟨p, item_frm S S' f h⟩
theorem VOk.frm (S : StAt H st l) (S' : StAt H' st l) (f : Frm st H H') (h : VOk H v) : VOk H' v := by
  obtain ⟨x, h⟩ := h
  refine ⟨x, ?_⟩
  match x, h with
  | none, .inl h => exact .inl h
  | none, .inr ⟨a, xs, h1, h2⟩ =>
    obtain ⟨ys, e⟩ := lst_frm S' f h2
    exact .inr ⟨a, ys, h1, e⟩
  | some none, ⟨a, xs, h1, h2, h3⟩ => exact ⟨a, xs, h1, f.tup S h2, h3⟩
  | some (some (o, p)), ⟨a, x, y, h1, h2, h3, h4⟩ => exact ⟨a, x, y, h1, f.tup S h2, item_frm S S' f h3, item_frm S S' f h4⟩
theorem LstOk.frm {n : Nat} (S : StAt H st l) (S' : StAt H' st l) (f : Frm st H H') (h : LstOk st n H v) : LstOk st n H' v := by
  obtain ⟨a, vs, e, h1, h2, h3, h4⟩ := h
  exact ⟨a, vs, e, f _ _ h1 h4, h2, fun x hx => (h3 x hx).frm S S' f, h4⟩
end
section
variable {st l : Addr} {σ : L2.St} {H0 : Hp} {K : PySem.W.Frag} {te ta tb : TE} {ok : Hp → V → Prop} {A B : Nat}
theorem Ev.mono {ok2 : Hp → V → Prop} (h : Ev st l ok te σ H0) (hi : ∀ H v, ok H v → ok2 H v) : Ev st l ok2 te σ H0 := fun H f S Q k => h H f S Q fun v H2 f2 S2 o => k v H2 f2 S2 (hi H2 v o)
theorem Ev.it (h : Ev st l (TupOk B) te σ H0) (hB : B ≤ 20 := by decide) : Ev st l ItOk te σ H0 := h.mono fun _ _ o => o.it hB
theorem ev_non : Ev st l ItOk (tC .non) σ H0 := fun H f S Q k => k .non H (Frm.refl st H) S ⟨none, .inl rfl⟩
theorem ev_nonV : Ev st l VOk (tC .non) σ H0 := fun H f S Q k => k .non H (Frm.refl st H) S ⟨none, .inl rfl⟩
/-- () -/
theorem ev_tup0 : Ev st l (TupOk 0) (tTup tNil) σ H0 := fun H f S Q k => ⟨Nat.zero_le _, fun p hp => k _ _ (Frm.of (same_upd hp)) (S.same (same_upd hp)) ⟨p, [], rfl, upd_same, fun x hx => (nomatch hx), Nat.le_refl _⟩⟩
/-- (x,), x a constant or a name's value -/
theorem ev_tup1 {x : V} (hx : flat3 x = true) (h : ∀ H Q, Q x H → te σ H Q) : Ev st l (TupOk 1) (tTup (tCons te tNil)) σ H0 := fun H f S Q k => by
  refine h H _ ⟨by show 1 ≤ sizeLine; decide, fun p hp => k _ _ (Frm.of (same_upd hp)) (S.same (same_upd hp)) ⟨p, [x], rfl, upd_same, fun y hy => ?_, Nat.le_refl _⟩⟩
  have e : y = x := by simpa using hy
  rw [e]
  exact hx
theorem ev_tup2 {x y : V} (hx : flat3 x = true) (hy : flat3 y = true) : Ev st l (TupOk 2) (tTup (tCons (tC x) (tCons (tC y) tNil))) σ H0 := fun H f S Q k => by
  refine ⟨by show 2 ≤ sizeLine; decide, fun p hp => k _ _ (Frm.of (same_upd hp)) (S.same (same_upd hp)) ⟨p, [x, y], rfl, upd_same, fun z hz => ?_, Nat.le_refl _⟩⟩
  rcases List.mem_cons.mp hz with rfl | hz
  · exact hx
  · have e : z = y := by simpa using hz
    rw [e]
    exact hy
/-- a name that holds a tuple -/
theorem ev_varT {i : Nat} {v : V} (S0 : StAt H0 st l) (hi : σ[i]? = some (some v)) (h : TupOk B H0 v) : Ev st l (TupOk B) (tVar i) σ H0 := fun H f S Q k => ⟨v, hi, k v H (Frm.refl st H) S (h.frm S0 f)⟩
/-- an item of a tuple that a name holds -/
theorem ev_ix {i j : Nat} {w : Addr} {xs : List V} {v : V} (S0 : StAt H0 st l) (hi : σ[i]? = some (some (.ref w))) (hw : H0 w = some (.tup xs)) (hj : xs[j]? = some v) (h : TupOk B H0 v) : Ev st l (TupOk B) (tOp (rIxT K) (tVar i) (tC (.int (j : Int)))) σ H0 := fun H f S Q k =>
  ⟨.ref w, hi, w, xs, (j : Int), v, rfl, rfl, .inl (.inl (f.tup S0 hw)), atI_nat hj, k v H (Frm.refl st H) S (h.frm S0 f)⟩
theorem ev_cat (ha : Ev st l (TupOk A) ta σ H0) (hb : Ev st l (TupOk B) tb σ H0) (hz : A + B ≤ 1000 := by decide) : Ev st l (TupOk (A + B)) (tOp (rCatA K) ta tb) σ H0 := fun H f S Q k =>
  ha H f S _ fun x H1 f1 S1 o1 => hb H1 (f.trans f1) S1 _ fun y H2 f2 S2 o2 => by
    obtain ⟨a, xs, rfl, a1, a2, a3⟩ := o1.frm S1 f2
    obtain ⟨b, ys, rfl, b1, b2, b3⟩ := o2
    refine catA_any a1 b1 (by omega) fun c H3 s3 e3 => k _ H3 ((f1.trans f2).trans (Frm.of s3)) (S2.same s3) ⟨c, xs ++ ys, rfl, e3, fun z hz => ?_, ?_⟩
    · rcases List.mem_append.mp hz with h | h
      · exact a2 z h
      · exact b2 z h
    · rw [List.length_append]
      omega
theorem ev_rev (ha : Ev st l (TupOk A) ta σ H0) : Ev st l (TupOk A) (tRevT K ta) σ H0 := fun H f S Q k =>
  ha H f S _ fun x H1 f1 S1 o1 => by
    obtain ⟨a, xs, rfl, a1, a2, a3⟩ := o1
    refine ⟨a, xs, rfl, .inl (.inl a1), fun p hp => k _ _ (f1.trans (Frm.of (same_upd hp))) (S1.same (same_upd hp)) ⟨p, xs.reverse, rfl, upd_same, fun z hz => a2 z (List.mem_reverse.mp hz), by rw [List.length_reverse]; exact a3⟩⟩
/-- t[1:] -/
theorem ev_tail (ha : Ev st l (TupOk A) ta σ H0) : Ev st l (TupOk A) (tSl (rSlA K) ta (tPart (tC (.int 1))) tNoPart) σ H0 := fun H f S Q k =>
  ha H f S _ fun x H1 f1 S1 o1 => by
    obtain ⟨a, xs, rfl, a1, a2, a3⟩ := o1
    refine ⟨1, rfl, a, xs, rfl, .inl (.inl a1), fun _ => k _ _ f1 S1 ⟨a, xs, rfl, a1, a2, a3⟩, fun _ p hp => k _ _ (f1.trans (Frm.of (same_upd hp))) (S1.same (same_upd hp)) ⟨p, _, rfl, upd_same, fun z hz => ?_, ?_⟩⟩
    · unfold cutV at hz
      exact a2 z (List.mem_of_mem_drop (List.mem_of_mem_take hz))
    · exact Nat.le_trans (cutV_length xs (some 1) none) a3
/-- list(t) -/
theorem ev_list (ha : Ev st l (TupOk A) ta σ H0) : Ev st l ItOk (tCB (fun xs H Q => ∃ p ys, xs = [.ref p] ∧ (SqL K H p ys ∨ SqT K H p ys) ∧ ∀ l, H l = none → Q (.ref l) (upd H l (.lst ys))) (tCons ta tNil)) σ H0 := fun H f S Q k =>
  ha H f S _ fun x H1 f1 S1 o1 => by
    obtain ⟨a, xs, rfl, a1, a2, a3⟩ := o1
    exact ⟨a, xs, rfl, .inr (.inl (.inl a1)), fun p hp => k _ _ (f1.trans (Frm.of (same_upd hp))) (S1.same (same_upd hp)) ⟨none, .inr ⟨p, xs, rfl, upd_same⟩⟩⟩
/-- (x, y) -/
theorem ev_pair (ha : Ev st l ItOk ta σ H0) (hb : Ev st l ItOk tb σ H0) : Ev st l VOk (tTup (tCons ta (tCons tb tNil))) σ H0 := fun H f S Q k =>
  ha H f S _ fun x H1 f1 S1 o1 => hb H1 (f.trans f1) S1 _ fun y H2 f2 S2 o2 => by
    obtain ⟨p1, i1⟩ := o1.frm S1 S2 f2
    obtain ⟨p2, i2⟩ := o2
    refine ⟨by show 2 ≤ sizeLine; decide, fun p hp => k _ _ ((f1.trans f2).trans (Frm.of (same_upd hp))) (S2.same (same_upd hp)) ⟨some (some (p1, p2)), p, x, y, rfl, upd_same, i1.same (same_upd hp), i2.same (same_upd hp)⟩⟩
theorem evl_nil : EvL st l ok 0 tNil σ H0 := fun H f S Q k => k [] H (Frm.refl st H) S rfl fun v hv => (nomatch hv)
theorem evl_cons {n : Nat} {ts : TA} (ha : Ev st l VOk ta σ H0) (hb : EvL st l VOk n ts σ H0) : EvL st l VOk (n + 1) (tCons ta ts) σ H0 := fun H f S Q k =>
  ha H f S _ fun x H1 f1 S1 o1 => hb H1 (f.trans f1) S1 _ fun vs H2 f2 S2 hl o2 => k _ H2 (f1.trans f2) S2 (by rw [List.length_cons, hl]) fun v hv => by
    rcases List.mem_cons.mp hv with rfl | hv
    · exact o1.frm S1 S2 f2
    · exact o2 v hv
theorem ev_lst {n : Nat} {ts : TA} (h : EvL st l VOk n ts σ H0) (hn : n ≤ 100 := by decide) : Ev st l (LstOk st n) (tLst ts) σ H0 := fun H f S Q k =>
  h H f S _ fun vs H1 f1 S1 hl o1 => ⟨Nat.le_of_lt (small_of (by omega)), fun p hp => k _ _ (f1.trans (Frm.of (same_upd hp))) (S1.same (same_upd hp)) ⟨p, vs, rfl, upd_same, hl, fun v hv => (o1 v hv).frm S1 (S1.same (same_upd hp)) (Frm.of (same_upd hp)), (S1.new hp).1⟩⟩
theorem ev_varL {n i : Nat} {v : V} (S0 : StAt H0 st l) (hi : σ[i]? = some (some v)) (h : LstOk st n H0 v) : Ev st l (LstOk st n) (tVar i) σ H0 := fun H f S Q k => ⟨v, hi, k v H (Frm.refl st H) S (h.frm S0 S f)⟩
/-- xs + ys, two lists -/
theorem ev_catL {n m : Nat} (ha : Ev st l (LstOk st n) ta σ H0) (hb : Ev st l (LstOk st m) tb σ H0) (hz : n + m ≤ 100 := by decide) : Ev st l (LstOk st (n + m)) (tOp rCat ta tb) σ H0 := fun H f S Q k =>
  ha H f S _ fun x H1 f1 S1 o1 => hb H1 (f.trans f1) S1 _ fun y H2 f2 S2 o2 => by
    obtain ⟨a, xs, rfl, a1, a2, a3, a4⟩ := o1.frm S1 S2 f2
    obtain ⟨b, ys, rfl, b1, b2, b3, b4⟩ := o2
    refine ⟨a, b, xs, ys, rfl, rfl, a1, b1, Nat.le_of_lt (small_of (by omega)), fun p hp => k _ _ ((f1.trans f2).trans (Frm.of (same_upd hp))) (S2.same (same_upd hp)) ⟨p, xs ++ ys, rfl, upd_same, by rw [List.length_append, a2, b2], fun v hv => ?_, (S2.new hp).1⟩⟩
    rcases List.mem_append.mp hv with h | h
    · exact (a3 v h).frm S2 (S2.same (same_upd hp)) (Frm.of (same_upd hp))
    · exact (b3 v h).frm S2 (S2.same (same_upd hp)) (Frm.of (same_upd hp))
/-- xs[a draw] -/
theorem ev_pick {n : Nat} {ts : TE} (ha : Ev st l (LstOk st n) ta σ H0) (hb : Ev st l (fun _ v => ∃ d : Nat, v = .int (d : Int) ∧ d < n) ts σ H0) : Ev st l VOk (tOp (rIxL K) ta ts) σ H0 := fun H f S Q k =>
  ha H f S _ fun x H1 f1 S1 o1 => hb H1 (f.trans f1) S1 _ fun y H2 f2 S2 o2 => by
    obtain ⟨a, xs, rfl, a1, a2, a3, a4⟩ := o1.frm S1 S2 f2
    obtain ⟨d, rfl, hd⟩ := o2
    have hlt : d < xs.length := by omega
    exact ⟨a, xs, (d : Int), xs[d], rfl, rfl, SqL.of a1, atI_nat (List.getElem?_eq_getElem hlt), k _ H2 (f1.trans f2) S2 (a3 _ (List.getElem_mem hlt))⟩
/-- a draw -/
theorem ev_draw {n : Nat} (hi : σ[1]? = some (some (.ref st))) (h0 : 0 < n) (h1 : n < 1000) : Ev st l (fun _ v => ∃ d : Nat, v = .int (d : Int) ∧ d < n) (tCall spNext [] E0 (tCons (tVar 1) (tCons (tC (.int (n : Int))) tNil))) σ H0 := fun H f S Q k =>
  ⟨.ref st, hi, st, l, (n : Int), rfl, S, by omega, by omega, fun H2 d S2 f2 hd => k _ H2 f2 S2 ⟨d, rfl, by omega⟩⟩
/-- an order -/
theorem ev_order {n : Nat} (hi : σ[1]? = some (some (.ref st))) (h2 : σ[2]? = some (some (.int (n : Int)))) (hn : n ≤ 8) : Ev st l (TupOk 8) (tCall spOrder [] E0 (tCons (tVar 1) (tCons (tVar 2) tNil))) σ H0 := fun H f S Q k =>
  ⟨.ref st, hi, .int n, h2, st, l, n, rfl, S, hn, fun H2 o os S2 f2 ho hp => k _ H2 f2 S2 ⟨o, _, rfl, ho, fun x hx => flat3_ints hx, by rw [List.length_map, perm_len hp]; exact hn⟩⟩
/-- (0,) * many -/
theorem ev_times {n : Nat} (h2 : σ[2]? = some (some (.int (n : Int)))) (h1 : 1 ≤ n) (hn : n ≤ 8) : Ev st l (TupOk 8) (tOp (fun x y H Q => rRep1 K x y H Q ∨ rRepT K x y H Q) (tTup (tCons (tC (.int 0)) tNil)) (tVar 2)) σ H0 := fun H f S Q k => by
  refine ⟨by show 1 ≤ sizeLine; decide, fun p hp => ⟨.int n, h2, ?_⟩⟩
  have s1 : Same H (upd H p (.tup [.int 0])) := same_upd hp
  by_cases e : n = 1
  · subst e
    refine .inl ⟨p, [.int 0], rfl, rfl, .inl (.inl upd_same), k _ _ (Frm.of s1) (S.same s1) ⟨p, [.int 0], rfl, upd_same, fun x hx => ?_, by show 1 ≤ 8; decide⟩⟩
    have ex : x = .int 0 := by simpa using hx
    rw [ex]
    rfl
  · refine .inr ⟨p, (n : Int), [.int 0], rfl, rfl, .inl (.inl upd_same), by simp, by omega, by omega, by show 1 ≤ 1000; decide, fun p2 hp2 => ?_⟩
    have s2 := s1.trans (same_upd (o := .tup (List.replicate (n : Int).toNat [V.int 0]).flatten) hp2)
    refine k _ _ (Frm.of s2) (S.same s2) ⟨p2, _, rfl, upd_same, fun x hx => ?_, ?_⟩
    · obtain ⟨ys, hy, hx2⟩ := List.mem_flatten.mp hx
      have e1 := List.eq_of_mem_replicate hy
      subst e1
      have ex : x = .int 0 := by simpa using hx2
      rw [ex]
      rfl
    · rw [PyProof.Rows.lm_len_rep_flat]
      show (n : Int).toNat * 1 ≤ 8
      omega
/-! the way itself, as a value -/
theorem ev_way {i : Nat} {w : Addr} {x y : V} (S0 : StAt H0 st l) (hi : σ[i]? = some (some (.ref w))) (hw : H0 w = some (.tup [x, y])) (hx : ItOk H0 x) (hy : ItOk H0 y) : Ev st l VOk (tVar i) σ H0 := fun H f S Q k => by
  obtain ⟨p1, i1⟩ := hx.frm S0 S f
  obtain ⟨p2, i2⟩ := hy.frm S0 S f
  exact ⟨.ref w, hi, k _ H (Frm.refl st H) S ⟨some (some (p1, p2)), w, x, y, rfl, f.tup S0 hw, i1, i2⟩⟩
/-- list(way) -/
theorem ev_wayL {i : Nat} {w : Addr} {xs : List V} (S0 : StAt H0 st l) (hi : σ[i]? = some (some (.ref w))) (hw : H0 w = some (.tup xs)) :
    Ev st l VOk (tCB (fun xs H Q => ∃ p ys, xs = [.ref p] ∧ (SqL K H p ys ∨ SqT K H p ys) ∧ ∀ l, H l = none → Q (.ref l) (upd H l (.lst ys))) (tCons (tVar i) tNil)) σ H0 := fun H f S Q k =>
  ⟨.ref w, hi, w, xs, rfl, .inr (.inl (.inl (f.tup S0 hw))), fun p hp => k _ _ (Frm.of (same_upd hp)) (S.same (same_upd hp)) ⟨none, .inr ⟨p, xs, rfl, upd_same⟩⟩⟩
/-- way[:1] -/
theorem ev_wayS {i : Nat} {w : Addr} {x y : V} (S0 : StAt H0 st l) (hi : σ[i]? = some (some (.ref w))) (hw : H0 w = some (.tup [x, y])) : Ev st l VOk (tSl (rSlA K) (tVar i) tNoPart (tPart (tC (.int 1)))) σ H0 := fun H f S Q k =>
  ⟨.ref w, hi, 1, rfl, w, [x, y], rfl, .inl (.inl (f.tup S0 hw)), fun e => absurd e.2 (show ¬ HT.sIx 2 2 (some 1) = 2 by decide), fun _ p hp => k _ _ (Frm.of (same_upd hp)) (S.same (same_upd hp)) ⟨some none, p, _, rfl, upd_same, by rw [show cutV [x, y] none (some 1) = [x] from rfl]; simp⟩⟩
/-- way + (0,) -/
theorem ev_wayC {i : Nat} {w : Addr} {x y : V} (S0 : StAt H0 st l) (hi : σ[i]? = some (some (.ref w))) (hw : H0 w = some (.tup [x, y])) (hb : Ev st l (fun H v => ∃ a z, v = .ref a ∧ H a = some (.tup [z])) tb σ H0) : Ev st l VOk (tOp (rCatA K) (tVar i) tb) σ H0 := fun H f S Q k =>
  ⟨.ref w, hi, hb H f S _ fun v H2 f2 S2 o2 => by
    obtain ⟨b, z, rfl, b1⟩ := o2
    exact catA_any ((f.trans f2).tup S0 hw) b1 (by show 2 + 1 ≤ 1000; decide) fun c H3 s3 e3 => k _ H3 (f2.trans (Frm.of s3)) (S2.same s3) ⟨some none, c, _, rfl, e3, by show 3 ≠ 2; decide⟩⟩
/-- way[::-1] -/
theorem ev_wayR {i : Nat} {w : Addr} {x y : V} (S0 : StAt H0 st l) (hi : σ[i]? = some (some (.ref w))) (hw : H0 w = some (.tup [x, y])) (hx : ItOk H0 x) (hy : ItOk H0 y) : Ev st l VOk (tRevT K (tVar i)) σ H0 := fun H f S Q k => by
  refine ⟨.ref w, hi, w, [x, y], rfl, .inl (.inl (f.tup S0 hw)), fun p hp => ?_⟩
  have S1 := S.same (same_upd (o := .tup [x, y].reverse) hp)
  have f1 : Frm st H (upd H p (.tup [x, y].reverse)) := Frm.of (same_upd hp)
  obtain ⟨p1, i1⟩ := hx.frm S0 S1 (f.trans f1)
  obtain ⟨p2, i2⟩ := hy.frm S0 S1 (f.trans f1)
  exact k _ _ f1 S1 ⟨some (some (p2, p1)), p, y, x, rfl, upd_same, i2, i1⟩
theorem ev_one {x : V} : Ev st l (fun H v => ∃ a z, v = .ref a ∧ H a = some (.tup [z])) (tTup (tCons (tC x) tNil)) σ H0 := fun H f S Q k => ⟨by show 1 ≤ sizeLine; decide, fun p hp => k _ _ (Frm.of (same_upd hp)) (S.same (same_upd hp)) ⟨p, x, rfl, upd_same⟩⟩
end
end RB

/-! RbLaw: the law. -/
namespace RB
open PySem PySem.Spec PySem.W PyProof.Rows L2

section
variable {P : Program} {w : World} {K : PySem.W.Frag} {mg : Str → Option Value} {base : Heap}
abbrev NL : List Str := ["_law_script", "_law_stream_here", "_law_many", "_law_first", "_law_sets_here", "_law_way", "_law_second", "_law_others", "_law_values", "_law_odd", "_law_value", "_law_player"]
theorem scLaw : FnScope NL ["_law_script"] (defScope sLaw) := ⟨rfl, rfl, rfl, by decide +kernel, rfl, by decide +kernel, by decide +kernel⟩
def spLaw (K : PySem.W.Frag) : Sp := fun vs H Q _ => ∃ (a : Addr) (ns : List Int), vs = [.ref a] ∧ SqL K H a (ns.map V.int) ∧ ns.length ≤ 63 ∧ ∀ H', Q (.bl true) H'
theorem st_name {i : Nat} {te : TE} {g : TG} {u : TS} {D D2 : Ends} {x : V} {σ : L2.St} {H : Hp} (h : te (σ.set i (some x)) H fun y H1 => g y (σ.set i (some x)) H1 ({ D with nx := u D } : Ends).nx) : gName i x σ H ({ D2 with nx := tSeq (tAsg te g) u D } : Ends).nx := h
theorem ok_law {f fM fN fT fE fO fS fR fQ fA fW : Addr} {fd fdM fdN fdT fdE fdO fdS fdR fdQ fdA fdW : FuncData} (F : Fun K "law" "law" sLaw f fd) (T : Txt mg)
    (GM : FnOk P w K mg base CX0 1 fM fdM ["_law_script"] (spStream K)) (kM : PySem.W.keepIn K (.ref fM) = true) (bM : Binds K fdM ["_law_script"] []) (gM : mg "_law_stream" = some (.ref fM))
    (GN : FnOk P w K mg base CX0 1 fN fdN ["_law_stream_here", "_law_many"] spNext) (kN : PySem.W.keepIn K (.ref fN) = true) (bN : Binds K fdN ["_law_stream_here", "_law_many"] []) (gN : mg "_law_next" = some (.ref fN))
    (GT : FnOk P w K mg base CX0 3 fT fdT ["_law_stream_here", "_law_many"] spAnyT) (kT : PySem.W.keepIn K (.ref fT) = true) (bT : Binds K fdT ["_law_stream_here", "_law_many"] []) (gT : mg "_law_tournament" = some (.ref fT))
    (GE : FnOk P w K mg base CX0 1 fE fdE ["_law_many"] spSets) (kE : PySem.W.keepIn K (.ref fE) = true) (bE : Binds K fdE ["_law_many"] []) (gE : mg "_law_sets" = some (.ref fE))
    (GO : FnOk P w K mg base CX0 2 fO fdO ["_law_stream_here", "_law_many"] spOrder) (kO : PySem.W.keepIn K (.ref fO) = true) (bO : Binds K fdO ["_law_stream_here", "_law_many"] []) (gO : mg "_law_order" = some (.ref fO))
    (GS : FnOk P w K mg base CX0 2 fS fdS ["_law_tournament_here", "_law_players"] spSw) (kS : PySem.W.keepIn K (.ref fS) = true) (bS : Binds K fdS ["_law_tournament_here", "_law_players"] []) (gS : mg "_law_switched" = some (.ref fS))
    (GR : FnOk P w K mg base CX0 2 fR fdR ["_law_tournament_here", "_law_order_here"] spRen) (kR : PySem.W.keepIn K (.ref fR) = true) (bR : Binds K fdR ["_law_tournament_here", "_law_order_here"] []) (gR : mg "_law_renamed" = some (.ref fR))
    (GQ : FnOk P w K mg base CX0 1 fQ fdQ ["_law_actual", "_law_due"] spEqual) (kQ : PySem.W.keepIn K (.ref fQ) = true) (bQ : Binds K fdQ ["_law_actual", "_law_due"] []) (gQ : mg "_law_equal" = some (.ref fQ))
    (GA : FnOk P w K mg base CX0 5 fA fdA ["tournament", "other", "value"] spAccept) (kA : PySem.W.keepIn K (.ref fA) = true) (bA : Binds K fdA ["tournament", "other", "value"] []) (gA : mg "accepts_way" = some (.ref fA))
    (GW : FnOk P w K mg base CX0 3 fW fdW ["_law_first", "_law_second", "_law_value"] spIsWay) (kW : PySem.W.keepIn K (.ref fW) = true) (bW : Binds K fdW ["_law_first", "_law_second", "_law_value"] []) (gW : mg "_law_is_way" = some (.ref fW)) :
    FnOk P w K mg base CX0 6 f fd ["_law_script"] (spLaw K) := by
  refine F.ok scLaw (fun vs H Q E h => ?_) (fun cdv A outer s0 H vs Q E hr h => ?_)
  · obtain ⟨a, ns, rfl, _⟩ := h
    rfl
  · obtain ⟨a, ns, rfl, hS, hlen, q⟩ := h
    have hr1 : Room 1 _ := hr.mono (by decide)
    have hr2 : Room 2 _ := hr.mono (by decide)
    have hr3 : Room 3 _ := hr.mono (by decide)
    refine ⟨_, pss_cons (ps_set (i := 1) scLaw.nd rfl (.inl rfl) (pe_call GM hr1 (by rfl) gM kM bM .nil pass0 (pa_cons (pv 0) pa_nil)))
      (pss_cons (ps_set (i := 2) scLaw.nd rfl (.inl rfl) (pe_op op_add pe_int (pe_call GN hr1 (by rfl) gN kN bN .nil pass0 (pa_cons (pv 1) (pa_cons pe_int pa_nil)))))
      (pss_cons (ps_set (i := 3) scLaw.nd rfl (.inl rfl) (pe_call GT hr3 (by rfl) gT kT bT .nil pass0 (pa_cons (pv 1) (pa_cons (pv 2) pa_nil))))
      (pss_cons (ps_set (i := 4) scLaw.nd rfl (.inl rfl) (pe_call GE hr1 (by rfl) gE kE bE .nil pass0 (pa_cons (pv 2) pa_nil)))
      (pss_cons (ps_set (i := 5) scLaw.nd rfl (.inr rfl) (pe_tup (pa_cons (pe_call GO hr2 (by rfl) gO kO bO .nil pass0 (pa_cons (pv 1) (pa_cons (pv 2) pa_nil)))
        (pa_cons (pe_ix (ixL K) (pv 4) (pe_call GN hr1 (by rfl) gN kN bN .nil pass0 (pa_cons (pv 1) (pa_cons (pe_callB (lenK K) (by rfl) T.len PySem.boot_len (pa_cons (pv 4) pa_nil)) pa_nil))) (fun _ _ => rfl)) pa_nil))))
      (pss_cons (ps_set (i := 6) scLaw.nd rfl (.inl rfl) (pe_call GR hr2 (by rfl) gR kR bR .nil pass0 (pa_cons (pe_call GS hr2 (by rfl) gS kS bS .nil pass0 (pa_cons (pv 3) (pa_cons (pe_ix (ixT K) (pv 5) pe_int (fun _ _ => rfl)) pa_nil))) (pa_cons (pe_ix (ixT K) (pv 5) pe_int (fun _ _ => rfl)) pa_nil))))
      (C8.pss_cut (ps_if (pt_cmpR op_eq (pe_call GN hr1 (by rfl) gN kN bN .nil pass0 (pa_cons (pv 1) (pa_cons pe_int pa_nil))) pe_int (nomark _)) (pss_one (ps_set (i := 6) scLaw.nd rfl (.inl rfl) (pe_call GT hr3 (by rfl) gT kT bT .nil pass0 (pa_cons (pv 1) (pa_cons (pv 2) pa_nil))))) pss_nil)
      (pss_cons (ps_set (i := 7) scLaw.nd rfl (.inl rfl) (pe_callTy (tupK K) (by rfl) T.tuple (by decide +kernel) (pa_cons
        (pe_lc (own := [("_law_player", 11)]) (g := gName 11) rfl scLaw.nd (pi_range1 (by rfl) T.range (pa_cons (pv 2) pa_nil)) (blkOk_by (N := NL) (sc := defScope sLaw) (by decide +kernel)) (fun _ _ _ _ _ => pg_name (i := 11) scLaw.nd rfl (Or.inl rfl))
          (fun _ _ _ _ _ => pts_one (pt_cmpR (notInS K) (pv 11) (pe_ix (ixT K) (pv 5) pe_int (fun _ _ => rfl)) (by rfl))) (fun _ _ _ _ _ => pv 11)) pa_nil)))
      (pss_cons (ps_set (i := 8) scLaw.nd rfl (.inl rfl) (pe_lst (pa_cons (pv 5) (pa_cons (pe_tup (pa_cons (pe_ix (ixT K) (pv 5) pe_int (fun _ _ => rfl)) (pa_cons (pv 7) pa_nil)))
        (pa_cons (pe_tup (pa_cons (pe_ix (ixT K) (pv 5) pe_int (fun _ _ => rfl)) (pa_cons (pe_tup pa_nil) pa_nil)))
        (pa_cons (pe_tup (pa_cons (pe_call GO hr2 (by rfl) gO kO bO .nil pass0 (pa_cons (pv 1) (pa_cons (pv 2) pa_nil))) (pa_cons (pe_ix (ixT K) (pv 5) pe_int (fun _ _ => rfl)) pa_nil)))
        (pa_cons (pe_tup (pa_cons (pe_revT (pe_ix (ixT K) (pv 5) pe_int (fun _ _ => rfl))) (pa_cons (pe_ix (ixT K) (pv 5) pe_int (fun _ _ => rfl)) pa_nil))) pa_nil)))))))
      (pss_cons (ps_set (i := 9) scLaw.nd rfl (.inl rfl) (pe_lst (pa_cons pe_non (pa_cons (pe_callTy call_list_of (by rfl) T.list (by decide +kernel) (pa_cons (pv 5) pa_nil))
        (pa_cons (pe_slice sl_tupA (pv 5) po_none (po_some pe_int)) (pa_cons (pe_op (catA K) (pv 5) (pe_tup (pa_cons pe_int pa_nil))) (pa_cons (pe_revT (pv 5))
        (pa_cons (pe_tup (pa_cons (pe_callTy call_list_of (by rfl) T.list (by decide +kernel) (pa_cons (pe_ix (ixT K) (pv 5) pe_int (fun _ _ => rfl)) pa_nil)) (pa_cons (pe_ix (ixT K) (pv 5) pe_int (fun _ _ => rfl)) pa_nil)))
        (pa_cons (pe_tup (pa_cons (pe_ix (ixT K) (pv 5) pe_int (fun _ _ => rfl)) (pa_cons (pe_callTy call_list_of (by rfl) T.list (by decide +kernel) (pa_cons (pe_ix (ixT K) (pv 5) pe_int (fun _ _ => rfl)) pa_nil)) pa_nil)))
        (pa_cons (pe_tup (pa_cons (pe_slice sl_tupA (pe_ix (ixT K) (pv 5) pe_int (fun _ _ => rfl)) (po_some pe_int) po_none) (pa_cons (pe_ix (ixT K) (pv 5) pe_int (fun _ _ => rfl)) pa_nil)))
        (pa_cons (pe_tup (pa_cons (pe_op (catA K) (pe_ix (ixT K) (pv 5) pe_int (fun _ _ => rfl)) (pe_tup (pa_cons (pv 2) pa_nil))) (pa_cons (pe_ix (ixT K) (pv 5) pe_int (fun _ _ => rfl)) pa_nil))) pa_nil)))))))))))
      (pss_cons (ps_set (i := 9) scLaw.nd rfl (.inl rfl) (pe_op op_cat (pv 9) (pe_lst
        (pa_cons (pe_tup (pa_cons (pe_op (catA K) (pe_tup (pa_cons pe_bl pa_nil)) (pe_slice sl_tupA (pe_ix (ixT K) (pv 5) pe_int (fun _ _ => rfl)) (po_some pe_int) po_none)) (pa_cons (pe_ix (ixT K) (pv 5) pe_int (fun _ _ => rfl)) pa_nil)))
        (pa_cons (pe_tup (pa_cons (pe_op (catA K) (pe_tup (pa_cons pe_non pa_nil)) (pe_slice sl_tupA (pe_ix (ixT K) (pv 5) pe_int (fun _ _ => rfl)) (po_some pe_int) po_none)) (pa_cons (pe_ix (ixT K) (pv 5) pe_int (fun _ _ => rfl)) pa_nil)))
        (pa_cons (pe_tup (pa_cons (pe_ix (ixT K) (pv 5) pe_int (fun _ _ => rfl)) (pa_cons (pe_tup (pa_cons (pv 2) pa_nil)) pa_nil)))
        (pa_cons (pe_tup (pa_cons (pe_ix (ixT K) (pv 5) pe_int (fun _ _ => rfl)) (pa_cons (pe_tup (pa_cons (pe_un un_neg pe_int) pa_nil)) pa_nil)))
        (pa_cons (pe_tup (pa_cons (pe_ix (ixT K) (pv 5) pe_int (fun _ _ => rfl)) (pa_cons (pe_tup (pa_cons pe_int (pa_cons pe_int pa_nil))) pa_nil)))
        (pa_cons (pe_tup (pa_cons (pe_ix (ixT K) (pv 5) pe_int (fun _ _ => rfl)) (pa_cons (pe_tup (pa_cons pe_bl pa_nil)) pa_nil)))
        (pa_cons (pe_tup (pa_cons (pe_ix (ixT K) (pv 5) pe_int (fun _ _ => rfl)) (pa_cons pe_non pa_nil)))
        (pa_cons (pe_tup (pa_cons (pe_op (op_rep1.or op_repT) (pe_tup (pa_cons pe_int pa_nil)) (pv 2)) (pa_cons (pe_tup pa_nil) pa_nil))) pa_nil)))))))))))
      (pss_cons (ps_set (i := 8) scLaw.nd rfl (.inl rfl) (pe_op op_cat (pv 8) (pe_lst
        (pa_cons (pe_ix (ixL K) (pv 9) (pe_call GN hr1 (by rfl) gN kN bN .nil pass0 (pa_cons (pv 1) (pa_cons pe_int pa_nil))) (fun _ _ => rfl))
        (pa_cons (pe_ix (ixL K) (pv 9) (pe_call GN hr1 (by rfl) gN kN bN .nil pass0 (pa_cons (pv 1) (pa_cons pe_int pa_nil))) (fun _ _ => rfl)) pa_nil)))))
      (pss_cons (ps_for PassesOwn.never rfl (pi_list (pv 8)) (pg_name (i := 10) scLaw.nd rfl (.inl rfl))
        (pss_one (ps_if (pt_not (pt_val (pe_call GQ hr1 (by rfl) gQ kQ bQ .nil pass0 (pa_cons (pe_call GA hr (by rfl) gA kA bA .nil pass0 (pa_cons (pv 3) (pa_cons (pv 6) (pa_cons (pv 10) pa_nil))))
          (pa_cons (pe_call GW hr3 (by rfl) gW kW bW .nil pass0 (pa_cons (pv 3) (pa_cons (pv 6) (pa_cons (pv 10) pa_nil)))) pa_nil))))) (pss_one (ps_ret pe_bl)) pss_nil)))
      (pss_one (ps_ret pe_bl)))))))))))))), ?_⟩
    -- the stream, many, first, the sets
    refine ⟨.ref a, rfl, a, ns, rfl, hS, hlen, fun H1 st l s1 _ S1 => ?_⟩
    refine ⟨.ref st, rfl, st, l, 5, rfl, S1, by decide, by decide, fun H2 d S2 f2 hd => ⟨1, _, rfl, rfl, ?_⟩⟩
    obtain ⟨n, hn⟩ : ∃ n : Nat, n = d + 1 := ⟨_, rfl⟩
    have en : (1 : Int) + (d : Int) = (n : Int) := by omega
    have hn1 : 1 ≤ n := by omega
    have hn5 : n ≤ 5 := by omega
    have hn8 : n ≤ 8 := by omega
    show gName 2 (V.int ((1 : Int) + (d : Int))) _ _ _
    rw [en]
    refine ⟨.ref st, rfl, .int n, rfl, st, l, n, rfl, S2, hn8, fun H3 t b S3 f3 hT iT => ?_⟩
    refine ⟨.int n, rfl, n, rfl, hn8, fun H4 fs L s4 hfs tL mL lL => ?_⟩
    have S4 := S3.same s4
    have nfs := S3.new hfs
    have hT4 := hT.same s4
    -- the way
    refine ⟨.ref st, rfl, .int n, rfl, st, l, n, rfl, S4, hn8, fun H5 o os S5 f5 ho permO => ?_⟩
    obtain ⟨eL, eT⟩ := tL
    have eL5 : H5 fs = some (.lst (L.map fun p => V.ref p.1)) := f5 _ _ eL nfs.1
    have lenL : ((L.map fun p => V.ref p.1).length : Int) = (L.length : Int) := by rw [List.length_map]
    have pw := pow_small (Nat.le_refl n) hn8
    have pw1 : 0 < 2 ^ n := Nat.pow_pos (by decide)
    refine ⟨.ref fs, rfl, .ref st, rfl, .ref fs, rfl, fs, _, rfl, .inl (SqL.of eL5), st, l, _, rfl, S5, ?_, ?_, fun H6 d6 S6 f6 hd6 => ?_⟩
    · rw [lenL]
      omega
    · rw [lenL]
      omega
    rw [lenL] at hd6
    have hd6b : d6 < L.length := by omega
    have eL6 : H6 fs = some (.lst (L.map fun p => V.ref p.1)) := f6 _ _ eL5 nfs.1
    obtain ⟨⟨s, ks⟩, hpr⟩ : ∃ p, L[d6] = p := ⟨_, rfl⟩
    have gL : L[d6]? = some (s, ks) := by
      rw [List.getElem?_eq_getElem hd6b, hpr]
    have hasc : Asc n ks := (mL ks).mp (List.mem_map.mpr ⟨(s, ks), List.mem_of_getElem? gL, rfl⟩)
    have hs6 : H6 s = some (.tup (ks.map V.int)) := f6.tup S5 (f5.tup S4 (eT _ (List.mem_of_getElem? gL)))
    have ho6 : H6 o = some (.tup (os.map V.int)) := f6.tup S5 ho
    have gV : (L.map fun p => V.ref p.1)[d6]? = some (V.ref s) := by
      rw [List.getElem?_map, gL]
      rfl
    have hT6 : Tour H6 t n b := f6.tour S5 (f5.tour S4 hT4)
    refine ⟨fs, _, (d6 : Int), .ref s, rfl, rfl, SqL.of eL6, atI_nat gV, by show 2 ≤ sizeLine; decide, fun wy hwy => ?_⟩
    have s7 : Same H6 (upd H6 wy (.tup [.ref o, .ref s])) := same_upd hwy
    generalize hH7 : upd H6 wy (.tup [.ref o, .ref s]) = H7 at s7
    have hw7 : H7 wy = some (.tup [.ref o, .ref s]) := by
      rw [← hH7]
      exact upd_same
    have S7 := S6.same s7
    have hT7 := hT6.same s7
    have hs7 := s7 _ _ hs6
    have ho7 := s7 _ _ ho6
    -- second
    refine ⟨.ref t, rfl, .ref wy, rfl, wy, _, 1, .ref s, rfl, rfl, .inl (.inl hw7), atI_nat (j := 1) rfl, t, s, n, b, ks, rfl, hT7, hn8, hs7, fun H8 t8 s8 hT8 => ?_⟩
    refine ⟨.ref wy, rfl, wy, _, 0, .ref o, rfl, rfl, .inl (.inl (s8 _ _ hw7)), atI_nat (j := 0) rfl, t8, o, n, _, os, rfl, hT8, hn8, s8 _ _ ho7, perm_len permO, fun H9 u9 s9 hU9 => ?_⟩
    have s79 := s8.trans s9
    have S9 := S7.same s79
    refine ⟨fun σ H2 => ∃ (u : Addr) (c : Nat → Nat → Bool), σ = [some (.ref a), some (.ref st), some (.int n), some (.ref t), some (.ref fs), some (.ref wy), some (.ref u), none, none, none, none, none] ∧ Frm st H9 H2 ∧ StAt H2 st l ∧ Tour H2 u n c ∧ IsT n c, ?_, fun σ HA p => ?_⟩
    · refine ⟨.ref st, rfl, st, l, 2, rfl, S9, by decide, by decide, fun H10 d10 S10 f10 hd10 => ⟨rfl, _, rfl, ite2 (fun _ => ?_) (fun _ => ?_)⟩⟩
      · exact ⟨.ref st, rfl, .int n, rfl, st, l, n, rfl, S10, hn8, fun H11 u c S11 f11 hU iU => ⟨u, c, rfl, f10.trans f11, S11, hU, iU⟩⟩
      · exact ⟨u9, _, rfl, f10, S10, f10.tour S9 hU9, isT_ren (isT_sw iT ks) permO⟩
    obtain ⟨u, c, rfl, fA, SA, hU, iU⟩ := p
    have hTA : Tour HA t n b := fA.tour S9 (hT7.same s79)
    have hwA : HA wy = some (.tup [.ref o, .ref s]) := fA.tup S9 (s79 _ _ hw7)
    have hsA : HA s = some (.tup (ks.map V.int)) := fA.tup S9 (s79 _ _ hs7)
    have hoA : HA o = some (.tup (os.map V.int)) := fA.tup S9 (s79 _ _ ho7)
    have ksl : ks.length ≤ 8 := by
      have := subs_short (subs_of_asc hasc)
      omega
    -- the others
    refine ⟨.int n, rfl, n, rfl, by omega, by omega, fun D hD => ?_⟩
    rw [Int.toNat_natCast]
    refine lc_rangeF (fun j => !inV (.int (j : Int)) (ks.map V.int)) (fun j => V.int (j : Int)) hD (by omega) (fun _ => rfl) (fun j hj HB Qt sB k => ?_) (fun j hj HB Qv sB k => ⟨.int j, rfl, k HB (Same.refl _)⟩) fun HB sB eD => ?_
    · exact ⟨.int j, rfl, .ref wy, rfl, wy, _, 1, .ref s, rfl, rfl, .inl (.inl (sB _ _ hwA)), atI_nat (j := 1) rfl, s, _, rfl, .inr (.inl (.inl (sB _ _ hsA))), rfl, flat_ints _, _, rfl, k HB (Same.refl _)⟩
    refine ⟨D, _, rfl, .inl ⟨SqL.of eD, fun ot hot => ?_⟩⟩
    have sC := sB.trans (same_upd (o := .tup (((List.range n).filter fun j : Nat => !inV (.int (j : Int)) (ks.map V.int)).map fun j : Nat => V.int (j : Int))) hot)
    generalize hHC : upd HB ot (.tup (((List.range n).filter fun j : Nat => !inV (.int (j : Int)) (ks.map V.int)).map fun j : Nat => V.int (j : Int))) = HC at sC
    have hotC : TupOk 8 HC (.ref ot) := by
      refine ⟨ot, _, rfl, by rw [← hHC]; exact upd_same, fun x hx => ?_, ?_⟩
      · obtain ⟨j, _, rfl⟩ := List.mem_map.mp hx
        rfl
      · rw [List.length_map]
        have z := List.length_filter_le (fun j : Nat => !inV (.int (j : Int)) (ks.map V.int)) (List.range n)
        rw [List.length_range] at z
        omega
    have SC := SA.same sC
    have hTC := hTA.same sC
    have hUC := hU.same sC
    have hwC := sC _ _ hwA
    have oC : TupOk 8 HC (.ref o) := ⟨o, _, rfl, sC _ _ hoA, fun x hx => flat3_ints hx, by rw [List.length_map, perm_len permO]; exact hn8⟩
    have kC : TupOk 8 HC (.ref s) := ⟨s, _, rfl, sC _ _ hsA, fun x hx => flat3_ints hx, by rw [List.length_map]; exact ksl⟩
    -- values
    refine st_name ?_
    refine ev_lst (st := st) (l := l) (n := 5) ?_ (by decide) HC (Frm.refl st HC) SC _ fun v8 HD fD SD o8 => ?_
    · refine evl_cons (ev_way SC rfl hwC (oC.it (by decide)) (kC.it (by decide))) (evl_cons ?_ (evl_cons ?_ (evl_cons ?_ (evl_cons ?_ evl_nil))))
      · exact ev_pair (ev_ix (j := 0) SC rfl hwC rfl oC).it (ev_varT SC rfl hotC).it
      · exact ev_pair (ev_ix (j := 0) SC rfl hwC rfl oC).it ev_tup0.it
      · exact ev_pair (ev_order rfl rfl hn8).it (ev_ix (j := 1) SC rfl hwC rfl kC).it
      · exact ev_pair (ev_rev (ev_ix (j := 0) SC rfl hwC rfl oC)).it (ev_ix (j := 1) SC rfl hwC rfl kC).it
    have hwD : HD wy = some (.tup [.ref o, .ref s]) := fD.tup SC hwC
    have oD := oC.frm SC fD
    have kD := kC.frm SC fD
    -- odd
    refine st_name ?_
    refine ev_lst (st := st) (l := l) (n := 9) ?_ (by decide) HD (Frm.refl st HD) SD _ fun v9 HE fE SE o9 => ?_
    · refine evl_cons ev_nonV (evl_cons (ev_wayL SD rfl hwD) (evl_cons (ev_wayS SD rfl hwD) (evl_cons (ev_wayC SD rfl hwD ev_one) (evl_cons (ev_wayR SD rfl hwD (oD.it (by decide)) (kD.it (by decide))) (evl_cons ?_ (evl_cons ?_ (evl_cons ?_ (evl_cons ?_ evl_nil))))))))
      · exact ev_pair (ev_list (ev_ix (j := 0) SD rfl hwD rfl oD)) (ev_ix (j := 1) SD rfl hwD rfl kD).it
      · exact ev_pair (ev_ix (j := 0) SD rfl hwD rfl oD).it (ev_list (ev_ix (j := 1) SD rfl hwD rfl kD))
      · exact ev_pair (ev_tail (ev_ix (j := 0) SD rfl hwD rfl oD)).it (ev_ix (j := 1) SD rfl hwD rfl kD).it
      · exact ev_pair (ev_cat (ev_ix (j := 0) SD rfl hwD rfl oD) (ev_tup1 (x := .int (n : Int)) rfl fun H Q z => ⟨_, rfl, z⟩)).it (ev_ix (j := 1) SD rfl hwD rfl kD).it
    have hwE : HE wy = some (.tup [.ref o, .ref s]) := fE.tup SD hwD
    have oE := oD.frm SD fE
    have kE2 := kD.frm SD fE
    have o8E := o8.frm SD SE fE
    -- odd + ..
    refine st_name ?_
    refine ev_catL (st := st) (l := l) (n := 9) (m := 8) (ev_varL SE rfl o9) (ev_lst ?_) (by decide) HE (Frm.refl st HE) SE _ fun v9b HF fF SF o9b => ?_
    · refine evl_cons ?_ (evl_cons ?_ (evl_cons ?_ (evl_cons ?_ (evl_cons ?_ (evl_cons ?_ (evl_cons ?_ (evl_cons ?_ evl_nil)))))))
      · exact ev_pair (ev_cat (ev_tup1 (x := .bl true) rfl fun H Q z => z) (ev_tail (ev_ix (j := 0) SE rfl hwE rfl oE))).it (ev_ix (j := 1) SE rfl hwE rfl kE2).it
      · exact ev_pair (ev_cat (ev_tup1 (x := .non) rfl fun H Q z => z) (ev_tail (ev_ix (j := 0) SE rfl hwE rfl oE))).it (ev_ix (j := 1) SE rfl hwE rfl kE2).it
      · exact ev_pair (ev_ix (j := 0) SE rfl hwE rfl oE).it (ev_tup1 (x := .int (n : Int)) rfl fun H Q z => ⟨_, rfl, z⟩).it
      · exact ev_pair (ev_ix (j := 0) SE rfl hwE rfl oE).it (ev_tup1 (x := .int (-1)) rfl fun H Q z => ⟨1, rfl, z⟩).it
      · exact ev_pair (ev_ix (j := 0) SE rfl hwE rfl oE).it (ev_tup2 (x := .int 0) (y := .int 0) rfl rfl).it
      · exact ev_pair (ev_ix (j := 0) SE rfl hwE rfl oE).it (ev_tup1 (x := .bl true) rfl fun H Q z => z).it
      · exact ev_pair (ev_ix (j := 0) SE rfl hwE rfl oE).it ev_non
      · exact ev_pair (ev_times rfl hn1 hn8).it ev_tup0.it
    have o8F := o8E.frm SE SF fF
    -- values + [odd[..], odd[..]]
    refine st_name ?_
    refine ev_catL (st := st) (l := l) (n := 5) (m := 2) (ev_varL SF rfl o8F) (ev_lst ?_) (by decide) HF (Frm.refl st HF) SF _ fun v8b HG fG SG o8b => ?_
    · exact evl_cons (ev_pick (ev_varL SF rfl o9b) (ev_draw (n := 17) rfl (by decide) (by decide))) (evl_cons (ev_pick (ev_varL SF rfl o9b) (ev_draw (n := 17) rfl (by decide) (by decide))) evl_nil)
    obtain ⟨vl, vs, rfl, eV, _, allV, _⟩ := o8b
    have fCG := ((fD.trans fE).trans fF).trans fG
    have hTG : Tour HG t n b := fCG.tour SC hTC
    have hUG : Tour HG u n c := fCG.tour SC hUC
    -- the loop
    refine ⟨.ref vl, rfl, vl, rfl, ⟨vs, SqL.of eV⟩, for_list (K := K) (a := vl) (xs := vs) (fun i σ H2 => Same HG H2 ∧ ∃ y10, σ = [some (.ref a), some (.ref st), some (.int n), some (.ref t), some (.ref fs), some (.ref wy), some (.ref u), some (.ref ot), some (.ref vl), some v9b, y10, none])
      ⟨Same.refl _, none, rfl⟩ (fun i σ H2 _ p => SqL.of (p.1 _ _ eV)) (fun i v σ H2 hi p => ?_) (fun σ H2 p => ?_)⟩
    · obtain ⟨sI, y10, rfl⟩ := p
      obtain ⟨x, hv⟩ := allV v (List.mem_of_getElem? hi)
      have hv2 := hv.same sI
      refine ⟨.ref t, rfl, .ref u, rfl, v, rfl, t, u, v, n, b, c, x, rfl, hTG.same sI, iT, hUG.same sI, iU, hn1, hn8, hv2, fun H3 k1 s3 hk1 => ?_⟩
      refine ⟨.ref t, rfl, .ref u, rfl, v, rfl, t, u, v, n, b, c, x, rfl, hTG.same (sI.trans s3), hUG.same (sI.trans s3), hn1, hn8, hv2.same s3, fun H4 k2 s4 hk2 => ?_⟩
      have ek : k1 = k2 := Bool.eq_iff_iff.mpr (hk1.trans hk2.symm)
      refine ⟨k1, k2, rfl, _, rfl, ?_⟩
      rw [ek, decide_eq_true rfl]
      exact iteF ⟨(sI.trans s3).trans s4, _, rfl⟩
    · exact q H2
end
end RB

/-! RbEnd: what the top has written; the law's own head. Printed by gen_end.py. -/
namespace RB
open PySem PySem.Spec PySem.W PyProof.Rows L2
theorem all_mk {l : PySem.W.OpenLaw} {w : World} {K : PySem.W.Frag} {h : Heap} {mg : Str → Option Value} {fa f1 f2 f3 f4 f5 f6 f7 f8 f9 f10 f11 f12 f13 f14 f15 f16 f17 f18 f19 f20 f21 f22 f23 f24 : Addr} (X : K.In h) (G : h.Ns mainGlobals mg) (hfa : mg "law" = some (.ref fa))
    {od1 an1 od2 an2 od3 an3 od4 an4 od5 an5 od6 an6 od7 an7 od8 an8 od9 an9 od10 an10 od11 an11 od12 an12 od13 an13 od14 an14 od15 an15 od16 an16 od17 an17 od18 an18 od19 an19 od20 an20 od21 an21 od22 an22 od23 an23 od24 an24 : Option Addr} {sl1 sl2 sl3 sl4 sl5 sl6 sl7 sl8 sl9 sl10 sl11 sl12 sl13 sl14 sl15 sl16 sl17 sl18 sl19 sl20 sl21 sl22 sl23 sl24 : Array (Option Value)} {oc1 kV1 dc1 pm1 cd1 ct1 oc2 kV2 dc2 pm2 cd2 ct2 oc3 kV3 dc3 pm3 cd3 ct3 oc4 kV4 dc4 pm4 cd4 ct4 oc5 kV5 dc5 pm5 cd5 ct5 oc6 kV6 dc6 pm6 cd6 ct6 oc7 kV7 dc7 pm7 cd7 ct7 oc8 kV8 dc8 pm8 cd8 ct8 oc9 kV9 dc9 pm9 cd9 ct9 oc10 kV10 dc10 pm10 cd10 ct10 oc11 kV11 dc11 pm11 cd11 ct11 oc12 kV12 dc12 pm12 cd12 ct12 oc13 kV13 dc13 pm13 cd13 ct13 oc14 kV14 dc14 pm14 cd14 ct14 oc15 kV15 dc15 pm15 cd15 ct15 oc16 kV16 dc16 pm16 cd16 ct16 oc17 kV17 dc17 pm17 cd17 ct17 oc18 kV18 dc18 pm18 cd18 ct18 oc19 kV19 dc19 pm19 cd19 ct19 oc20 kV20 dc20 pm20 cd20 ct20 oc21 kV21 dc21 pm21 cd21 ct21 oc22 kV22 dc22 pm22 cd22 ct22 oc23 kV23 dc23 pm23 cd23 ct23 oc24 kV24 dc24 pm24 cd24 ct24 : Value} {tm : _}
    (a1 : PySem.W.nsIn K mainGlobals "is_whole" = some (some (.ref f1))) (l1 : K.lookup f1 = some ⟨oc1, od1, .func (PySem.W.fnOf "is_whole" "is_whole" (defArgs sWhole) (defBody sWhole) (defScope sWhole) .none kV1 dc1 pm1 an1 cd1 ct1), sl1⟩) (c1 : PySem.W.codeIn K cd1 "is_whole" = true) (k1 : PySem.W.keepIn K (.ref f1) = true)
    (a2 : PySem.W.nsIn K mainGlobals "is_climbing" = some (some (.ref f2))) (l2 : K.lookup f2 = some ⟨oc2, od2, .func (PySem.W.fnOf "is_climbing" "is_climbing" (defArgs sClimb) (defBody sClimb) (defScope sClimb) .none kV2 dc2 pm2 an2 cd2 ct2), sl2⟩) (c2 : PySem.W.codeIn K cd2 "is_climbing" = true) (k2 : PySem.W.keepIn K (.ref f2) = true)
    (a3 : PySem.W.nsIn K mainGlobals "is_tournament" = some (some (.ref f3))) (l3 : K.lookup f3 = some ⟨oc3, od3, .func (PySem.W.fnOf "is_tournament" "is_tournament" (defArgs sIsT) (defBody sIsT) (defScope sIsT) .none kV3 dc3 pm3 an3 cd3 ct3), sl3⟩) (c3 : PySem.W.codeIn K cd3 "is_tournament" = true) (k3 : PySem.W.keepIn K (.ref f3) = true)
    (a4 : PySem.W.nsIn K mainGlobals "check_tournament" = some (some (.ref f4))) (l4 : K.lookup f4 = some ⟨oc4, od4, .func (PySem.W.fnOf "check_tournament" "check_tournament" (defArgs sCheck) (defBody sCheck) (defScope sCheck) .none kV4 dc4 pm4 an4 cd4 ct4), sl4⟩) (c4 : PySem.W.codeIn K cd4 "check_tournament" = true) (k4 : PySem.W.keepIn K (.ref f4) = true)
    (a5 : PySem.W.nsIn K mainGlobals "are_players" = some (some (.ref f5))) (l5 : K.lookup f5 = some ⟨oc5, od5, .func (PySem.W.fnOf "are_players" "are_players" (defArgs sPlayers) (defBody sPlayers) (defScope sPlayers) .none kV5 dc5 pm5 an5 cd5 ct5), sl5⟩) (c5 : PySem.W.codeIn K cd5 "are_players" = true) (k5 : PySem.W.keepIn K (.ref f5) = true)
    (a6 : PySem.W.nsIn K mainGlobals "beaten_by" = some (some (.ref f6))) (l6 : K.lookup f6 = some ⟨oc6, od6, .func (PySem.W.fnOf "beaten_by" "beaten_by" (defArgs sBeaten) (defBody sBeaten) (defScope sBeaten) .none kV6 dc6 pm6 an6 cd6 ct6), sl6⟩) (c6 : PySem.W.codeIn K cd6 "beaten_by" = true) (k6 : PySem.W.keepIn K (.ref f6) = true)
    (a7 : PySem.W.nsIn K mainGlobals "switched_by" = some (some (.ref f7))) (l7 : K.lookup f7 = some ⟨oc7, od7, .func (PySem.W.fnOf "switched_by" "switched_by" (defArgs sSwitch) (defBody sSwitch) (defScope sSwitch) .none kV7 dc7 pm7 an7 cd7 ct7), sl7⟩) (c7 : PySem.W.codeIn K cd7 "switched_by" = true) (k7 : PySem.W.keepIn K (.ref f7) = true)
    (a8 : PySem.W.nsIn K mainGlobals "renamed_by" = some (some (.ref f8))) (l8 : K.lookup f8 = some ⟨oc8, od8, .func (PySem.W.fnOf "renamed_by" "renamed_by" (defArgs sRename) (defBody sRename) (defScope sRename) .none kV8 dc8 pm8 an8 cd8 ct8), sl8⟩) (c8 : PySem.W.codeIn K cd8 "renamed_by" = true) (k8 : PySem.W.keepIn K (.ref f8) = true)
    (a9 : PySem.W.nsIn K mainGlobals "accepts_way" = some (some (.ref f9))) (l9 : K.lookup f9 = some ⟨oc9, od9, .func (PySem.W.fnOf "accepts_way" "accepts_way" (defArgs sAccept) (defBody sAccept) (defScope sAccept) .none kV9 dc9 pm9 an9 cd9 ct9), sl9⟩) (c9 : PySem.W.codeIn K cd9 "accepts_way" = true) (k9 : PySem.W.keepIn K (.ref f9) = true)
    (a10 : PySem.W.nsIn K mainGlobals "_law_stream" = some (some (.ref f10))) (l10 : K.lookup f10 = some ⟨oc10, od10, .func (PySem.W.fnOf "_law_stream" "_law_stream" (defArgs sStream) (defBody sStream) (defScope sStream) .none kV10 dc10 pm10 an10 cd10 ct10), sl10⟩) (c10 : PySem.W.codeIn K cd10 "_law_stream" = true) (k10 : PySem.W.keepIn K (.ref f10) = true)
    (a11 : PySem.W.nsIn K mainGlobals "_law_next" = some (some (.ref f11))) (l11 : K.lookup f11 = some ⟨oc11, od11, .func (PySem.W.fnOf "_law_next" "_law_next" (defArgs sNext) (defBody sNext) (defScope sNext) .none kV11 dc11 pm11 an11 cd11 ct11), sl11⟩) (c11 : PySem.W.codeIn K cd11 "_law_next" = true) (k11 : PySem.W.keepIn K (.ref f11) = true)
    (a12 : PySem.W.nsIn K mainGlobals "_law_is_integer" = some (some (.ref f12))) (l12 : K.lookup f12 = some ⟨oc12, od12, .func (PySem.W.fnOf "_law_is_integer" "_law_is_integer" (defArgs sIsInt) (defBody sIsInt) (defScope sIsInt) .none kV12 dc12 pm12 an12 cd12 ct12), sl12⟩) (c12 : PySem.W.codeIn K cd12 "_law_is_integer" = true) (k12 : PySem.W.keepIn K (.ref f12) = true)
    (a13 : PySem.W.nsIn K mainGlobals "_law_equal" = some (some (.ref f13))) (l13 : K.lookup f13 = some ⟨oc13, od13, .func (PySem.W.fnOf "_law_equal" "_law_equal" (defArgs sEqual) (defBody sEqual) (defScope sEqual) .none kV13 dc13 pm13 an13 cd13 ct13), sl13⟩) (c13 : PySem.W.codeIn K cd13 "_law_equal" = true) (k13 : PySem.W.keepIn K (.ref f13) = true)
    (a14 : PySem.W.nsIn K mainGlobals "_law_by" = some (some (.ref f14))) (l14 : K.lookup f14 = some ⟨oc14, od14, .func (PySem.W.fnOf "_law_by" "_law_by" (defArgs sBy) (defBody sBy) (defScope sBy) .none kV14 dc14 pm14 an14 cd14 ct14), sl14⟩) (c14 : PySem.W.codeIn K cd14 "_law_by" = true) (k14 : PySem.W.keepIn K (.ref f14) = true)
    (a15 : PySem.W.nsIn K mainGlobals "_law_signed" = some (some (.ref f15))) (l15 : K.lookup f15 = some ⟨oc15, od15, .func (PySem.W.fnOf "_law_signed" "_law_signed" (defArgs sSigned) (defBody sSigned) (defScope sSigned) .none kV15 dc15 pm15 an15 cd15 ct15), sl15⟩) (c15 : PySem.W.codeIn K cd15 "_law_signed" = true) (k15 : PySem.W.keepIn K (.ref f15) = true)
    (a16 : PySem.W.nsIn K mainGlobals "_law_tournament_of" = some (some (.ref f16))) (l16 : K.lookup f16 = some ⟨oc16, od16, .func (PySem.W.fnOf "_law_tournament_of" "_law_tournament_of" (defArgs sTof) (defBody sTof) (defScope sTof) .none kV16 dc16 pm16 an16 cd16 ct16), sl16⟩) (c16 : PySem.W.codeIn K cd16 "_law_tournament_of" = true) (k16 : PySem.W.keepIn K (.ref f16) = true)
    (a17 : PySem.W.nsIn K mainGlobals "_law_any" = some (some (.ref f17))) (l17 : K.lookup f17 = some ⟨oc17, od17, .func (PySem.W.fnOf "_law_any" "_law_any" (defArgs sAny) (defBody sAny) (defScope sAny) .none kV17 dc17 pm17 an17 cd17 ct17), sl17⟩) (c17 : PySem.W.codeIn K cd17 "_law_any" = true) (k17 : PySem.W.keepIn K (.ref f17) = true)
    (a18 : PySem.W.nsIn K mainGlobals "_law_tournament" = some (some (.ref f18))) (l18 : K.lookup f18 = some ⟨oc18, od18, .func (PySem.W.fnOf "_law_tournament" "_law_tournament" (defArgs sTourn) (defBody sTourn) (defScope sTourn) .none kV18 dc18 pm18 an18 cd18 ct18), sl18⟩) (c18 : PySem.W.codeIn K cd18 "_law_tournament" = true) (k18 : PySem.W.keepIn K (.ref f18) = true)
    (a19 : PySem.W.nsIn K mainGlobals "_law_sets" = some (some (.ref f19))) (l19 : K.lookup f19 = some ⟨oc19, od19, .func (PySem.W.fnOf "_law_sets" "_law_sets" (defArgs sSets) (defBody sSets) (defScope sSets) .none kV19 dc19 pm19 an19 cd19 ct19), sl19⟩) (c19 : PySem.W.codeIn K cd19 "_law_sets" = true) (k19 : PySem.W.keepIn K (.ref f19) = true)
    (a20 : PySem.W.nsIn K mainGlobals "_law_switched" = some (some (.ref f20))) (l20 : K.lookup f20 = some ⟨oc20, od20, .func (PySem.W.fnOf "_law_switched" "_law_switched" (defArgs sSwL) (defBody sSwL) (defScope sSwL) .none kV20 dc20 pm20 an20 cd20 ct20), sl20⟩) (c20 : PySem.W.codeIn K cd20 "_law_switched" = true) (k20 : PySem.W.keepIn K (.ref f20) = true)
    (a21 : PySem.W.nsIn K mainGlobals "_law_renamed" = some (some (.ref f21))) (l21 : K.lookup f21 = some ⟨oc21, od21, .func (PySem.W.fnOf "_law_renamed" "_law_renamed" (defArgs sRenL) (defBody sRenL) (defScope sRenL) .none kV21 dc21 pm21 an21 cd21 ct21), sl21⟩) (c21 : PySem.W.codeIn K cd21 "_law_renamed" = true) (k21 : PySem.W.keepIn K (.ref f21) = true)
    (a22 : PySem.W.nsIn K mainGlobals "_law_order" = some (some (.ref f22))) (l22 : K.lookup f22 = some ⟨oc22, od22, .func (PySem.W.fnOf "_law_order" "_law_order" (defArgs sOrder) (defBody sOrder) (defScope sOrder) .none kV22 dc22 pm22 an22 cd22 ct22), sl22⟩) (c22 : PySem.W.codeIn K cd22 "_law_order" = true) (k22 : PySem.W.keepIn K (.ref f22) = true)
    (a23 : PySem.W.nsIn K mainGlobals "_law_is_way" = some (some (.ref f23))) (l23 : K.lookup f23 = some ⟨oc23, od23, .func (PySem.W.fnOf "_law_is_way" "_law_is_way" (defArgs sIsWay) (defBody sIsWay) (defScope sIsWay) .none kV23 dc23 pm23 an23 cd23 ct23), sl23⟩) (c23 : PySem.W.codeIn K cd23 "_law_is_way" = true) (k23 : PySem.W.keepIn K (.ref f23) = true)
    (a24 : PySem.W.nsIn K mainGlobals "law" = some (some (.ref f24))) (l24 : K.lookup f24 = some ⟨oc24, od24, .func (PySem.W.fnOf "law" "law" (defArgs sLaw) (defBody sLaw) (defScope sLaw) .none kV24 dc24 pm24 an24 cd24 ct24), sl24⟩) (c24 : PySem.W.codeIn K cd24 "law" = true) (k24 : PySem.W.keepIn K (.ref f24) = true)
    (z1 : PySem.W.nsIn K mainGlobals "isinstance" = some none) (z2 : PySem.W.nsIn K mainGlobals "int" = some none) (z3 : PySem.W.nsIn K mainGlobals "bool" = some none) (z4 : PySem.W.nsIn K mainGlobals "tuple" = some none) (z5 : PySem.W.nsIn K mainGlobals "list" = some none) (z6 : PySem.W.nsIn K mainGlobals "all" = some none) (z7 : PySem.W.nsIn K mainGlobals "range" = some none) (z8 : PySem.W.nsIn K mainGlobals "len" = some none) (z9 : PySem.W.nsIn K mainGlobals "enumerate" = some none) (z10 : PySem.W.nsIn K mainGlobals "sorted" = some none) (z11 : PySem.W.nsIn K mainGlobals "abs" = some none)
    (zm : PySem.W.nsIn K mainGlobals "MOST_PLAYERS" = some (some (.int 8 tm))) :
    ∃ fd : FuncData, (∀ (s : Shared) (v : Value), BindsTo s fd ⟨[v], []⟩ [("_law_script", v)]) ∧ ∀ base : Heap, K.In base → base.Ns mainGlobals mg → FnOk l.prog w K mg base CX0 6 fa fd ["_law_script"] (spLaw K) := by
  have e := hfa.symm.trans (PySem.W.mg_of X G a24)
  cases e
  have T : Txt mg := ⟨PySem.W.mg_none_of X G z1, PySem.W.mg_none_of X G z2, PySem.W.mg_none_of X G z3, PySem.W.mg_none_of X G z4, PySem.W.mg_none_of X G z5, PySem.W.mg_none_of X G z6, PySem.W.mg_none_of X G z7, PySem.W.mg_none_of X G z8, PySem.W.mg_none_of X G z9, PySem.W.mg_none_of X G z10, PySem.W.mg_none_of X G z11, ⟨_, PySem.W.mg_of X G zm⟩⟩
  have F1 := fun_mk (st := sWhole) l1 c1 k1
  have b1 := F1.binds (ps := ["value", "low", "high"]) fun _ _ _ _ _ _ us hl => match us, hl with | [_, _, _], _ => rfl
  have g1 := PySem.W.mg_of X G a1
  have F2 := fun_mk (st := sClimb) l2 c2 k2
  have b2 := F2.binds (ps := ["value", "many"]) fun _ _ _ _ _ _ us hl => match us, hl with | [_, _], _ => rfl
  have g2 := PySem.W.mg_of X G a2
  have F3 := fun_mk (st := sIsT) l3 c3 k3
  have b3 := F3.binds (ps := ["value"]) fun _ _ _ _ _ _ us hl => match us, hl with | [_], _ => rfl
  have g3 := PySem.W.mg_of X G a3
  have F4 := fun_mk (st := sCheck) l4 c4 k4
  have b4 := F4.binds (ps := ["tournament"]) fun _ _ _ _ _ _ us hl => match us, hl with | [_], _ => rfl
  have g4 := PySem.W.mg_of X G a4
  have F5 := fun_mk (st := sPlayers) l5 c5 k5
  have b5 := F5.binds (ps := ["value", "many"]) fun _ _ _ _ _ _ us hl => match us, hl with | [_, _], _ => rfl
  have g5 := PySem.W.mg_of X G a5
  have F6 := fun_mk (st := sBeaten) l6 c6 k6
  have b6 := F6.binds (ps := ["results", "many"]) fun _ _ _ _ _ _ us hl => match us, hl with | [_, _], _ => rfl
  have g6 := PySem.W.mg_of X G a6
  have F7 := fun_mk (st := sSwitch) l7 c7 k7
  have b7 := F7.binds (ps := ["tournament", "players"]) fun _ _ _ _ _ _ us hl => match us, hl with | [_, _], _ => rfl
  have g7 := PySem.W.mg_of X G a7
  have F8 := fun_mk (st := sRename) l8 c8 k8
  have b8 := F8.binds (ps := ["tournament", "order"]) fun _ _ _ _ _ _ us hl => match us, hl with | [_, _], _ => rfl
  have g8 := PySem.W.mg_of X G a8
  have F9 := fun_mk (st := sAccept) l9 c9 k9
  have b9 := F9.binds (ps := ["tournament", "other", "value"]) fun _ _ _ _ _ _ us hl => match us, hl with | [_, _, _], _ => rfl
  have g9 := PySem.W.mg_of X G a9
  have F10 := fun_mk (st := sStream) l10 c10 k10
  have b10 := F10.binds (ps := ["_law_script"]) fun _ _ _ _ _ _ us hl => match us, hl with | [_], _ => rfl
  have g10 := PySem.W.mg_of X G a10
  have F11 := fun_mk (st := sNext) l11 c11 k11
  have b11 := F11.binds (ps := ["_law_stream_here", "_law_many"]) fun _ _ _ _ _ _ us hl => match us, hl with | [_, _], _ => rfl
  have g11 := PySem.W.mg_of X G a11
  have F12 := fun_mk (st := sIsInt) l12 c12 k12
  have b12 := F12.binds (ps := ["_law_actual"]) fun _ _ _ _ _ _ us hl => match us, hl with | [_], _ => rfl
  have g12 := PySem.W.mg_of X G a12
  have F13 := fun_mk (st := sEqual) l13 c13 k13
  have b13 := F13.binds (ps := ["_law_actual", "_law_due"]) fun _ _ _ _ _ _ us hl => match us, hl with | [_, _], _ => rfl
  have g13 := PySem.W.mg_of X G a13
  have F14 := fun_mk (st := sBy) l14 c14 k14
  have b14 := F14.binds (ps := ["_law_beats", "_law_many"]) fun _ _ _ _ _ _ us hl => match us, hl with | [_, _], _ => rfl
  have g14 := PySem.W.mg_of X G a14
  have F15 := fun_mk (st := sSigned) l15 c15 k15
  have b15 := F15.binds (ps := ["_law_stream_here", "_law_many"]) fun _ _ _ _ _ _ us hl => match us, hl with | [_, _], _ => rfl
  have g15 := PySem.W.mg_of X G a15
  have F16 := fun_mk (st := sTof) l16 c16 k16
  have b16 := F16.binds (ps := ["_law_order_here"]) fun _ _ _ _ _ _ us hl => match us, hl with | [_], _ => rfl
  have g16 := PySem.W.mg_of X G a16
  have F17 := fun_mk (st := sAny) l17 c17 k17
  have b17 := F17.binds (ps := ["_law_stream_here", "_law_many"]) fun _ _ _ _ _ _ us hl => match us, hl with | [_, _], _ => rfl
  have g17 := PySem.W.mg_of X G a17
  have F18 := fun_mk (st := sTourn) l18 c18 k18
  have b18 := F18.binds (ps := ["_law_stream_here", "_law_many"]) fun _ _ _ _ _ _ us hl => match us, hl with | [_, _], _ => rfl
  have g18 := PySem.W.mg_of X G a18
  have F19 := fun_mk (st := sSets) l19 c19 k19
  have b19 := F19.binds (ps := ["_law_many"]) fun _ _ _ _ _ _ us hl => match us, hl with | [_], _ => rfl
  have g19 := PySem.W.mg_of X G a19
  have F20 := fun_mk (st := sSwL) l20 c20 k20
  have b20 := F20.binds (ps := ["_law_tournament_here", "_law_players"]) fun _ _ _ _ _ _ us hl => match us, hl with | [_, _], _ => rfl
  have g20 := PySem.W.mg_of X G a20
  have F21 := fun_mk (st := sRenL) l21 c21 k21
  have b21 := F21.binds (ps := ["_law_tournament_here", "_law_order_here"]) fun _ _ _ _ _ _ us hl => match us, hl with | [_, _], _ => rfl
  have g21 := PySem.W.mg_of X G a21
  have F22 := fun_mk (st := sOrder) l22 c22 k22
  have b22 := F22.binds (ps := ["_law_stream_here", "_law_many"]) fun _ _ _ _ _ _ us hl => match us, hl with | [_, _], _ => rfl
  have g22 := PySem.W.mg_of X G a22
  have F23 := fun_mk (st := sIsWay) l23 c23 k23
  have b23 := F23.binds (ps := ["_law_first", "_law_second", "_law_value"]) fun _ _ _ _ _ _ us hl => match us, hl with | [_, _, _], _ => rfl
  have g23 := PySem.W.mg_of X G a23
  have F24 := fun_mk (st := sLaw) l24 c24 k24
  refine ⟨PySem.W.fnOf "law" "law" (defArgs sLaw) (defBody sLaw) (defScope sLaw) .none kV24 dc24 pm24 an24 cd24 ct24, fun s v => .of_eq rfl, fun base _ _ => ?_⟩
  have G1 : FnOk l.prog w K mg base CX0 1 f1 _ ["value", "low", "high"] spWhole := ok_whole F1 T
  have G2 : FnOk l.prog w K mg base CX0 2 f2 _ ["value", "many"] spClimb := ok_climb F2 T F1 b1 g1
  have G3 : FnOk l.prog w K mg base CX0 3 f3 _ ["value"] spIsT := ok_isT F3 T G2 F2.kp b2 g2
  have G4 : FnOk l.prog w K mg base CX0 4 f4 _ ["tournament"] spCheck := ok_check F4 G3 F3.kp b3 g3
  have G5 : FnOk l.prog w K mg base CX0 3 f5 _ ["value", "many"] spPlayers := ok_players F5 T G2 F2.kp b2 g2
  have G6 : FnOk l.prog w K mg base CX0 1 f6 _ ["results", "many"] spBy := ok_Beaten F6 T
  have G7 : FnOk l.prog w K mg base CX0 2 f7 _ ["tournament", "players"] spSw := ok_switch F7 T G6 F6.kp b6 g6
  have G8 : FnOk l.prog w K mg base CX0 2 f8 _ ["tournament", "order"] spRen := ok_rename F8 T G6 F6.kp b6 g6
  have G9 : FnOk l.prog w K mg base CX0 5 f9 _ ["tournament", "other", "value"] spAccept := ok_accept F9 T G4 F4.kp b4 g4 G3 F3.kp b3 g3 G5 F5.kp b5 g5 G7 F7.kp b7 g7 G8 F8.kp b8 g8
  have G10 : FnOk l.prog w K mg base CX0 1 f10 _ ["_law_script"] (spStream K) := ok_stream F10 T
  have G11 : FnOk l.prog w K mg base CX0 1 f11 _ ["_law_stream_here", "_law_many"] spNext := ok_next F11 T
  have G12 : FnOk l.prog w K mg base CX0 1 f12 _ ["_law_actual"] spIsInt := ok_isInt F12 T
  have G13 : FnOk l.prog w K mg base CX0 1 f13 _ ["_law_actual", "_law_due"] spEqual := ok_equal F13 T
  have G14 : FnOk l.prog w K mg base CX0 1 f14 _ ["_law_beats", "_law_many"] spBy := ok_By F14 T
  have G15 : FnOk l.prog w K mg base CX0 2 f15 _ ["_law_stream_here", "_law_many"] spSigned := ok_signed F15 T G11 F11.kp b11 g11
  have G16 : FnOk l.prog w K mg base CX0 2 f16 _ ["_law_order_here"] spTof := ok_tof F16 T G14 F14.kp b14 g14
  have G17 : FnOk l.prog w K mg base CX0 2 f17 _ ["_law_stream_here", "_law_many"] spAnyT := ok_any F17 T G11 F11.kp b11 g11 G14 F14.kp b14 g14
  have G18 : FnOk l.prog w K mg base CX0 3 f18 _ ["_law_stream_here", "_law_many"] spAnyT := ok_tourn F18 T G11 F11.kp b11 g11 G17 F17.kp b17 g17 G15 F15.kp b15 g15 G16 F16.kp b16 g16
  have G19 : FnOk l.prog w K mg base CX0 1 f19 _ ["_law_many"] spSets := ok_sets F19 T
  have G20 : FnOk l.prog w K mg base CX0 2 f20 _ ["_law_tournament_here", "_law_players"] spSw := ok_swL F20 T G14 F14.kp b14 g14
  have G21 : FnOk l.prog w K mg base CX0 2 f21 _ ["_law_tournament_here", "_law_order_here"] spRen := ok_renL F21 T G14 F14.kp b14 g14
  have G22 : FnOk l.prog w K mg base CX0 2 f22 _ ["_law_stream_here", "_law_many"] spOrder := ok_order F22 T G11 F11.kp b11 g11
  have G23 : FnOk l.prog w K mg base CX0 3 f23 _ ["_law_first", "_law_second", "_law_value"] spIsWay := ok_isWay F23 T G12 F12.kp b12 g12 G19 F19.kp b19 g19 G20 F20.kp b20 g20 G21 F21.kp b21 g21
  exact ok_law F24 T G10 F10.kp b10 g10 G11 F11.kp b11 g11 G18 F18.kp b18 g18 G19 F19.kp b19 g19 G22 F22.kp b22 g22 G20 F20.kp b20 g20 G21 F21.kp b21 g21 G13 F13.kp b13 g13 G9 F9.kp b9 g9 G23 F23.kp b23 g23
end RB
open PySem PySem.W PyProof.Rows
set_option maxRecDepth 100000 in
set_option maxHeartbeats 0 in
theorem PySem.Challenge.cw_ringbeats_k41_whole_ways_by_whomever_holds : PySem.Challenge.rw_ringbeats_k41_whole_ways_by_whomever.Holds := by
  w_on; o_law; k_head; (case hw => w_witness2)
  k_fill
  refine L2.walk_of (l := PySem.Challenge.rw_ringbeats_k41_whole_ways_by_whomever) (n := 63) (k := 6) (x := "_law_script") (CX := fun _ => L2.CX0) (sp := fun w => RB.spLaw _) rfl (by decide) rfl ⟨rfl, by decide, by decide⟩ (fun w h Y => PySem.W.kIn_of Y) ?F (fun _ _ a ns hl _ hS => ⟨a, ns, rfl, hS, hl, fun _ => rfl⟩) (fun _ _ _ _ _ h => h)
  case F =>
    intro w mg fa h KX G hmg
    refine' RB.all_mk KX G hmg ?a1 ?l1 ?c1 ?k1 ?a2 ?l2 ?c2 ?k2 ?a3 ?l3 ?c3 ?k3 ?a4 ?l4 ?c4 ?k4 ?a5 ?l5 ?c5 ?k5 ?a6 ?l6 ?c6 ?k6 ?a7 ?l7 ?c7 ?k7 ?a8 ?l8 ?c8 ?k8 ?a9 ?l9 ?c9 ?k9 ?a10 ?l10 ?c10 ?k10 ?a11 ?l11 ?c11 ?k11 ?a12 ?l12 ?c12 ?k12 ?a13 ?l13 ?c13 ?k13 ?a14 ?l14 ?c14 ?k14 ?a15 ?l15 ?c15 ?k15 ?a16 ?l16 ?c16 ?k16 ?a17 ?l17 ?c17 ?k17 ?a18 ?l18 ?c18 ?k18 ?a19 ?l19 ?c19 ?k19 ?a20 ?l20 ?c20 ?k20 ?a21 ?l21 ?c21 ?k21 ?a22 ?l22 ?c22 ?k22 ?a23 ?l23 ?c23 ?k23 ?a24 ?l24 ?c24 ?k24 ?z1 ?z2 ?z3 ?z4 ?z5 ?z6 ?z7 ?z8 ?z9 ?z10 ?z11 ?zm
    (case a1 => k_is); (case l1 => k_is); (case c1 => k_is); (case k1 => k_is); (case a2 => k_is); (case l2 => k_is); (case c2 => k_is); (case k2 => k_is); (case a3 => k_is); (case l3 => k_is); (case c3 => k_is); (case k3 => k_is); (case a4 => k_is); (case l4 => k_is); (case c4 => k_is); (case k4 => k_is); (case a5 => k_is); (case l5 => k_is); (case c5 => k_is); (case k5 => k_is); (case a6 => k_is); (case l6 => k_is); (case c6 => k_is); (case k6 => k_is); (case a7 => k_is); (case l7 => k_is); (case c7 => k_is); (case k7 => k_is); (case a8 => k_is); (case l8 => k_is); (case c8 => k_is); (case k8 => k_is); (case a9 => k_is); (case l9 => k_is); (case c9 => k_is); (case k9 => k_is); (case a10 => k_is); (case l10 => k_is); (case c10 => k_is); (case k10 => k_is); (case a11 => k_is); (case l11 => k_is); (case c11 => k_is); (case k11 => k_is); (case a12 => k_is); (case l12 => k_is); (case c12 => k_is); (case k12 => k_is); (case a13 => k_is); (case l13 => k_is); (case c13 => k_is); (case k13 => k_is); (case a14 => k_is); (case l14 => k_is); (case c14 => k_is); (case k14 => k_is); (case a15 => k_is); (case l15 => k_is); (case c15 => k_is); (case k15 => k_is); (case a16 => k_is); (case l16 => k_is); (case c16 => k_is); (case k16 => k_is); (case a17 => k_is); (case l17 => k_is); (case c17 => k_is); (case k17 => k_is); (case a18 => k_is); (case l18 => k_is); (case c18 => k_is); (case k18 => k_is); (case a19 => k_is); (case l19 => k_is); (case c19 => k_is); (case k19 => k_is); (case a20 => k_is); (case l20 => k_is); (case c20 => k_is); (case k20 => k_is); (case a21 => k_is); (case l21 => k_is); (case c21 => k_is); (case k21 => k_is); (case a22 => k_is); (case l22 => k_is); (case c22 => k_is); (case k22 => k_is); (case a23 => k_is); (case l23 => k_is); (case c23 => k_is); (case k23 => k_is); (case a24 => k_is); (case l24 => k_is); (case c24 => k_is); (case k24 => k_is); (case z1 => k_is); (case z2 => k_is); (case z3 => k_is); (case z4 => k_is); (case z5 => k_is); (case z6 => k_is); (case z7 => k_is); (case z8 => k_is); (case z9 => k_is); (case z10 => k_is); (case z11 => k_is); (case zm => k_is)
