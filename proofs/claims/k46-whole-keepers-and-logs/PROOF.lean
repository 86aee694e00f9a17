import PyProof.Rows.All
import Wide.All
import OpenK.AllK
import Wide.FinOn
import HandS.ForMost
import HandS.ForExc
import HandS.IsInst
import HandS.Property
import HandS.DictComp
import HandS.TupAny
import HandS.Style
import HandS.Conv
import HandS.RaiseMore
import HandS.RaiseOp
import HandS.HotCalls
import HandS.Lambda
import HandS.Nested
import HandS.EndTab
import HandS.Flow
import KE.GoesMore
import KE.GoesEnum
import KE.KDictZip
import HandS.OwnEq
import HandS.Finally
import HandS.ExcBuiltin
import PySem.Challenge.RW_glancelogs_k46_whole_keepers_and_logs
set_option Elab.async false
set_option linter.all false
set_option maxRecDepth 100000
/-! R1 -/
section
set_option maxHeartbeats 4000000
namespace GK
open PySem PySem.Spec PyProof.Rows L2
/-! ### t[::-1], a tuple -/
theorem fm_congr {α β : Type} {f g : α → Option β} : ∀ {l : List α}, (∀ x ∈ l, f x = g x) → l.filterMap f = l.filterMap g
  | [], _ => rfl
  | a :: l, h => by
    rw [List.filterMap_cons, List.filterMap_cons, h a List.mem_cons_self, fm_congr (l := l) fun x hx => h x (List.mem_cons_of_mem _ hx)]
theorem pick_key {α : Type} (l : List α) : ∀ r : List α, r.reverse = l → ((List.range l.length).filterMap fun (k : Nat) => l[((l.length : Int) - 1 + (k : Int) * (-1)).toNat]?) = r := by
  intro r
  induction r generalizing l with
  | nil => intro h; subst h; rfl
  | cons a r ih =>
    intro h
    rw [List.reverse_cons] at h
    have ih' := ih r.reverse rfl
    subst h
    have hl : (r.reverse ++ [a]).length = r.reverse.length + 1 := by simp
    rw [hl, List.range_succ_eq_map, List.filterMap_cons_some (b := a)]
    · rw [List.filterMap_map]
      congr 1
      refine (fm_congr fun k hk => ?_).trans ih'
      have hk := List.mem_range.mp hk
      simp only [Function.comp]
      have e : (((r.reverse.length + 1 : Nat) : Int) - 1 + ((k.succ : Nat) : Int) * (-1)).toNat = ((r.reverse.length : Int) - 1 + (k : Int) * (-1)).toNat := by omega
      rw [e, List.getElem?_append_left (by omega)]
    · have e : (((r.reverse.length + 1 : Nat) : Int) - 1 + ((0 : Nat) : Int) * (-1)).toNat = r.reverse.length := by omega
      rw [e, List.getElem?_append_right (Nat.le_refl _)]
      simp
theorem pick_back {α : Type} (xs : Array α) : ((List.range xs.size).filterMap fun (k : Nat) => xs[((xs.size : Int) - 1 + (k : Int) * (-1)).toNat]?) = xs.toList.reverse := by
  have := pick_key xs.toList xs.toList.reverse (by simp)
  simpa using this
theorem adjust_back (n : Nat) : Builtin.Slice.sliceAdjust none none (-1) (n : Int) = ((n : Int) - 1, -1) := by
  unfold Builtin.Slice.sliceAdjust
  simp
theorem places_back (n : Nat) : Builtin.Slice.slicePlaces ((n : Int) - 1) (-1) (-1) = n := by
  unfold Builtin.Slice.slicePlaces
  have h1 : ¬ ((-1 : Int) > 0) := by omega
  simp only [h1, if_false]
  split <;> simp <;> omega
section
variable {prog : Program} {w : World} {A : Around} {E : Value → Shared → Prop} {s : Shared}
theorem sliceApplied_back {sl : Addr} {t : Tok} {n : Nat} {Q : Int × Int × Nat → Shared → Prop} (hs : s.heap.IsSliceOf sl .none .none (.int (-1) t))
    (h : Q ((n : Int) - 1, -1, n) s) : wpAny (model prog w) A (Builtin.Slice.sliceApplied (.ref sl) (pure (n : Int))) Q E s := by
  obtain ⟨os, hos, hcs, hds⟩ := id hs
  unfold Builtin.Slice.sliceApplied Builtin.Slice.sliceFields
  refine wpAny_bind (wpAny_bind (wpAny_field hos hds (x := .none) rfl (wpAny_bind (wpAny_field hos hds (x := .none) rfl (wpAny_bind (wpAny_field hos hds (x := .int (-1) t) rfl (wpAny_pure ?_)))))))
  refine wpAny_bind (HT.slicePart_ (.int (-1) t) ?_)
  show wpAny _ _ (if ((-1 : Int) == 0) = true then _ else _) _ _ s
  rw [if_neg (by decide)]
  refine wpAny_bind (HT.slicePart_ .none (wpAny_bind (HT.slicePart_ .none (wpAny_bind (wpAny_pure ?_)))))
  show wpAny _ _ (match Builtin.Slice.sliceAdjust none none (-1) (n : Int) with | (lo, hi) => pure (lo, (-1 : Int), Builtin.Slice.slicePlaces lo hi (-1))) _ _ s
  rw [adjust_back]
  show wpAny _ _ (pure ((n : Int) - 1, (-1 : Int), Builtin.Slice.slicePlaces ((n : Int) - 1) (-1) (-1))) _ _ s
  rw [places_back]
  exact wpAny_pure h
theorem getItem_tuple_back {t sl : Addr} {tk : Tok} {items : Array Value} {Q : Value → Shared → Prop} (ht : IsTup s.heap t items) (hs : s.heap.IsSliceOf sl .none .none (.int (-1) tk))
    (h : Q (.ref s.heap.objs.size) { s with heap := s.heap.push { cls := .type "tuple", data := .seq items.toList.reverse.toArray } })
    (hsz : items.size ≤ sizeLine) : wpAny (model prog w) A (getItem (.ref t) (.ref sl)) Q E s := by
  have htake : sizeOk (.seq items.toList.reverse.toArray) := by
    show items.toList.reverse.toArray.size ≤ sizeLine
    simpa using hsz
  obtain ⟨os, hos, hcs, hds⟩ := id hs
  have hTs : s.TypeIs (.ref sl) "slice" := ⟨os, hos, hcs⟩
  unfold getItem
  try with_reducible refine wpAny_holding ?_
  first | refine wpAny_bind (wpAny_pure ?_) | skip
  refine wpAny_bind (wpAny_sequenceKey ht.typeIs (by decide) ?_)
  refine wpAny_bind (wpAny_callSpecial?_slot (name := Str.ofString "__getitem__") ht.typeIs PyProof.Rows.slot_tuple_getitem
    (wpAny_call_entry PyProof.Rows.slot_tuple_getitem ht.typeIs entry_tuple_getitem ?_ (args_tuple_getitem _ _)))
  show wpAny _ _ (Builtin.Tuple.tupleItemsOf (.ref t) >>= _) _ _ s
  refine wpAny_bind (tupleItemsOf_ ht ?_)
  refine wpAny_bind (wpAny_typeOf hTs ?_)
  rw [if_pos (by decide)]
  refine wpAny_bind (sliceApplied_back (n := items.size) hs ?_)
  have hno : ¬ ((((items.size : Int) - 1) == 0 && (-1 : Int) == 1 && items.size == items.size) = true) := by simp
  show wpAny _ _ (if (((items.size : Int) - 1) == 0 && (-1 : Int) == 1 && items.size == items.size) = true then _ else _) _ _ s
  rw [if_neg hno, pick_back]
  first
    | exact wpAny_bind (m := Builtin.Tuple.tupleExact _) (wpAny_newObj_type (wpAny_pure ⟨_, rfl, wpAny_pure h⟩) htake)
    | exact wpAny_bind (m := Builtin.Tuple.tupleExact _) (wpAny_newObj_type (wpAny_bind (wpAny_pure (wpAny_pure ⟨_, rfl, wpAny_pure h⟩))) htake)
    | exact wpAny_bind (wpAny_bind (m := Builtin.Tuple.tupleExact _) (wpAny_newObj_type (wpAny_pure (wpAny_pure ⟨_, rfl, wpAny_pure h⟩)) htake))
    | exact wpAny_bind (wpAny_bind (m := Builtin.Tuple.tupleExact _) (wpAny_newObj_type (wpAny_pure ⟨_, rfl, wpAny_pure h⟩) htake))
end
section
variable {X : Cx}
def tRevT (K : PySem.W.Frag) (te : TE) : TE := fun σ H Q => te σ H fun x H1 => ∃ a xs, x = .ref a ∧ SqT K H1 a xs ∧ ∀ p, H1 p = none → Q (.ref p) (upd H1 p (.tup xs.reverse))
theorem pe_revT {e : Expr} {te : TE} {k : Nat} {p1 p2 p3 pos : Pos} (he : PE X e te) : PE X (.Subscript e (.Slice none none (some (.UnaryOp .USub (.Constant (.int 1) k p1) p2)) p3) pos) (tRevT X.K te) := by
  refine ⟨fun pins s σ H Q I h => ?_⟩
  refine Subscript_ (thn (he.run pins s σ H _ I h) fun v s1 ⟨x, H1, I1, r1, q1⟩ => ?_)
  obtain ⟨a, xs, ex, hx, q⟩ := q1
  subst ex
  cases r1
  have hst : PO X (some (.UnaryOp .USub (.Constant (.int 1) k p1) p2)) (tPart (tUn (rU fun i => .int (-i)) (tC (.int 1)))) := po_some (pe_un un_neg pe_int)
  refine wpAny_Slice (thn (po_none.run pins s1 σ H1 (fun o H2 => o = none ∧ H2 = H1) I1 ⟨rfl, rfl⟩) fun vl s2 ⟨l, H2, I2, pl, el, e2⟩ => ?_)
  subst el e2
  refine thn (po_none.run pins s2 σ H2 (fun o H3 => o = none ∧ H3 = H2) I2 ⟨rfl, rfl⟩) fun vu s3 ⟨u, H3, I3, pu, eu, e3⟩ => ?_
  subst eu e3
  refine thn (hst.run pins s3 σ H3 (fun o H4 => o = some (-1) ∧ H4 = H3) I3 ⟨1, rfl, -1, rfl, rfl, rfl⟩) fun vs s4 ⟨o, H4, I4, ps, eo, e4⟩ => ?_
  subst eo e4
  cases pl
  cases pu
  cases ps with
  | int _ tk =>
  have I5 : Inv X pins σ H4 { s4 with heap := s4.heap.push { cls := .type "slice", data := .fields #[.none, .none, .int (-1) tk] } } := I4.kept (t' := s4.toks) fun b ob q => Heap.get?_push_of_some _ q
  obtain ⟨its, r, ht, hz⟩ := I5.tuple hx
  have hlen := r.length
  show wpAny (model X.prog X.w) X.A (subscriptTail e (.Slice none none (some (.UnaryOp .USub (.Constant (.int 1) k p1) p2)) p3) (.ref a) (.ref s4.heap.objs.size)) (EP X pins σ Q) X.xe { s4 with heap := s4.heap.push { cls := .type "slice", data := .fields #[.none, .none, .int (-1) tk] } }
  refine tail_any (ops := [.ref a, .ref s4.heap.objs.size]) ht.typeIs (PyProof.Rows.slot_tuple_getitem.lookup) ?_ (by with_unfolding_all rfl)
  refine getItem_tuple_back ht (Heap.IsSliceOf.new _ .none .none (.int (-1) tk)) ?_ (by rw [List.size_toArray]; omega)
  refine ⟨.ref _, _, I5.laid (t' := s4.toks) (o := .tup xs.reverse) (fun b ob q => Heap.get?_push_of_some _ q) (Nat.le_refl _) ?_, rfl, q _ (I5.hok.fresh (Nat.le_refl _))⟩
  exact ⟨by rw [List.length_reverse]; exact hz, _, r.reverse, ⟨_, Heap.get?_push_size _ rfl, rfl, _, rfl⟩⟩
end
end GK

end

/-! R2 -/
section
set_option maxHeartbeats 4000000
namespace GK
open PySem PySem.Spec PyProof.Rows L2
/-! ### enumerate(tuple) -/
theorem meets_enumerate_newT (l : Addr) (items : Array Value) :
    Meets (Builtin.«enumerate.__new__» ⟨[.type "enumerate", .ref l], []⟩) (fun _ R s => s.heap.IsTuple l items ∧
      R (.ok (.ret (.ref (s.heap.push { cls := .type "tuple_iterator", data := .fields #[.ref l, .int 0 0] }).objs.size)))
        { s with heap := (s.heap.push { cls := .type "tuple_iterator", data := .fields #[.ref l, .int 0 0] }).push { cls := .type "enumerate", data := .fields #[.none, .bool false, .ref s.heap.objs.size, rawInt 0, .none, .none] } }) :=
  .of_wp fun prog w A R s h => by
    obtain ⟨hp, g, d, tk, os⟩ := s; obtain ⟨hl, h⟩ := h
    have hsub := sub_enumerate
    have q1 : ∀ {A' : Around} {E : Value → Shared → Prop} {Q : Value → Shared → Prop}, Q (.ref hp.objs.size) ⟨hp.push { cls := .type "tuple_iterator", data := .fields #[.ref l, .int 0 0] }, g, d, tk, os⟩ → wpAny (model prog w) A' (pyIter (.ref l)) Q E ⟨hp, g, d, tk, os⟩ :=
      fun q => wpAny_pyIter_tuple (s := ⟨hp, g, d, tk, os⟩) hl q
    wp_walk using q1
    refine wpAny_stack_any fun st => wpAny_pure ?_
    split
    · rename_i c _ _ _ _ _
      cases (c == Value.type "enumerate")
      · wp_walk using q1
        exact ⟨_, rfl, h⟩
      · wp_walk using q1
        exact ⟨_, rfl, h⟩
    · wp_walk using q1
      exact ⟨_, rfl, h⟩
section
variable {prog : Program} {w : World} {A : Around} {E : Value → Shared → Prop} {s : Shared}
theorem call_enumerate_tup {l : Addr} {items : Array Value} {Q : Value → Shared → Prop} (hL : s.heap.IsTuple l items)
    (h : ∀ h', IsEnum h' (s.heap.objs.size + 1) s.heap.objs.size 0 .none → h'.IsTupleIter s.heap.objs.size l 0 → h'.objs.size = s.heap.objs.size + 2 →
      (∀ b o, s.heap.get? b = some o → h'.get? b = some o) → Q (.ref (s.heap.objs.size + 1)) { s with heap := h' }) :
    wpAny (model prog w) A (call (.type "enumerate") [.ref l]) Q E s := by
  refine callType_new F.called_enumerate (by decide) (F.typeCall_enumerate_1 _) (F.newCall_enumerate_1 _) (fun obj => F.args_object_init_2 obj _) F.entry_enumerate_new
    (meets_enumerate_newT l items) ⟨hL, ?_⟩
  have hz : (s.heap.push { cls := .type "tuple_iterator", data := .fields #[.ref l, .int 0 0] }).objs.size = s.heap.objs.size + 1 := Heap.size_push ..
  show _ ∧ _
  rw [hz]
  have he : IsEnum ((s.heap.push { cls := .type "tuple_iterator", data := .fields #[.ref l, .int 0 0] }).push
      { cls := .type "enumerate", data := .fields #[.none, .bool false, .ref s.heap.objs.size, rawInt 0, .none, .none] }) (s.heap.objs.size + 1) s.heap.objs.size 0 .none := by
    have := Heap.get?_push_size (s.heap.push { cls := .type "tuple_iterator", data := .fields #[.ref l, .int 0 0] })
      (o := { cls := .type "enumerate", data := .fields #[.none, .bool false, .ref s.heap.objs.size, rawInt 0, .none, .none] }) rfl
    rw [hz] at this; exact this
  refine ⟨⟨_, he, rfl⟩, h _ he ⟨_, Heap.get?_push_of_some _ (Heap.get?_push_size _ rfl), rfl, rfl⟩ (by rw [Heap.size_push, hz]) fun b o x => Heap.get?_push_of_some _ (Heap.get?_push_of_some _ x)⟩
end
/-- the tuple at a as it stands at each turn, each item in a new pair -/
def IteT (K : PySem.W.Frag) (a : Addr) : It :=
  ⟨fun i H => ∃ (xs : List V) (x : V), SqT K H a xs ∧ xs[i]? = some x, fun i H v H' => ∃ T x, v = .ref T ∧ H T = none ∧ H' = upd H T (.tup [.int (i : Nat), x]) ∧ ∀ xs, SqT K H a xs → xs[i]? = some x, fun i H => ∃ xs : List V, SqT K H a xs ∧ xs.length ≤ i⟩
theorem turn_enumT {P : Program} {w : World} {K : PySem.W.Frag} {elts : List Expr} {kk : Nat} {tpos : Pos} (a e it : Addr) :
    Turn P w K (.Tuple elts kk tpos) (IteT K a) [e, it] e (fun i h => (∃ old, IsEnum h e it ((i : Nat) : Int) old) ∧ h.IsTupleIter it a i ∧ e ≠ it ∧ a ≠ e ∧ a ≠ it) where
  mem := by simp
  obj := fun i h st b hb => by
    obtain ⟨⟨old, he⟩, ⟨o, ho, hc, hd⟩, _⟩ := st
    have e' : b = e ∨ b = it := by simpa using hb
    rcases e' with z | z
    · rw [z]; exact ⟨_, he, fun v q => nomatch q⟩
    · rw [z]; exact ⟨o, ho, fun v q => by rw [hd] at q; cases q⟩
  keep := fun i h h' st k => let ⟨⟨old, he⟩, hi, hne⟩ := st; ⟨⟨old, k e (by simp) _ he⟩, hi.at fun o q => k it (by simp) o q, hne⟩
  item := by
    intro X hP hw hK hc i pins s σ H E I hf st hg
    subst hP hw hK
    obtain ⟨⟨old, he⟩, hit, hne, hae, hai⟩ := st
    obtain ⟨xs, x, hq, hx⟩ := hg
    obtain ⟨its, rv, p, hz⟩ := I.tuple hq
    obtain ⟨u, hu, ru⟩ := rv.get hx
    have hel : e < s.heap.objs.size := Heap.lt_size he
    have hil : it < s.heap.objs.size := by obtain ⟨_, q, _⟩ := hit; exact Heap.lt_size q
    have hlt : i < its.toArray.size := by
      have := (List.getElem?_eq_some_iff.mp hu).1
      simpa using this
    have D := Draws.tuple (prog := X.prog) (w := X.w) (A := X.A.in1) (I.ok.hd hc) it a hai its.toArray
    refine wpAny_pyNext_enum_itemD D he ⟨hit, p⟩ hlt hne (by simp [hne, Ne.symm hae]) fun y h' tk hy ho hst hT hsz hk => ?_
    obtain rfl : u = y := by
      have e1 : its.toArray[i]? = some y := hy
      rw [List.getElem?_toArray, hu] at e1
      exact Option.some.inj e1
    obtain ⟨hit', _⟩ := hst
    refine ⟨_, rfl, wpAny_letOwnedTupleGo_enum (s := { s with heap := h', toks := tk + 1 }) ho fun h'' he' sb => ?_⟩
    have hT2 : h''.get? s.heap.objs.size = some { cls := .type "tuple", data := .seq #[.int i tk, u] } := (sb.2 _ (Nat.ne_of_gt hel)).trans hT
    have new : ObjOk X.prog X.w (upd H s.heap.objs.size (.tup [.int (i : Nat), x])) h'' s.heap.objs.size (.tup [.int (i : Nat), x]) :=
      ⟨by show 2 ≤ sizeLine; decide, [.int i tk, u], .cons ⟨_, rfl⟩ (.cons ru .nil), ⟨_, hT2, rfl, _, rfl⟩⟩
    have I1 : Inv X pins σ (upd H s.heap.objs.size (.tup [.int (i : Nat), x])) { s with heap := h'', toks := tk + 1 } :=
      I.turnedNew (ch := [e, it]) (fun b ob hb q => (sb.2 b (fun z => hb (by simp [z]))).trans (hk b ob (fun z => hb (by simp [z])) (fun z => hb (by simp [z])) q)) hf (Nat.le_refl _) new
    refine ⟨.ref s.heap.objs.size, _, I1, rfl, ⟨_, x, rfl, I.hok.fresh (Nat.le_refl _), rfl, fun ys hy => by rw [I.tuple_inj hy hq]; exact hx⟩, ⟨⟨u, ?_⟩, hit'.at fun o q => (sb.2 it (Ne.symm hne)).trans q, hne, hae, hai⟩, fun b hb => ?_⟩
    · have e1 : ((i + 1 : Nat) : Int) = (i : Int) + 1 := by omega
      rw [e1]; exact he'
    · have hb' : b < s.heap.objs.size := by
        have e' : b = e ∨ b = it := by simpa using hb
        rcases e' with z | z
        · rw [z]; exact hel
        · rw [z]; exact hil
      rw [upd_ne (Nat.ne_of_lt hb')]
      exact (hf b hb).1
  done := by
    intro X hP hw hK hc i pins s σ H E I hf st hg
    subst hP hw hK
    obtain ⟨⟨old, he⟩, hit, hne, hae, hai⟩ := st
    obtain ⟨xs, hq, hx⟩ := hg
    obtain ⟨its, rv, p, hz⟩ := I.tuple hq
    obtain ⟨f0, f1, f2, f3, f4, f5⟩ := hf it (by simp)
    have hl := rv.length
    -- what is drawn ends at the tuple's end
    have hnone : its.toArray[i]? = none := by simp; omega
    have hT : s.TypeIs (.ref e) "enumerate" := ⟨_, he, rfl⟩
    unfold pyNext
    refine wpAny_bind (wpAny_attempt (wpAny_callSpecial?_slot (name := Str.ofString "__next__") hT F.slot_enumerate_next
      (wpAny_call_entry F.slot_enumerate_next hT F.entry_enumerate_next ?_ (F.args_enumerate_next_1 _))))
    show wpAny _ _ (field (.ref e) 2 >>= _) _ _ _
    refine wpAny_bind (wpAny_field he rfl (x := .ref it) rfl ?_)
    refine wpAny_bind (wpAny_nextOf_tuple_end (I.ok.hd hc) hit p hnone fun h' x he' hx' => ?_)
    obtain ⟨o, ho, hcc⟩ := hx'
    refine wpAny_bind (wpAny_isInstance (T := "StopIteration") (b := true) ⟨o, ho, hcc⟩ isSubtype_stop ?_)
    exact wpAny_pure ⟨rfl, I.turned (t' := s.toks) (fun b o hb q => he' b o hb q) f0 f1 f3 f4 f5⟩
  self := fun A i s Q E st h => let ⟨⟨_, he⟩, _⟩ := st; wpAny_pyIter_enum he h
def iEnumT (K : PySem.W.Frag) (ta : TA) : TI := fun σ H R => ta σ H fun vs H1 => ∃ a xs, vs = [.ref a] ∧ ((SqL K H1 a xs ∧ R (Ite K a) H1) ∨ (SqT K H1 a xs ∧ R (IteT K a) H1))
theorem pi_enumA {X : Cx} {e : Expr} {ta : TA} {p pos tpos : Pos} {elts : List Expr} {kk : Nat} (hg : Gl X "enumerate") (hm : X.mg "enumerate" = none) (ha : PA X [e] ta) (hs : starEach [e] X.env = [(false, eval e X.env)] := by rfl) :
    PI X (.Tuple elts kk tpos) (.Call (.Name "enumerate" p) [e] [] pos) (iEnumT X.K ta) := by
  refine ⟨fun pins s σ H R I h => ?_⟩
  refine Call_ (ld_blt I hg hm boot_enumerate (PyProof.Rows.callWith_type1 (thn (ha.run pos pins s σ H _ I h) fun us s1 ⟨vs, H1, I1, r1, q1⟩ => ?_) hs rfl))
  obtain ⟨a, xs, ex, q1⟩ := q1
  subst ex
  cases r1 with
  | cons r rr =>
    cases rr
    cases r
    have fr : ∀ b, (b = s1.heap.objs.size + 1 ∨ b = s1.heap.objs.size) → FpOk X pins H1 b := fun b e' => by
      have hle : s1.heap.objs.size ≤ b := by
        rcases e' with z | z
        · rw [z]; exact Nat.le_add_right _ _
        · rw [z]; exact Nat.le_refl _
      exact I1.fpOk hle (I1.hok.fresh hle)
    rcases q1 with ⟨hq, q⟩ | ⟨hq, q⟩
    · obtain ⟨its, rv, p', hz⟩ := I1.list hq
      refine call_enumerate_list p'.isList fun h' he hit hsz hk => wpAny_pyIter_enum he ?_
      have I2 : Inv X pins σ H1 { s1 with heap := h' } := I1.kept (t' := s1.toks) hk
      exact ⟨s1.heap.objs.size + 1, [s1.heap.objs.size + 1, s1.heap.objs.size], _, _, H1, rfl, I2, turn_enum a (s1.heap.objs.size + 1) s1.heap.objs.size, ⟨⟨.none, he⟩, hit, Nat.succ_ne_self _⟩, fun b hb => fr b (by simpa using hb), q⟩
    · obtain ⟨its, rv, p', hz⟩ := I1.tuple hq
      have hal : a < s1.heap.objs.size := by obtain ⟨_, q, _⟩ := p'; exact Heap.lt_size q
      refine call_enumerate_tup p' fun h' he hit hsz hk => wpAny_pyIter_enum he ?_
      have I2 : Inv X pins σ H1 { s1 with heap := h' } := I1.kept (t' := s1.toks) hk
      exact ⟨s1.heap.objs.size + 1, [s1.heap.objs.size + 1, s1.heap.objs.size], _, _, H1, rfl, I2, turn_enumT a (s1.heap.objs.size + 1) s1.heap.objs.size, ⟨⟨.none, he⟩, hit, Nat.succ_ne_self _, Nat.ne_of_lt (Nat.lt_succ_of_lt hal), Nat.ne_of_lt hal⟩, fun b hb => fr b (by simpa using hb), q⟩
end GK

end

/-! R3 -/
section
set_option maxHeartbeats 4000000
namespace GK
open PySem PySem.Spec PyProof.Rows L2
/-! ### list(zip(list, list)) -/
theorem nolen_zip : typeLookup (.type "zip") "__len__" = pure none := by rw [typeLookup_type, builtinLookup_eq_fast]; kernel_rfl
theorem nohint_zip : typeLookup (.type "zip") "__length_hint__" = pure none := by rw [typeLookup_type, builtinLookup_eq_fast]; kernel_rfl
def ZSt (z TI TO i1 i2 a b : Addr) (i : Nat) (h : Heap) : Prop :=
  (∃ o, h.get? TO = some o) ∧ IsPair h TI (.ref i1) (.ref i2) ∧ h.IsListIter i1 a i ∧ h.IsListIter i2 b i ∧
    ((PySem.IsZip h z TI TO .none ∧ ∃ x y, IsPair h TO x y) ∨ ∃ (T : Addr) (f : Bool) (oT : Obj), PySem.IsZipHeld h z TI TO T f ∧ h.get? T = some oT ∧ T ∉ [z, TI, TO, i1, i2])
section
variable {X : Cx} {pins : List (Addr × Obj)} {σ : L2.St} {H : Hp} {s : Shared} {z TI TO i1 i2 a b : Addr}
theorem ZSt.low {i : Nat} {h : Heap} (st : ZSt z TI TO i1 i2 a b i h) : ∀ c ∈ [z, TI, TO, i1, i2], c < h.objs.size := by
  obtain ⟨⟨_, h0⟩, h1, ⟨_, h2, _⟩, ⟨_, h3, _⟩, h4⟩ := st
  have hz : z < h.objs.size := by
    rcases h4 with ⟨q, _⟩ | ⟨_, _, _, q, _⟩
    · exact Heap.lt_size q
    · exact Heap.lt_size q
  intro c hc
  have e : c = z ∨ c = TI ∨ c = TO ∨ c = i1 ∨ c = i2 := by simpa using hc
  rcases e with e | e | e | e | e
  · rw [e]; exact hz
  · rw [e]; exact Heap.lt_size h1
  · rw [e]; exact Heap.lt_size h0
  · rw [e]; exact Heap.lt_size h2
  · rw [e]; exact Heap.lt_size h3
theorem zl_item (D : ZipApart z TI TO i1 i2 a b) {A1 : Around} {E : Value → Shared → Prop} {i : Nat} {xs ys : List V} {x y : V} (I : Inv X pins σ H s) (hf : ∀ c ∈ [z, TI, TO, i1, i2], FpOk X pins H c)
    (st : ZSt z TI TO i1 i2 a b i s.heap) (hqx : SqL X.K H a xs) (hqy : SqL X.K H b ys) (hx : xs[i]? = some x) (hy : ys[i]? = some y) :
    wpAny (model X.prog X.w) A1 (pyNext (.ref z)) (fun r s1 => ∃ T, r = some (.ref T) ∧ H T = none ∧ T ∉ [z, TI, TO, i1, i2] ∧ T < s1.heap.objs.size ∧ Inv X pins σ (upd H T (.tup [x, y])) s1 ∧ ZSt z TI TO i1 i2 a b (i + 1) s1.heap) E s := by
  obtain ⟨⟨oTO, hTO0⟩, hTI, h1, h2, hz⟩ := id st
  obtain ⟨its, rv, p, _⟩ := I.list hqx
  obtain ⟨its2, rv2, p2, _⟩ := I.list hqy
  obtain ⟨u, hu, ru⟩ := rv.get hx
  obtain ⟨u2, hu2, ru2⟩ := rv2.get hy
  have newNot : ∀ (c : Addr), c ∈ [z, TI, TO, i1, i2] → H c = none := fun c hc => (hf c hc).1
  have mk : ∀ (h' : Heap), IsPair h' s.heap.objs.size u u2 → (∀ c o, c ≠ z → c ≠ TO → c ≠ i1 → c ≠ i2 → s.heap.get? c = some o → h'.get? c = some o) →
      Inv X pins σ (upd H s.heap.objs.size (.tup [x, y])) { s with heap := h' } := fun h' hT hk => by
    have new : ObjOk X.prog X.w (upd H s.heap.objs.size (.tup [x, y])) h' s.heap.objs.size (.tup [x, y]) :=
      ⟨by show 2 ≤ sizeLine; decide, [u, u2], .cons ru (.cons ru2 .nil), ⟨_, hT, rfl, _, rfl⟩⟩
    exact I.turnedNew (t' := s.toks) (ch := [z, TI, TO, i1, i2]) (fun c o hb q => hk c o (fun q' => hb (by simp [q'])) (fun q' => hb (by simp [q'])) (fun q' => hb (by simp [q'])) (fun q' => hb (by simp [q'])) q) hf (Nat.le_refl _) new
  have nn : s.heap.objs.size ∉ [z, TI, TO, i1, i2] := fun hm => Nat.lt_irrefl _ (st.low _ hm)
  rcases hz with ⟨hz, x0, y0, hTO⟩ | ⟨T, f, oT, hz, hT, nT⟩
  · refine wpAny_pyNext_zip_item D hz hTI hTO h1 h2 p.isList p2.isList (x := u) (y := u2) (by simpa using hu) (by simpa using hu2) fun h' z' TO' h1' h2' hT hsz hk => ?_
    refine ⟨s.heap.objs.size, rfl, I.hok.fresh (Nat.le_refl _), nn, by show _ < h'.objs.size; omega, mk h' hT hk, ⟨_, TO'⟩, hk _ _ D.TIz D.TITO D.TIi1 D.TIi2 hTI, h1', h2', .inr ⟨s.heap.objs.size, false, _, z', hT, nn⟩⟩
  · refine PySem.wpAny_pyNext_zip_item_held D hz hT hTI h1 h2 p.isList p2.isList (x := u) (y := u2) (by simpa using hu) (by simpa using hu2) fun h' z' h1' h2' hT' hsz hk => ?_
    have nT' : T ≠ z ∧ T ≠ i1 ∧ T ≠ i2 := by
      refine ⟨fun e => nT (by simp [e]), fun e => nT (by simp [e]), fun e => nT (by simp [e])⟩
    refine ⟨s.heap.objs.size, rfl, I.hok.fresh (Nat.le_refl _), nn, by show _ < h'.objs.size; omega, mk h' hT' (fun c o c1 _ c3 c4 q => hk c o c1 c3 c4 q), ⟨_, hk _ _ D.TOz D.TOi1 D.TOi2 hTO0⟩, hk _ _ D.TIz D.TIi1 D.TIi2 hTI, h1', h2', .inr ⟨T, true, oT, z', hk T oT nT'.1 nT'.2.1 nT'.2.2 hT, nT⟩⟩
theorem zl_done (D : ZipApart z TI TO i1 i2 a b) {A1 : Around} {E : Value → Shared → Prop} {i : Nat} {xs ys : List V} (hh : A1.handled = none) (I : Inv X pins σ H s) (hf : ∀ c ∈ [z, TI, TO, i1, i2], FpOk X pins H c)
    (st : ZSt z TI TO i1 i2 a b i s.heap) (hqx : SqL X.K H a xs) (hqy : SqL X.K H b ys) (hx : xs.length ≤ i) :
    wpAny (model X.prog X.w) A1 (pyNext (.ref z)) (fun r s1 => r = none ∧ Inv X pins σ H s1) E s := by
  obtain ⟨⟨oTO, hTO0⟩, hTI, h1, h2, hz⟩ := id st
  obtain ⟨its, rv, p, _⟩ := I.list hqx
  obtain ⟨its2, rv2, p2, _⟩ := I.list hqy
  have l1 := rv.length
  have hend : its.toArray[i]? = none ∨ its2.toArray[i]? = none := .inl (by simp; omega)
  have fin : ∀ h', (∀ c o, c ≠ z → c ≠ TO → c ≠ i1 → c ≠ i2 → s.heap.get? c = some o → h'.get? c = some o) → Inv X pins σ H { s with heap := h' } := fun h' hk =>
    I.turnedL (t' := s.toks) (ch := [z, TI, TO, i1, i2]) (fun c o hb q => hk c o (fun q' => hb (by simp [q'])) (fun q' => hb (by simp [q'])) (fun q' => hb (by simp [q'])) (fun q' => hb (by simp [q'])) q) hf
  rcases hz with ⟨hz, x0, y0, hTO⟩ | ⟨T, f, oT, hz, hT, nT⟩
  · exact wpAny_pyNext_zip_end hh D hz hTI hTO h1 h2 p.isList p2.isList hend fun h' hk => ⟨rfl, fin h' hk⟩
  · exact PySem.wpAny_pyNext_zip_end_held hh D hz hT hTI h1 h2 p.isList p2.isList hend fun h' hk => ⟨rfl, fin h' fun c o c1 _ c3 c4 q => hk c o c1 c3 c4 q⟩
/-- the pairs made so far -/
def ZPairs (xs ys : List V) (ts : List Addr) (H : Hp) : Prop := ∀ (j : Nat) (t : Addr), ts[j]? = some t → ∃ x y, xs[j]? = some x ∧ ys[j]? = some y ∧ H t = some (.tup [x, y])
theorem zl_loop (D : ZipApart z TI TO i1 i2 a b) {A1 : Around} {Rs : Result → Shared → Prop} {xs ys : List V} {S : Addr} {H0 : Hp} (hh : A1.handled = none) (hl : xs.length = ys.length) (hz : xs.length < sizeLine) (hS : S ∉ [z, TI, TO, i1, i2])
    (hqx : SqL X.K H0 a xs) (hqy : SqL X.K H0 b ys) (nS : H0 S = none)
    (hdone : ∀ H ts s, Inv X pins σ H s → Same H0 H → H S = some (.lst (ts.map V.ref)) → ts.length = xs.length → ZPairs xs ys ts H → Rs (.ok (.ret .none)) s) :
    ∀ (k i : Nat) (ts : List Addr) (H : Hp) (s : Shared), xs.length - i = k → i ≤ xs.length → ts.length = i → Inv X pins σ H s → (∀ c ∈ [z, TI, TO, i1, i2], FpOk X pins H c) → ZSt z TI TO i1 i2 a b i s.heap →
      Same H0 H → H S = some (.lst (ts.map V.ref)) → ZPairs xs ys ts H → codeAny (model X.prog X.w) A1 (.builtin "list.extend.loop" ⟨[.ref S, .ref z, .none], []⟩) Rs s := by
  intro k
  induction k with
  | zero =>
    intro i ts H s hk hi hts I hf st sm hSl zp
    refine codeAny_builtin PySem.F.entry_extend_loop ?_
    rw [Around.under_plainId PySem.F.plain_extend_loop _]
    show wpAny _ A1.in1 (pyNext (.ref z) >>= _) _ _ s
    refine wpAny_bind (wpAny_mono (zl_done D hh I hf st (sm.seq hqx) (sm.seq hqy) (by omega)) (fun r s' hr => ?_) fun e s' he => he)
    obtain ⟨rfl, I'⟩ := hr
    exact wpAny_pure (hdone H ts s' I' sm hSl (by omega) zp)
  | succ k ih =>
    intro i ts H s hk hi hts I hf st sm hSl zp
    have hlt : i < xs.length := by omega
    have hlt2 : i < ys.length := by omega
    refine codeAny_builtin PySem.F.entry_extend_loop ?_
    rw [Around.under_plainId PySem.F.plain_extend_loop _]
    show wpAny _ A1.in1 (pyNext (.ref z) >>= _) _ _ s
    refine wpAny_bind (wpAny_mono (zl_item D I hf st (sm.seq hqx) (sm.seq hqy) (List.getElem?_eq_getElem hlt) (List.getElem?_eq_getElem hlt2)) (fun r s' hr => ?_) fun e s' he => he)
    obtain ⟨T, rfl, hT, nT, hTl, I', st'⟩ := hr
    have nTS : S ≠ T := ne_of_none hSl hT
    have hSl' : upd H T (.tup [xs[i], ys[i]]) S = some (.lst (ts.map V.ref)) := by rw [upd_ne nTS]; exact hSl
    show wpAny _ A1.in1 (updateSeq S (·.push (.ref T)) >>= _) _ _ _
    obtain ⟨zz, its, kk, r2, hl2, e⟩ := I'.lstM hSl'
    have hlen : its.length = ts.length := by rw [← hl2, List.length_map]
    refine wpAny_bind (wpAny_updateSeq e rfl (wpAny_pure ⟨plainId_quiet PySem.F.plain_extend_loop _, ?_⟩) (by rw [List.size_toArray]; omega) (by show (its.toArray.push (Value.ref T)).size ≤ sizeLine + 1; rw [Array.size_push, List.size_toArray]; omega))
    have I2 := I'.lset (f := (·.push (Value.ref T))) (its' := its ++ [.ref T]) (t' := s'.toks) hSl' e (by simp) (r2.append (.cons (show RelV (V.ref T) (Value.ref T) from rfl) .nil)) (by rw [List.length_append, List.length_map, List.length_singleton]; omega)
    have hmap : ts.map V.ref ++ [V.ref T] = (ts ++ [T]).map V.ref := by rw [List.map_append]; rfl
    rw [hmap] at I2
    refine ih (i + 1) (ts ++ [T]) _ _ (by omega) hlt (by rw [List.length_append, hts]; rfl) I2 (fun c hc => ?_) ?_ (fun c o q => ?_) upd_same ?_
    · obtain ⟨f0, f1⟩ := hf c hc
      refine ⟨?_, f1⟩
      rw [upd_ne (fun q => hS (by rw [← q]; exact hc)), upd_ne (fun q => nT (by rw [← q]; exact hc))]
      exact f0
    · -- the zip stands as it stood
      obtain ⟨⟨o0, g0⟩, g1, g2, g3, g4⟩ := st'
      have up : ∀ c o, c ∈ [z, TI, TO, i1, i2] → s'.heap.get? c = some o → (s'.heap.update S (Obj.mapSeq (·.push (Value.ref T)))).get? c = some o := fun c o hc q =>
        (Heap.get?_update_other _ _ (fun q' => hS (by rw [q']; exact hc))).trans q
      refine ⟨⟨o0, up _ _ (by simp) g0⟩, up _ _ (by simp) g1, g2.at fun o q => up _ o (by simp) q, g3.at fun o q => up _ o (by simp) q, ?_⟩
      rcases g4 with ⟨q1, x1, y1, q2⟩ | ⟨T1, f1, oT1, q1, q2, q3⟩
      · exact .inl ⟨up _ _ (by simp) q1, x1, y1, up _ _ (by simp) q2⟩
      · by_cases hTS : T1 = S
        · subst hTS
          refine .inr ⟨T1, f1, _, up _ _ (by simp) q1, Heap.get?_update_self _ e rfl, q3⟩
        · exact .inr ⟨T1, f1, oT1, up _ _ (by simp) q1, (Heap.get?_update_other _ _ (Ne.symm hTS)).trans q2, q3⟩
    · rw [upd_ne (ne_of_none q nS), upd_ne (ne_of_none (sm c o q) hT)]
      exact sm c o q
    · intro j t ht
      rcases Nat.lt_or_ge j ts.length with hj | hj
      · rw [List.getElem?_append_left hj] at ht
        obtain ⟨x, y, e1, e2, e3⟩ := zp j t ht
        refine ⟨x, y, e1, e2, ?_⟩
        rw [upd_ne (ne_of e3 hSl (by intro q; cases q)), upd_ne (ne_of_none e3 hT)]
        exact e3
      · rw [List.getElem?_append_right hj] at ht
        have hj0 : j - ts.length = 0 := by
          cases hjj : j - ts.length with
          | zero => rfl
          | succ n => rw [hjj] at ht; simp at ht
        rw [hj0] at ht
        have hjt : j = i := by omega
        obtain rfl : T = t := by simpa using ht
        subst hjt
        refine ⟨_, _, List.getElem?_eq_getElem hlt, List.getElem?_eq_getElem hlt2, ?_⟩
        rw [upd_ne (Ne.symm nTS), upd_same]
theorem zl_extend (D : ZipApart z TI TO i1 i2 a b) {A1 : Around} {Rs : Result → Shared → Prop} {xs ys : List V} {S : Addr} {H0 : Hp} (hh : A1.handled = none) (hl : xs.length = ys.length) (hz : xs.length < sizeLine) (hS : S ∉ [z, TI, TO, i1, i2])
    (hqx : SqL X.K H0 a xs) (hqy : SqL X.K H0 b ys) (nS : H0 S = none)
    (hdone : ∀ H ts s, Inv X pins σ H s → Same H0 H → H S = some (.lst (ts.map V.ref)) → ts.length = xs.length → ZPairs xs ys ts H → Rs (.ok (.ret .none)) s)
    (I : Inv X pins σ H s) (hf : ∀ c ∈ [z, TI, TO, i1, i2], FpOk X pins H c) (st : ZSt z TI TO i1 i2 a b 0 s.heap) (sm : Same H0 H) (hSl : H S = some (.lst [])) :
    wpAny (model X.prog X.w) A1.in1 (Builtin.List.listExtendWith (.ref S) (.ref z) .none)
      (fun fin s' => match fin with | .done f => Rs (.ok f) s' | .again c' => c'.quiet = true ∧ codeAny (model X.prog X.w) A1 c' Rs s') (fun e s' => Rs (.error e) s') s := by
  have hSz : S ≠ z := fun q => hS (by simp [q])
  have hzip : ∃ f0, s.heap.get? z = some { cls := .type "zip", dict := none, data := .fields f0, slots := #[] } := by
    rcases st.2.2.2.2 with ⟨q, _⟩ | ⟨_, _, _, q, _⟩
    · exact ⟨_, q⟩
    · exact ⟨_, q⟩
  obtain ⟨f0, hz0⟩ := hzip
  have hT : s.TypeIs (.ref z) "zip" := ⟨_, hz0, rfl⟩
  unfold Builtin.List.listExtendWith
  refine wpAny_bind (wpAny_typeOf (T := "zip") hT ?_)
  have h1 : Builtin.List.listSameRef (.ref S) (.ref z) = false := by simp [Builtin.List.listSameRef, hSz]
  have h2 : (Value.type "zip" == Value.type "list") = false := by decide
  have h3 : (Value.type "zip" == Value.type "tuple") = false := by decide
  simp only [h1, h2, h3, Bool.or_false, Bool.false_eq_true, if_false]
  have iter : ∀ {Q : Value → Shared → Prop} {E : Value → Shared → Prop}, Q (.ref z) s → wpAny (model X.prog X.w) A1.in1 (pyIter (.ref z)) Q E s := fun {Q E} q => by
    refine wpAny_pyIter_slot hT F.slot_zip_iter (wpAny_call_entry F.slot_zip_iter hT F.entry_zip_iter ?_ (F.args_zip_iter_1 _))
    show wpAny _ _ (ret (.ref z)) _ _ s
    exact wpAny_pure ⟨_, rfl, "zip", _, hT, F.slot_zip_next.lookup, q⟩
  refine wpAny_bind (iter ?_)
  refine wpAny_bind (wpAny_holding ?_)
  unfold Builtin.List.listLengthHint
  refine wpAny_bind (wpAny_specialOf hT nolen_zip ?_)
  show wpAny _ A1.in1 (specialOf (Value.ref z) (Str.ofString "__length_hint__") >>= _) _ _ _
  refine wpAny_bind (wpAny_specialOf hT nohint_zip ?_)
  refine wpAny_pure ?_
  show wpAny _ A1.in1 (rule "list.extend.makes-room" >>= fun _ => Builtin.List.listTouch (.ref S) >>= fun _ =>
    again (.builtin "list.extend.loop" ⟨[.ref S, .ref z, .none], []⟩)) _ _ _
  obtain ⟨z1, its, k1, r3, hl3, e3⟩ := I.lstM hSl
  cases r3
  refine wpAny_bind (wpAny_rule ?_)
  refine wpAny_bind ?_
  show wpAny _ _ (updateSeq S (·.push .none) >>= fun _ => updateSeq S (·.pop)) _ _ _
  refine wpAny_bind (wpAny_updateSeq e3 rfl ?_)
  have I2 := I.lset (f := (·.push Value.none)) (its' := [Value.none]) (ys := [.non]) (t' := s.toks) hSl e3 (by simp) (.cons rfl .nil) (by rw [List.length_singleton, sizeLine_eq]; decide)
  obtain ⟨z4, its4, k4, r4, hl4, e4⟩ := I2.lstM upd_same
  obtain ⟨u4, rfl, ru4⟩ := r4.one
  refine wpAny_updateSeq e4 rfl ?_ (by show 1 ≤ sizeLine; rw [sizeLine_eq]; decide) (by show 0 ≤ sizeLine + 1; exact Nat.zero_le _)
  have I3 := I2.lset (f := (·.pop)) (its := [u4]) (its' := []) (ys := []) (t' := s.toks) upd_same e4 (by rfl) .nil (Nat.zero_le _)
  rw [upd_upd] at I3
  have hH : upd H S (.lst []) = H := by
    funext b
    by_cases hb : b = S
    · rw [hb, upd_same, hSl]
    · rw [upd_ne hb]
  rw [hH] at I3
  refine wpAny_pure ⟨plainId_quiet PySem.F.plain_extend_loop _, zl_loop D hh hl hz hS hqx hqy nS hdone xs.length 0 [] H _ (Nat.sub_zero _) (Nat.zero_le _) rfl I3 hf ?_ sm hSl (fun j t ht => by simp at ht)⟩
  have up : ∀ c o, c ∈ [z, TI, TO, i1, i2] → s.heap.get? c = some o → ((s.heap.update S (Obj.mapSeq (·.push Value.none))).update S (Obj.mapSeq (·.pop))).get? c = some o := fun c o hc q => by
    have ne : S ≠ c := fun q' => hS (by rw [q']; exact hc)
    exact (Heap.get?_update_other _ _ ne).trans ((Heap.get?_update_other _ _ ne).trans q)
  obtain ⟨⟨o0, g0⟩, g1, g2, g3, g4⟩ := st
  refine ⟨⟨o0, up _ _ (by simp) g0⟩, up _ _ (by simp) g1, g2.at fun o q => up _ o (by simp) q, g3.at fun o q => up _ o (by simp) q, ?_⟩
  rcases g4 with ⟨q1, x1, y1, q2⟩ | ⟨T1, f1, oT1, q1, q2, q3⟩
  · exact .inl ⟨up _ _ (by simp) q1, x1, y1, up _ _ (by simp) q2⟩
  · by_cases hTS : T1 = S
    · subst hTS
      exact .inr ⟨T1, f1, _, up _ _ (by simp) q1, Heap.get?_update_self _ e4 rfl, q3⟩
    · exact .inr ⟨T1, f1, oT1, up _ _ (by simp) q1, (Heap.get?_update_other _ _ (Ne.symm hTS)).trans ((Heap.get?_update_other _ _ (Ne.symm hTS)).trans q2), q3⟩
theorem zl_call (D : ZipApart z TI TO i1 i2 a b) {xs ys : List V} {Q : VK} (hc : X.calm = true) (hl : xs.length = ys.length) (hz : xs.length < sizeLine) (hqx : SqL X.K H a xs) (hqy : SqL X.K H b ys) (I : Inv X pins σ H s) (hf : ∀ c ∈ [z, TI, TO, i1, i2], FpOk X pins H c)
    (st : ZSt z TI TO i1 i2 a b 0 s.heap)
    (h : ∀ (H2 : Hp) (p : Addr) (ts : List Addr), Same H H2 → H p = none → H2 p = some (.lst (ts.map V.ref)) → ts.length = xs.length → ZPairs xs ys ts H2 → Q (.ref p) H2) :
    wpAny (model X.prog X.w) X.A (call (.type "list") [.ref z]) (EP X pins σ Q) X.xe s := by
  refine callType_codes (Q₁ := fun obj s₁ => obj = .ref s.heap.objs.size ∧ s₁ = { s with heap := s.heap.push { cls := .type "list", data := .seq #[] } }) PySem.F.called_list (PySem.F.typeCall_list_1 _) PySem.F.entry_list_init
    (code_list_new _ ⟨rfl, rfl⟩) fun obj s₁ h₁ => ?_
  obtain ⟨rfl, rfl⟩ := h₁
  have hS : (s.heap.push { cls := .type "list", data := .seq #[] }).get? s.heap.objs.size = some { cls := .type "list", data := .seq #[] } := Heap.get?_push_size _ rfl
  refine ⟨⟨_, hS, rfl⟩, PySem.F.args_list_init_2 _ _, ?_⟩
  have fr : H s.heap.objs.size = none := I.hok.fresh (Nat.le_refl _)
  have nn : s.heap.objs.size ∉ [z, TI, TO, i1, i2] := fun hm => Nat.lt_irrefl _ (st.low _ hm)
  have I1 : Inv X pins σ (upd H s.heap.objs.size (.lst [])) { s with heap := s.heap.push { cls := .type "list", data := .seq #[] } } := I.lnew (its := []) (t' := s.toks) .nil (Nat.zero_le _)
  show wpAny _ _ (do let old ← Builtin.List.listItems (.ref s.heap.objs.size); Builtin.List.listUpdate (.ref s.heap.objs.size) (fun _ => #[]); letGo old.toList.reverse; Builtin.List.listExtendWith (.ref s.heap.objs.size) (.ref z) .none) _ _ _
  refine wpAny_bind ?_
  unfold Builtin.List.listItems
  refine wpAny_bind (wpAny_seqItems hS rfl (wpAny_pure ?_))
  show wpAny _ _ (updateSeq s.heap.objs.size (fun _ => #[]) >>= fun _ => letGo (#[] : Array Value).toList.reverse >>= fun _ => Builtin.List.listExtendWith (.ref s.heap.objs.size) (.ref z) .none) _ _ _
  refine wpAny_bind (wpAny_updateSeq hS rfl ?_)
  have I2 := I1.lset (f := fun _ => #[]) (its := []) (its' := []) (ys := []) (t' := s.toks) upd_same hS rfl .nil (Nat.zero_le _)
  rw [upd_upd] at I2
  refine wpAny_bind (wpAny_letGo ?_)
  have sm : Same H (upd H s.heap.objs.size (.lst [])) := fun c o q => by rw [upd_ne (ne_of_none q fr)]; exact q
  have up : ∀ c o, s.heap.get? c = some o → ((s.heap.push { cls := .type "list", data := .seq #[] }).update s.heap.objs.size (Obj.mapSeq (fun _ => (#[] : Array Value)))).get? c = some o := fun c o q =>
    (Heap.get?_update_other _ _ (Nat.ne_of_gt (Heap.lt_size q))).trans (Heap.get?_push_of_some _ q)
  refine zl_extend (A1 := X.A.in1) (Rs := wants (fun r s₂ => r = .none ∧ EP X pins σ Q (.ref s.heap.objs.size) s₂) X.xe) D (I.ok.hd hc) hl hz nn hqx hqy fr
    (fun H' ts s' I' sm' hl' hlen zp => ⟨rfl, .ref s.heap.objs.size, H', I', rfl, h H' _ ts sm' fr hl' hlen zp⟩) I2 (fun c hcm => ?_) ?_ sm upd_same
  · obtain ⟨f0, f1⟩ := hf c hcm
    exact ⟨by rw [upd_ne (fun q => nn (by rw [← q]; exact hcm))]; exact f0, f1⟩
  · obtain ⟨⟨o0, g0⟩, g1, g2, g3, g4⟩ := st
    refine ⟨⟨o0, up _ _ g0⟩, up _ _ g1, g2.at fun o q => up _ o q, g3.at fun o q => up _ o q, ?_⟩
    rcases g4 with ⟨q1, x1, y1, q2⟩ | ⟨T1, f1, oT1, q1, q2, q3⟩
    · exact .inl ⟨up _ _ q1, x1, y1, up _ _ q2⟩
    · exact .inr ⟨T1, f1, oT1, up _ _ q1, up _ _ q2, q3⟩
end
def tListZip (K : PySem.W.Frag) (ta : TA) : TE := fun σ H Q => ta σ H fun vs H1 => ∃ a b xs ys, vs = [.ref a, .ref b] ∧ SqL K H1 a xs ∧ SqL K H1 b ys ∧ xs.length = ys.length ∧ xs.length < sizeLine ∧
  ∀ (H2 : Hp) (p : Addr) (ts : List Addr), Same H1 H2 → H1 p = none → H2 p = some (.lst (ts.map V.ref)) → ts.length = xs.length → ZPairs xs ys ts H2 → Q (.ref p) H2
theorem pe_listZip {X : Cx} {e e2 : Expr} {ta : TA} {p p2 zpos pos : Pos} (hc : X.calm = true) (hg : Gl X "list") (hm : X.mg "list" = none) (hgz : Gl X "zip") (hmz : X.mg "zip" = none) (ha : PA X [e, e2] ta) (hv : bootBuiltins "list" = some (.type "list") := by decide +kernel)
    (hs : starEach [.Call (.Name "zip" p2) [e, e2] [] zpos] X.env = (false, eval (.Call (.Name "zip" p2) [e, e2] [] zpos) X.env) :: starEach [] X.env := by rfl)
    (hs2 : starEach [e, e2] X.env = (false, eval e X.env) :: starEach [e2] X.env := by rfl) (hpl : (backTo zpos (starEach [e2] X.env)).any (·.1) = false := by rfl) :
    PE X (.Call (.Name "list" p) [.Call (.Name "zip" p2) [e, e2] [] zpos] [] pos) (tListZip X.K ta) := by
  refine ⟨fun pins s σ H Q I h => ?_⟩
  refine wpAny_Call_Name_kw (ld_blt I hg hm hv ?_)
  refine PyProof.Rows.callWith_type1 ?_ hs rfl
  rw [hs]
  show wpAny _ _ (spliced ((false, eval (.Call (.Name "zip" p2) [e, e2] [] zpos) X.env) :: backTo pos (starEach [] X.env))) _ _ s
  refine Calls.spliced_cons ?_
  refine wpAny_Call_Name_kw (ld_blt I hgz hmz PyProof.Rows.boot_zip (PyProof.Rows.callWith_type1 (thn (ha.run zpos pins s σ H _ I h) fun us s1 ⟨vs, H1, I1, r1, q1⟩ => ?_) hs2 hpl))
  obtain ⟨a, b, xs, ys, ex, hqx, hqy, hl, hz, q⟩ := q1
  subst ex
  cases r1 with
  | cons r rr =>
    cases rr with
    | cons r' rr =>
      cases rr
      cases r
      cases r'
      obtain ⟨its, rv, pl1, _⟩ := I1.list hqx
      obtain ⟨its2, rv2, pl2, _⟩ := I1.list hqy
      have al : a < s1.heap.objs.size := by obtain ⟨_, q, _⟩ := pl1.isList; exact Heap.lt_size q
      have bl : b < s1.heap.objs.size := by obtain ⟨_, q, _⟩ := pl2.isList; exact Heap.lt_size q
      refine call_zip_2 pl1.isList pl2.isList fun h' hzz hTI hTO h1 h2 hsz hk => ?_
      have I2 : Inv X pins σ H1 { s1 with heap := h' } := I1.kept (t' := s1.toks) hk
      refine Calls.spliced_nil ?_
      have fr : ∀ c ∈ [s1.heap.objs.size + 4, s1.heap.objs.size + 2, s1.heap.objs.size + 3, s1.heap.objs.size, s1.heap.objs.size + 1], FpOk X pins H1 c := fun c hcm => by
        have e' : c = s1.heap.objs.size + 4 ∨ c = s1.heap.objs.size + 2 ∨ c = s1.heap.objs.size + 3 ∨ c = s1.heap.objs.size ∨ c = s1.heap.objs.size + 1 := by simpa using hcm
        have hle : s1.heap.objs.size ≤ c := by omega
        exact I1.fpOk hle (I1.hok.fresh hle)
      refine zl_call (z := s1.heap.objs.size + 4) (TI := s1.heap.objs.size + 2) (TO := s1.heap.objs.size + 3) (i1 := s1.heap.objs.size) (i2 := s1.heap.objs.size + 1) (a := a) (b := b) (xs := xs) (ys := ys) ⟨?_, ?_, ?_, ?_, ?_, ?_, ?_, ?_, ?_, ?_, ?_, ?_, ?_, ?_, ?_, ?_, ?_, ?_⟩ hc hl hz hqx hqy I2 fr ⟨⟨_, hTO⟩, hTI, h1, h2, .inl ⟨hzz, _, _, hTO⟩⟩ q
      all_goals first | (exact Nat.ne_of_lt (Nat.lt_of_lt_of_le al (Nat.le_add_right _ _))) | (exact Nat.ne_of_lt (Nat.lt_of_lt_of_le bl (Nat.le_add_right _ _))) | (exact Nat.ne_of_lt al) | (exact Nat.ne_of_lt bl) | (intro q; have q' : (_ : Nat) = _ := q; omega)
end GK

end

/-! R4 -/
section
set_option maxHeartbeats 4000000
namespace GK
open PySem PySem.Spec PyProof.Rows L2
/-! ### own operators: ==, != by ==, in, + -/
theorem wpAny_callSpecialIfBound?_blt {M : Model} {A : Around} {E : Value → Shared → Prop} {s : Shared} {K : PySem.W.Frag} {x C : Addr} {ox : Obj} {od : Option Obj} {name : Str} {T : String} {id : String} {args : List Value} {Q : Option Value → Shared → Prop} (X : K.In s.heap) (I : PySem.W.InstAt s.heap x ox C od)
    (hs : PySem.W.findIn K (.ref C) name = some (some (.builtin id))) (S : Slot T name id)
    (h : wpAny M A (call (.builtin id) (.ref x :: args)) (fun v => Q (some v)) E s) : wpAny M A (callSpecialIfBound? (.ref x) name args) Q E s := by
  simp only [callSpecialIfBound?, bindSpecialIfBound?]
  refine wpAny_holding (wpAny_bind (wpAny_bind (wpAny_bind (I.type.here ((PySem.W.looks_findIn X hs).here ?_)))))
  simp only [S.bind]
  refine wpAny_bind (wpAny_askSetting (wpAny_ite ?_))
  have fin : wpAny M A (call (.builtin id) ([.ref x] ++ args) >>= fun v => pure (some v)) Q E s := wpAny_bind (wpAny_mono h (fun v s' h' => wpAny_pure h') fun _ _ h' => h')
  split
  · exact wpAny_bind (wpAny_pure (wpAny_pure fin))
  · exact wpAny_tryCatch (wpAny_bind (wpAny_pure (wpAny_pure fin)))
theorem slot_obj_ne : Slot "object" "__ne__" "object.__ne__" :=
  Slot.of (T := "object") (name := "__ne__") (owner := "object") (n := "__ne__") (by rw [typeLookup_type, builtinLookup_eq_fast]; kernel_rfl) (by decide +kernel) (by decide +kernel) (by decide +kernel)
    (.inl (by decide +kernel)) (by rw [isSubtype_type]; kernel_rfl)
section
variable {X : Cx} {pins : List (Addr × Obj)} {σ : L2.St} {H : Hp} {s : Shared} {n : Nat} {C f : Addr} {fd : FuncData} {ps : List Str} {sp : Sp} {A : Around}
theorem run_at (sb : Sub X n A) (Fm : FnOk X.prog X.w X.K X.mg X.base CX0 n f fd ps sp) (hb : Binds X.K fd ps []) {Q : VK} {us : List Value} {vs : List V} {E : Value → Shared → Prop} (I : Inv X pins σ H s) (r : Vals vs us) (h : sp vs H Q E0) :
    wpAny (model X.prog X.w) A (call (.ref f) us) (EP X pins σ Q) E s := by
  have e0 : Env0 X.prog X.w X.K X.mg X.base A X.stack s H := by
    have e := I.env0
    exact ⟨by rw [sb.fr]; exact e.frames, e.mod, e.bs, e.bsz, e.funs, e.frf, e.hok, e.bare⟩
  have hl := Fm.len _ _ _ _ h
  have hlu : us.length = ps.length := by rw [← r.length]; exact hl
  refine wpAny_call (codeAny_mono (Fm.run A X.stack s H ⟨us, []⟩ us vs Q E0 sb.room e0 (by
    have := hb s us I.kIn (by simpa using hlu)
    simpa using this) r h) fun r s' hq => ?_)
  cases r with
  | error e => exact False.elim hq
  | ok fl =>
    cases fl with
    | ret w => exact I.after hq
    | next => exact False.elim hq
    | brk => exact False.elim hq
    | cont => exact False.elim hq
/-- both instances of the class at C, the method's promise gives a bool -/
def rOwn2 (C : Addr) (sp : Sp) (g : Bool → Bool) : R2 := fun x y H Q => ∃ a b dx dy fs gs, x = .ref a ∧ y = .ref b ∧ H a = some (.ins C dx fs) ∧ H b = some (.ins C dy gs) ∧ sp [.ref a, .ref b] H (fun v H' => ∃ k, v = .bl k ∧ Q (.bl (g k)) H') E0
theorem op_ownEq (Fm : FnOk X.prog X.w X.K X.mg X.base CX0 n f fd ps sp) (hr : Room n X.A) (hb : Binds X.K fd ps []) (hs : PySem.W.findIn X.K (.ref C) "__eq__" = some (some (.ref f))) (hf : PySem.W.isFn X.K (.ref f) = true) :
    OpR X (compareOp .Eq) (rOwn2 C sp id) := by
  intro pins s σ H x y v u Q I rx ry h
  obtain ⟨a, b, dx, dy, fs, gs, rfl, rfl, ha, hb', hsp⟩ := h
  cases rx
  cases ry
  obtain ⟨mA, J, _⟩ := ins_get I.hok ha
  obtain ⟨mB, J', _⟩ := ins_get I.hok hb'
  obtain ⟨od, J, _⟩ := J.look
  obtain ⟨od', J', _⟩ := J'.look
  obtain ⟨m, hF⟩ := I.fr
  show wpAny (model X.prog X.w) X.A (richCompare .Eq (.ref a) (.ref b)) (EP X pins σ Q) X.xe s
  refine PySem.W.cmp_K (op := .Eq) (tb := .ref C) hr.units0 hF I.ok.mod.kin J J'.type (by simp [PySem.W.notFirst]) hs hf ?_
  refine wpAny_mono (run_at (vs := [V.ref a, V.ref b]) (us := [Value.ref a, Value.ref b]) ⟨hr, rfl⟩ Fm hb I (.cons rfl (.cons rfl .nil)) hsp) (fun w s' hq => ?_) fun _ _ z => z
  obtain ⟨z, H', I', rz, k, ez, q⟩ := hq
  subst ez
  cases rz
  exact ⟨.bl k, H', I', rfl, q⟩
theorem op_ownNe (Fm : FnOk X.prog X.w X.K X.mg X.base CX0 n f fd ps sp) (hr : Room (n + 2) X.A) (hb : Binds X.K fd ps []) (hs : PySem.W.findIn X.K (.ref C) "__eq__" = some (some (.ref f))) (hf : PySem.W.isFn X.K (.ref f) = true)
    (hne : PySem.W.findIn X.K (.ref C) "__ne__" = some (some (.builtin "object.__ne__"))) (hob : PySem.W.subIn X.K (.ref C) (.type "object") = some true) : OpR X (compareOp .NotEq) (rOwn2 C sp not) := by
  intro pins s σ H x y v u Q I rx ry h
  obtain ⟨a, b, dx, dy, fs, gs, rfl, rfl, ha, hb', hsp⟩ := h
  cases rx
  cases ry
  obtain ⟨mA, J, _⟩ := ins_get I.hok ha
  obtain ⟨mB, J', _⟩ := ins_get I.hok hb'
  obtain ⟨od, J, _⟩ := J.look
  obtain ⟨od', J', _⟩ := J'.look
  have hu : X.A.in1.units < cLine := by
    have := hr.un
    show X.A.units + 1 < _
    omega
  have sb : Sub X n X.A.in1 := ((⟨hr.mono (by omega), rfl⟩ : Sub X (n + 1) X.A)).in1
  have L1 : PySem.W.Looks (model X.prog X.w) s.heap (isInstance (.ref a) (.type "object")) true := J.type.andThen (PySem.W.looks_subIn I.kIn hob)
  show wpAny (model X.prog X.w) X.A (richCompare .NotEq (.ref a) (.ref b)) (EP X pins σ Q) X.xe s
  unfold richCompare
  simp only [PySem.oneThing_ref]
  refine wpAny_holding (wpAny_bind (wpAny_cRoomFor hr.units0 ?_))
  rw [cmpInfo_NotEq]
  dsimp only
  refine wpAny_bind (J.type.here (wpAny_bind (J'.type.here ?_)))
  rw [show (Value.ref C != Value.ref C) = false from by simp]
  simp only [Bool.false_eq_true, if_false]
  refine wpAny_bind (wpAny_pure ?_)
  simp only [Bool.false_eq_true, if_false]
  refine wpAny_bind (m := tryCompare (.ref a) "__ne__" (.ref b)) ?_
  unfold tryCompare
  refine wpAny_bind (wpAny_callSpecialIfBound?_blt I.kIn J hne slot_obj_ne ?_)
  refine wpAny_call (codeAny_call_builtin slot_obj_ne.plain F.cmpEntry_ne (@PySem.W.check_slot (model X.prog X.w) _ _ s "object.__ne__" "object" "__ne__" (.ref a) [.ref b] [] _ F.cmpKind_ne F.cmpSplit_ne L1 (F.cmpArgs_ne (.ref a) (.ref b)) ?_))
  have fin : ∀ {Q' : Fin → Shared → Prop}, (∀ k s', EP X pins σ Q (.bool (!k)) s' → Q' (.done (.ret (.bool (!k)))) s') → wpAny (model X.prog X.w) X.A.in1 (Builtin.«object.__ne__» ⟨[.ref a, .ref b], []⟩) Q' X.xe s := fun {Q'} hQ' => by
    obtain ⟨h0, g0, d0, t0, o0⟩ := s
    unfold Builtin.«object.__ne__»
    repeat (first
      | with_reducible refine wpAny_cRoomFor hu ?_
      | (refine wpAny_bind (m := callSpecialIfBound? (.ref a) (Str.ofString "__eq__") [.ref b])
          (PySem.W.ifBound_K I.kIn J hs hf (wpAny_mono (run_at (vs := [V.ref a, V.ref b]) (us := [Value.ref a, Value.ref b]) sb Fm hb I (.cons rfl (.cons rfl .nil)) hsp) (fun r s' hr' => by
            obtain ⟨z, H', I', rz, k, ez, q⟩ := hr'
            subst ez
            cases rz
            have hq := hQ' k s' ⟨.bl (!k), H', I', rfl, q⟩
            repeat (first | exact hq | exact wpAny_pure hq | exact wpAny_truthy_bool hq | (refine wpAny_bind (m := truthy (.bool _)) (wpAny_truthy_bool ?_)) | wp_step)) fun _ _ e => e)))
      | wp_step)
  refine wpAny_mono (fin (Q' := fun fi s' => ∃ k, fi = .done (.ret (.bool (!k))) ∧ EP X pins σ Q (.bool (!k)) s') fun k s' q => ⟨k, rfl, q⟩) (fun fi s' q => ?_) fun _ _ z => z
  obtain ⟨k, rfl, q⟩ := q
  first | exact wpAny_pure q | exact q | exact wpAny_pure (wpAny_pure q)
/-- x in c, c an instance -/
def rOwnIn (C : Addr) (sp : Sp) : R2 := fun x y H Q => ∃ b dy gs, y = .ref b ∧ H b = some (.ins C dy gs) ∧ sp [.ref b, x] H (fun v H' => ∃ k, v = .bl k ∧ Q (.bl k) H') E0
theorem op_ownIn (Fm : FnOk X.prog X.w X.K X.mg X.base CX0 n f fd ps sp) (hr : Room n X.A) (hb : Binds X.K fd ps []) (hs : PySem.W.findIn X.K (.ref C) "__contains__" = some (some (.ref f))) (hf : PySem.W.isFn X.K (.ref f) = true) :
    OpR X (compareOp .In) (rOwnIn C sp) := by
  intro pins s σ H x y v u Q I rx ry h
  obtain ⟨b, dy, gs, rfl, hb', hsp⟩ := h
  cases ry
  obtain ⟨mB, J', _⟩ := ins_get I.hok hb'
  obtain ⟨od', J', _⟩ := J'.look
  obtain ⟨m, hF⟩ := I.fr
  refine PySem.W.in_K hF I.ok.mod.kin J' hs hf ?_
  refine wpAny_mono (run_at (vs := [V.ref b, x]) (us := [Value.ref b, v]) ⟨hr, rfl⟩ Fm hb I (.cons rfl (.cons rx .nil)) hsp) (fun w s' hq => ?_) fun _ _ z => z
  obtain ⟨z, H', I', rz, k, ez, q⟩ := hq
  subst ez
  cases rz
  exact wpAny_truthy_bool ⟨.bl k, H', I', rfl, q⟩
/-- a + b, both instances of the class; an instance comes back -/
def rOwnAdd (C : Addr) (sp : Sp) : R2 := fun x y H Q => ∃ a b dx dy fs gs, x = .ref a ∧ y = .ref b ∧ H a = some (.ins C dx fs) ∧ H b = some (.ins C dy gs) ∧ sp [.ref a, .ref b] H (fun v H' => ∃ p, v = .ref p ∧ Q (.ref p) H') E0
theorem op_ownAdd (Fm : FnOk X.prog X.w X.K X.mg X.base CX0 n f fd ps sp) (hr : Room n X.A) (hb : Binds X.K fd ps []) (hs : PySem.W.findIn X.K (.ref C) "__add__" = some (some (.ref f))) (hf : PySem.W.isFn X.K (.ref f) = true)
    (hsf : PySem.W.selfFirst X.K C = true) : OpR X (binaryOp .Add) (rOwnAdd C sp) := by
  intro pins s σ H x y v u Q I rx ry h
  obtain ⟨a, b, dx, dy, fs, gs, rfl, rfl, ha, hb', hsp⟩ := h
  cases rx
  cases ry
  obtain ⟨mA, J, _⟩ := ins_get I.hok ha
  obtain ⟨mB, J', _⟩ := ins_get I.hok hb'
  obtain ⟨od, J, _⟩ := J.look
  obtain ⟨od', J', _⟩ := J'.look
  obtain ⟨m, hF⟩ := I.fr
  refine PySem.W.binop_K (op := .Add) hF I.ok.mod.kin J J'.type hsf hs hf ?_
  refine wpAny_mono (run_at (vs := [V.ref a, V.ref b]) (us := [Value.ref a, Value.ref b]) ⟨hr, rfl⟩ Fm hb I (.cons rfl (.cons rfl .nil)) hsp) (fun w s' hq => ?_) fun _ _ z => z
  obtain ⟨z, H', I', rz, p, ez, q⟩ := hq
  subst ez
  cases rz
  exact ⟨.ref p, H', I', rfl, q⟩
end
end GK

end

/-! R5 -/
section
set_option maxHeartbeats 4000000
namespace GK
open PySem PySem.Spec PyProof.Rows L2
/-! ### a def called while an exception is handled, that raises nothing itself -/
structure FnW (P : Program) (w : World) (K : PySem.W.Frag) (mg : Str → Option Value) (base : Heap) (k : Nat) (f : Addr) (fd : FuncData) (ps : List Str) (sp : Sp) : Prop where
  len : ∀ vs H Q E, sp vs H Q E → vs.length = ps.length
  run : ∀ (A : Around) (outer : List Env) (s : Shared) (H : Hp) (us : List Value) (vs : List V) (Q : VK), L2H.RoomH k A → Env0 P w K mg base A outer s H → BindsTo s fd ⟨us, []⟩ (ps.zip us) → Vals vs us → sp vs H Q E0 →
    codeAny (model P w) A (.call (.ref f) ⟨us, []⟩) (CR CX0 outer P w H s Q E0) s
def cxW (P : Program) (w : World) (K : PySem.W.Frag) (mg : Str → Option Value) (base : Heap) (N : List Str) (qual : Str) (scope : Scope) (f : Addr) (cd : Value) (A : Around) (outer : List Env) (s : Shared) (H : Hp) : Cx :=
  { cxOf CX0 P w K mg base N qual scope f cd A outer s H E0 with calm := false }
theorem inv_startW {P : Program} {w : World} {K : PySem.W.Frag} {mg : Str → Option Value} {base : Heap} {N ps : List Str} {qual : Str} {scope : Scope} {f : Addr} {cd : Value} {A : Around} {outer : List Env} {s s1 : Shared} {H : Hp} {us : List Value} {vs : List V}
    (S : FnScope N ps scope) (e0 : Env0 P w K mg base A outer s H) (hl : vs.length = ps.length) (r : Vals vs us)
    (x : InCallC s s.heap.objs.size (bindL (envOfC qual scope s.heap.objs.size f cd).kindOf (ps.zip us) fun _ => none) (cellsFrom (s.heap.objs.size + 1) scope.names []) (bindC (envOfC qual scope s.heap.objs.size f cd).kindOf (ps.zip us) fun _ => none) s1) :
    Inv (cxW P w K mg base N qual scope f cd A outer s H) [] (L2.start N vs) H s1 := by
  have e1 : Env0 P w K mg base { A with handled := none } outer s H := ⟨e0.frames, e0.mod, e0.bs, e0.bsz, e0.funs, e0.frf, e0.hok, e0.bare⟩
  have I := inv_start (CX := CX0) (E := E0) S (A := { A with handled := none }) rfl e1 hl r x
  have ok := I.ok
  exact ⟨⟨ok.mod, ok.kind, ok.glob, ok.blt, ok.above, ok.inj, ok.has, ok.cab, (fun z => Bool.noConfusion (show false = true from z)), Around.frames_deeper e0.frames, ok.stk, ok.exf, ok.bs, ok.bsz, ok.noex, ok.exfs, ok.funs, ok.frf⟩,
    I.os, I.bare, I.base, I.loc, I.cell, I.free, I.freeC, I.pin, I.hok, I.len⟩
theorem Fun.okW {P : Program} {w : World} {K : PySem.W.Frag} {mg : Str → Option Value} {base : Heap} {x qual : Str} {st : Stmt} {f : Addr} {fd : FuncData} {N ps : List Str} {k : Nat} {sp : Sp} (F : Fun K x qual st f fd) (S : FnScope N ps (defScope st)) (len : ∀ vs H Q E, sp vs H Q E → vs.length = ps.length)
    (hbody : ∀ (cdv : Value) (A : Around) (outer : List Env) (s : Shared) (H : Hp) (vs : List V) (Q : VK), L2H.RoomH k (A.deeper (envOfC qual (defScope st) s.heap.objs.size f cdv)) → sp vs H Q E0 →
      ∃ t, PSs (cxW P w K mg base N qual (defScope st) f cdv A outer s H) (defBody st) t ∧ t { nx := fun _ H' => Q .non H', rt := Q } (start N vs) H) : FnW P w K mg base (k + 1) f fd ps sp := by
  obtain ⟨oc, od, kV, doc, pm, an, cdv, ct, osl, rfl, lk, hcd⟩ := F.ex
  refine ⟨len, fun A outer s H us vs Q hr e0 hb r hsp => ?_⟩
  have hl := len _ _ _ _ hsp
  have KX : K.In s.heap := e0.mod.kin.keeps fun b o e => (e0.bs b o e).1
  have lim : s.heap.NoLimit := e0.mod.nolimit.keeps fun b o e => (e0.bs b o e).1
  have hkind : ∀ y ∈ ps.zip us, (defScope st).names.lookup y.1 = some .local ∨ ((defScope st).names.lookup y.1 = some .cell ∧ ((cellsFrom (s.heap.objs.size + 1) (defScope st).names []).lookup y.1).isSome = true) := fun ⟨n, v⟩ hy => by
    rcases S.par n (List.of_mem_zip hy).1 with q | q
    · exact .inl q
    · exact .inr ⟨q, PySem.W.cellsFrom_some _ _ _ (.inl q)⟩
  refine codeAny_call_function hr.depth (KX _ _ lk) rfl S.co S.gen rfl (PySem.W.codeRec_of KX hcd) (hb _ _ _ _ ?_)
  refine wpAny_newFunctionEnv_cells S.kind hkind fun env he s1 x => ?_
  subst he
  refine ⟨lim.keeps x.toInCall.keep, codeAny_func ?_⟩
  obtain ⟨t, ht, hq⟩ := hbody cdv A outer s H vs Q (hr.deeper _) hsp
  have I : Inv (cxW P w K mg base N qual (defScope st) f cdv A outer s H) [] (L2.start N vs) H s1 := inv_startW S e0 hl r x
  refine wpAny_mono (ht.run [] s1 (L2.start N vs) H _ I hq) (fun fl s' hs => ?_) fun e s' hs => hs
  have fin : ∀ {σ' : L2.St} {H' : Hp} {v : V} {u : Value}, Inv (cxW P w K mg base N qual (defScope st) f cdv A outer s H) [] σ' H' s' → RelV v u → Q v H' → CE outer P w H s Q u s' :=
    fun {σ' H' v u} J rv q => ⟨v, H', J.os, J.bare, J.base, J.hok, rv, q⟩
  cases fl with
  | ret u =>
    obtain ⟨v, σ', H', J, rv, q⟩ := hs
    exact fin J rv q
  | next =>
    obtain ⟨σ', H', J, q⟩ := hs
    exact fin (v := V.non) (u := Value.none) J rfl q
  | brk =>
    obtain ⟨_, _, _, q⟩ := hs
    exact False.elim q
  | cont =>
    obtain ⟨_, _, _, q⟩ := hs
    exact False.elim q

/-! ### with: the body raises -/
/-- what is wished of an exception of the body: __exit__ runs, then Wout -/
def wWith (a : Addr) (sp : Sp) (Wout : WX) : WX := fun cls d σ H => ∃ T : String, cls = .type T ∧ ∀ (x t : V), sp [.ref a, .ty T, x, t] H (fun v H' => v = .non ∧ Wout cls d σ H') E0
def tWith (C : Addr) (spE spX : Sp) (Wout : WX) (tc : TE) (tb : WX → TS) : TS := fun D σ H => tc σ H fun x H1 => ∃ a dx fs, x = .ref a ∧ H1 a = some (.ins C dx fs) ∧
  spE [.ref a] H1 (fun _ H2 => tb (wWith a spX Wout) { nx := fun _ _ => False, rt := fun _ _ => False } σ H2) E0
section
variable {X : Cx} {ctx : Expr} {body : List Stmt} {pos : Pos} {C fe fx : Addr} {fdE fdX : FuncData} {psE psX : List Str} {spE spX : Sp} {kE kX : Nat} {tc : TE} {tb : WX → TS} {Wout : WX}
theorem with_exc {pins : List (Addr × Obj)} {D : Ends} {u : Value} {s' : Shared} {a : Addr} {cpos : Pos} (hs : X.stack = X.env :: X.outer) (hf : X.env.frame = some X.env.locals) (hex : X.ex = []) (ok : X.Ok) (tk : Takes X Wout) (hr : Room kX X.A)
    (Fx : FnW X.prog X.w X.K X.mg X.base kX fx fdX psX spX) (bX : Binds X.K fdX psX [])
    {xe : Value → Shared → Prop} (xx : XE (X.tr (X.pn ++ pins) xe) (wWith a spX Wout) u s') :
    wpAny (model X.prog X.w) X.A (do
      noteFrame u X.env
      setFlight u none
      standAt cpos
      holding [u] do
      let r ← withItem.marked u (.call (.ref fx) ⟨[.ref a] ++ [← typeOf u, u, ← tracebackOf u], []⟩)
      let r ← pure r
      let swallow ← match r with
        | .none => pure false
        | .bool b => pure b
        | _ => do pure ((← withItem.marked u (.call (.type "bool") ⟨[r], []⟩)) == .bool true)
      if swallow then rule "with.exit-swallows"; setFlight u none; pure .next else passOn "with" u X.env) (SP X pins D) X.xe s' := by
  have hfr : X.A.frames = some (X.env :: X.outer) := by rw [ok.frames, hs]
  obtain ⟨b, B, sI, pins', σ', H', cls, d, rfl, J', nb, up, sky, na, os, ag, Tn, rfl, hw⟩ := xx
  have J : Inv X pins σ' H' sI := J'.ofTry ok
  have sky' : Sky B (X.env :: X.outer) b (Zc (.type Tn) d) X.env.locals s'.heap := by rw [← hs]; exact sky
  refine wpAny_bind (wpAny_mono (Sky.land (Q := fun _ s3 => ∃ h3, HandSPX.FlyingZ B (X.env :: X.outer) b (Zc (.type Tn) d) h3 ∧ s'.heap.UpToSlots h3 ∧ s3 = { s' with heap := h3 }) (E₁ := X.xe) Zc.steady hfr hf sky' fun h3 fl3 up3 => ⟨h3, fl3, up3, rfl⟩) (fun _ s2 h2 => wpAny_bind (wpAny_mono h2 (fun _ s3 h3 => ?_) fun _ _ z => z)) fun _ _ z => z)
  obtain ⟨h3, fl3, up3, rfl⟩ := h3
  refine wpAny_bind (wpAny_standAt (wpAny_holding ?_))
  have J3 : Inv X pins σ' H' { s' with heap := h3 } := J.landed nb fl3.1 (up.trans up3) os ag
  obtain ⟨k1, k2, k3, oe, vs, T, oT, ts, he3, hz, hd, hv1, hnT, hTe, hT, hdT, ht3⟩ := id fl3
  refine wpAny_bind (wpAny_typeOf_ref (s := { s' with heap := h3 }) he3 ?_)
  rw [hz.1]
  have notFr : ∀ (c : Addr) (o : Obj) (fv : Array Value), h3.get? c = some o → o.data = .fields fv → c ∉ frs (X.env :: X.outer) := fun c o fv e dd hm => by
    obtain ⟨_, o', e', hnf⟩ := k3.mem hm
    have eo : o = o' := Option.some.inj (e.symm.trans e')
    rw [← eo] at hnf
    exact hnf _ dd
  have fa := notFr b oe vs he3 hd
  have fT := notFr T oT ts hT hdT
  have nT : H' T = none := (J.inGround nb).gone hnT
  have tbk : ∀ {Q : Value → Shared → Prop} {E : Value → Shared → Prop}, (∀ v x, RelV x v → Q v { s' with heap := h3 }) → wpAny (model X.prog X.w) X.A (tracebackOf (.ref b)) Q E { s' with heap := h3 } := fun {Q E} q => by
    unfold tracebackOf
    refine wpAny_bind (wpAny_field he3 hd hv1 ?_)
    dsimp only
    have hsz : 1 < ts.size := by
      have := (Array.getElem?_eq_some_iff.mp ht3).1
      omega
    refine wpAny_bind (wpAny_field hT hdT (Array.getElem?_eq_getElem hsz) ?_)
    split
    · exact wpAny_pure (q _ .non rfl)
    · exact wpAny_pure (q _ (.ref T) rfl)
  refine wpAny_bind (tbk fun tv x rx => ?_)
  refine wpAny_bind ?_
  unfold withItem.marked
  refine wpAny_bind (wpAny_run ?_ (by intro z; cases z))
  have hrm : L2H.RoomH kX (X.A.mark (some (.ref b))) := ⟨hr.dp, hr.un⟩
  have e0 : Env0 X.prog X.w X.K X.mg X.base (X.A.mark (some (.ref b))) X.stack { s' with heap := h3 } H' := by
    have e := J3.env0
    exact ⟨e.frames, e.mod, e.bs, e.bsz, e.funs, e.frf, e.hok, e.bare⟩
  have hsp := hw (.ref b) x
  have hl := Fx.len _ _ _ _ hsp
  have rv : Vals [V.ref a, .ty Tn, .ref b, x] ([Value.ref a] ++ [.type Tn, .ref b, tv]) := .cons rfl (.cons rfl (.cons rfl (.cons rx .nil)))
  refine codeAny_mono (Fx.run (X.A.mark (some (.ref b))) X.stack { s' with heap := h3 } H' ([Value.ref a] ++ [.type Tn, .ref b, tv]) [V.ref a, .ty Tn, .ref b, x] _ hrm e0 (by
    have := bX { s' with heap := h3 } ([Value.ref a] ++ [.type Tn, .ref b, tv]) J3.kIn (by simpa using hl)
    simpa using this) rv hsp) fun r s6 hq => ?_
  cases r with
  | error e => exact False.elim hq
  | ok fl =>
    cases fl with
    | next => exact False.elim hq
    | brk => exact False.elim hq
    | cont => exact False.elim hq
    | ret u =>
      obtain ⟨v6, H6, os6, bare6, un6, hok6, rv6, ev6, q6⟩ := id hq
      subst ev6
      obtain rfl : u = Value.none := rv6
      obtain ⟨v7, H7, J6, _⟩ := J3.after hq
      have J6 : Inv X pins σ' H6 s6 := J3.call' (ch := []) os6 un6 hok6 bare6 (fun _ z => nomatch z)
      have fsF : frs X.stack = frs (X.env :: X.outer) := by rw [hs]
      have ga : s6.heap.get? b = some oe := un6.keep b oe he3 na (by rw [fsF]; exact fa) (by simp)
      have gT : s6.heap.get? T = some oT := un6.keep T oT hT nT (by rw [fsF]; exact fT) (by simp)
      have na6 : H6 b = none := un6.free b oe he3 na (by simp)
      have nT6 : H6 T = none := un6.free T oT hT nT (by simp)
      have far : ∀ c o, sI.heap.get? c = some o → c ≠ b ∧ c ≠ T := fun c o e => by
        by_cases hb : c ∈ frs X.stack
        · rw [hs] at hb
          exact ⟨fun z => fa (by rw [← z]; exact hb), fun z => fT (by rw [← z]; exact hb)⟩
        · have q := nb c o e hb
          exact ⟨fun z => by
            rw [z, k2] at q
            exact (nomatch q), fun z => by
            rw [z, hnT] at q
            cases q⟩
      have far0 : ∀ c o, X.s_0.heap.get? c = some o → c ≠ b ∧ c ≠ T := fun c o e => by
        obtain ⟨o', q⟩ := J.base.there c o e (by rw [hex]; simp)
        exact far c o' q
      have farP : ∀ p ∈ X.pn ++ pins, p.1 ≠ b ∧ p.1 ≠ T := fun p hp => far p.1 p.2 (J.pin p hp).1
      obtain ⟨G, g1, g2⟩ := restrict s6.heap fun c => !(decide (c = b) || decide (c = T))
      have gIn : ∀ c o, G.get? c = some o → s6.heap.get? c = some o ∧ c ≠ b ∧ c ≠ T := fun c o e => by
        cases q : (!(decide (c = b) || decide (c = T))) with
        | false =>
          rw [g2 c q] at e
          cases e
        | true =>
          rw [g1 c q] at e
          simp only [Bool.not_eq_true', Bool.or_eq_false_iff, decide_eq_false_iff_not] at q
          exact ⟨e, q.1, q.2⟩
      have gOf : ∀ c o, c ≠ b → c ≠ T → s6.heap.get? c = some o → G.get? c = some o := fun c o h1 h2 e => by
        rw [g1 c (by simp [h1, h2])]
        exact e
      have I6 : Inv X pins σ' H6 { s6 with heap := G } := J6.less (fun c o e => (gIn c o e).1) gOf ⟨oe, vs, ga, hd⟩ ⟨oT, ts, gT, hdT⟩ na6 nT6 far0 farP
      have B6in : ∀ c o, (PySem.W.hideAll G (frs X.stack)).get? c = some o → s6.heap.get? c = some o := fun c o e => (gIn c o (PySem.W.of_hideAll _ e)).1
      have Bno : ∀ c, (c = b ∨ c = T) → (PySem.W.hideAll G (frs X.stack)).get? c = none := fun c hb => by
        cases q : (PySem.W.hideAll G (frs X.stack)).get? c with
        | none => rfl
        | some o =>
          obtain ⟨_, n1, n2⟩ := gIn c o (PySem.W.of_hideAll _ q)
          rcases hb with z | z
          · exact absurd z n1
          · exact absurd z n2
      have fl6 : HandSPX.FlyingZ (PySem.W.hideAll G (frs X.stack)) (X.env :: X.outer) b (Zc (.type Tn) d) s6.heap := by
        refine ⟨B6in, Bno b (.inl rfl), ?_, oe, vs, T, oT, ts, ga, hz, hd, hv1, Bno T (.inr rfl), hTe, gT, hdT, ht3⟩
        have ff := funFrames_none (B := PySem.W.hideAll G (frs X.stack)) J6.stack fun c hb => PySem.W.hideAll_none _ hb
        rw [← hs]
        exact ff
      refine wpAny_pure ?_
      refine wpAny_bind (wpAny_pure ?_)
      dsimp only
      refine wpAny_bind (wpAny_pure ?_)
      simp only [Bool.false_eq_true, if_false]
      show wpAny (model X.prog X.w) X.A (PySem.passOn "with" (.ref b) X.env) (SP X pins D) X.xe s6
      unfold PySem.passOn
      refine wpAny_bind (wpAny_field ga hd hv1 ?_)
      rw [if_neg (show ¬ ((Value.ref T == Value.none) = true) from by simp)]
      have goOn : wpAny (model X.prog X.w) X.A (setFlight (.ref b) X.env.frame) (fun _ s7 => wpAny (model X.prog X.w) X.A (throw (.ref b) : Sem Flow) (SP X pins D) X.xe s7) X.xe s6 := by
        rw [hf]
        refine HandSPX.setFlight_upZ fl6 fun h7 hh7 up7 => wpAny_throw (tk _ _ ?_)
        refine ⟨b, PySem.W.hideAll G (frs X.stack), { s6 with heap := G }, pins, σ', H6, .type Tn, d, rfl, I6, fun c o e hb => PySem.W.hideAll_get _ e hb, ?_, .inr (.inr (by rw [← hs] at hh7; exact hh7)), na6, rfl, J6.bare, q6⟩
        exact Heap.UpToSlots.trans (Heap.UpToSlots.of_keeps fun c o e => (gIn c o e).1) up7
      first
        | exact wpAny_bind (wpAny_pure (wpAny_bind goOn))
        | exact wpAny_bind goOn
theorem ps_withX (hs : X.stack = X.env :: X.outer) (hf : X.env.frame = some X.env.locals) (hex : X.ex = []) (tk : Takes X Wout) (hc : PE X ctx tc)
    (FE : FnOk X.prog X.w X.K X.mg X.base CX0 kE fe fdE psE spE) (hrE : Room kE X.A) (bE : Binds X.K fdE psE []) (he : PySem.W.findIn X.K (.ref C) "__enter__" = some (some (.ref fe))) (hfe : PySem.W.isFn X.K (.ref fe) = true)
    (Fx : FnW X.prog X.w X.K X.mg X.base kX fx fdX psX spX) (hrX : Room kX X.A) (bX : Binds X.K fdX psX []) (hx : PySem.W.findIn X.K (.ref C) "__exit__" = some (some (.ref fx))) (hfx : PySem.W.isFn X.K (.ref fx) = true)
    (hb : ∀ (W : WX) (pn : List (Addr × Obj)) (xe : Value → Shared → Prop), Takes (X.tr pn xe) W → PSs (X.tr pn xe) body (tb W)) :
    PS X (.With [⟨ctx, none⟩] body pos) (tWith C spE spX Wout tc tb) := by
  refine ⟨fun pins s σ H D I h => ?_⟩
  have ok := I.ok
  rw [arm_exec_With]
  refine wpAny_bind (wpAny_standAt ?_)
  rw [arm_withItems_cons, arm_withItems_nil]
  unfold withItem
  refine wpAny_bind (thn (hc.run pins s σ H _ I h) fun u s1 ⟨x, H1, I1, rx, a, dx, fs, ex, ea, hsp⟩ => ?_)
  subst ex
  obtain rfl : u = Value.ref a := rx
  obtain ⟨mA, O, _⟩ := ins_get I1.hok ea
  obtain ⟨od, J, _⟩ := O.look
  obtain ⟨cd, hcd, ae⟩ := PySem.W.kw_along he
  obtain ⟨cd', hcd', ax⟩ := PySem.W.kw_along hx
  cases hcd.symm.trans hcd'
  have KX := I1.kIn
  obtain ⟨hh, g, d, tt, os⟩ := s1
  have L1 : PySem.W.Looks (model X.prog X.w) hh (specialOnItsLine (.ref a) "__enter__") (some (.ref fe), cd.mro) := PySem.W.kw_special KX J hcd ae
  have L2 : PySem.W.Looks (model X.prog X.w) hh (specialOnItsLine (.ref a) "__exit__") (some (.ref fx), cd.mro) := PySem.W.kw_special KX J hcd ax
  have L3 : PySem.W.Looks (model X.prog X.w) hh (bindSpecial (.ref fe) (.ref a)) (.ref fe, [.ref a]) := PySem.W.bind_fn KX _ (beq_iff_eq.mp hfe)
  have L4 : PySem.W.Looks (model X.prog X.w) hh (bindSpecial (.ref fx) (.ref a)) (.ref fx, [.ref a]) := PySem.W.bind_fn KX _ (beq_iff_eq.mp hfx)
  have L5 : PySem.W.Looks (model X.prog X.w) hh (aMethodOfAnotherBuiltinTypeStops (.ref fe) cd.mro) () := PySem.W.Looks.of_pure rfl
  have L6 : PySem.W.Looks (model X.prog X.w) hh (aMethodOfAnotherBuiltinTypeStops (.ref fx) cd.mro) () := PySem.W.Looks.of_pure rfl
  refine wpAny_bind (wpAny_standAt ?_)
  simp only [Bool.false_eq_true, if_false]
  refine wpAny_bind (wpAny_holding (wpAny_bind (L1.here ?_)))
  dsimp only
  refine wpAny_bind (L5.here (wpAny_bind (L3.here (wpAny_holding (wpAny_bind (L2.here ?_))))))
  dsimp only
  refine wpAny_bind (L6.here (wpAny_bind (L4.here (wpAny_pure ?_))))
  dsimp only
  refine wpAny_holding (wpAny_bind (wpAny_mono (run_fn (dvs := []) (ds := []) (vs := [V.ref a]) (us := [Value.ref a]) FE hrE bE .nil pass0 I1 (.cons rfl .nil) (by simpa using hsp)) (fun v s2 hv => ?_) fun _ _ z => z))
  refine wpAny_bind (wpAny_pure ?_)
  refine wpAny_bind (wpAny_attempt (PySem.W.kw_held ?_))
  obtain ⟨v2, H2, I2, _, q2⟩ := hv
  refine wpAny_mono ((hb (wWith a spX Wout) (X.pn ++ pins) _ (fun u s' xx => with_exc (cpos := ctx.pos) (D := D) hs hf hex ok tk hrX Fx bX xx)).run [] s2 σ H2 _ (I2.toTry _) q2) (fun f s3 hsp => ?_) (fun e s3 he => he)
  cases f with
  | next =>
    obtain ⟨_, _, _, z⟩ := hsp
    exact z.elim
  | brk =>
    obtain ⟨_, _, _, z⟩ := hsp
    exact z.elim
  | cont =>
    obtain ⟨_, _, _, z⟩ := hsp
    exact z.elim
  | ret u =>
    obtain ⟨_, _, _, _, _, z⟩ := hsp
    exact z.elim
end
end GK

end

/-! R6 -/
section
set_option maxHeartbeats 4000000
namespace GK
open PySem PySem.Spec PyProof.Rows L2 LamX NdefX
/-! ### o.attempt(lambda p: lost(p, w)): the lambda is called within a with, and raises -/
abbrev lamF (q : Str) (params : Arguments) (scope : Scope) (cl : List (Str × Addr)) (c' : Addr) : NF := ⟨"<lambda>", q, params, [], scope, cl, c'⟩
section
variable {X : Cx}
/-- the lambda called by a name of the frame that got it -/
theorem pe_lamrun {Y : Cx} {params : Arguments} {scope : Scope} {cl : List (Str × Addr)} {q pS wN lN : Str} {pm ctv : Value} {f c' fL : Addr} {fdL : FuncData} {psL : List Str} {spL : Sp} {kL : Nat} {wv : V} {W : WX} {i j : Nat} {x y : Str} {p1 p2 p3 b1 b2 b3 b4 : Pos}
    (hY : Y.ex = []) (hf : Y.s_0.heap.get? f = some (PySem.W.kla_obj "<lambda>" q params (.Call (.Name lN b1) [.Name pS b2, .Name wN b3] [] b4) scope cl pm c' ctv)) (hfn : Y.H_0 f = none) (hfr : f ∉ Y.fs)
    (S : NScope [pS, wN] [pS] [wN] scope) (C : CellsAt cl [wN] [some wv] Y.s_0.heap Y.H_0) (nf : ∀ y c, cl.lookup y = some c → c ∉ Y.fs) (nx : ∀ y c, cl.lookup y = some c → c ∉ Y.ex)
    (hbind : ∀ u : Value, bindArgs (PySem.W.kla_fn "<lambda>" q params (.Call (.Name lN b1) [.Name pS b2, .Name wN b3] [] b4) scope cl pm (.ref c') ctv) ⟨[u], []⟩ = pure [(pS, u)])
    (FL : FnOk Y.prog Y.w Y.K Y.mg Y.base (L2.CX Y.prog Y.w) kL fL fdL psL spL) (hgL : scope.names.lookup lN = some .globalImplicit) (hmL : Y.mg lN = some (.ref fL)) (hkL : PySem.W.keepIn Y.K (.ref fL) = true) (bL : Binds Y.K fdL psL [])
    (hr : Room (kL + 1) Y.A) (tk : Takes Y W) (hN : Y.N[i]? = some x) (hv : Vis Y.env.scope x) (hN2 : Y.N[j]? = some y) (hv2 : Vis Y.env.scope y)
    (n1 : (x == ("__debug__" : Str)) = false := by decide) (n2 : (x == ("__classdict__" : Str)) = false := by decide) (n3 : (y == ("__debug__" : Str)) = false := by decide) (n4 : (y == ("__classdict__" : Str)) = false := by decide)
    (n5 : (lN == ("__debug__" : Str)) = false := by decide) (n6 : (pS == ("__debug__" : Str)) = false := by decide) (n7 : (pS == ("__classdict__" : Str)) = false := by decide) (n8 : (wN == ("__debug__" : Str)) = false := by decide) (n9 : (wN == ("__classdict__" : Str)) = false := by decide)
    (hst : starEach [.Name y p2] Y.env = (false, eval (.Name y p2) Y.env) :: starEach [] Y.env := by rfl) :
    PE Y (.Call (.Name x p1) [.Name y p2] [] p3) (fun σ H Q => σ[i]? = some (some (.ref f)) ∧ H c' = some (CodeO c' q) ∧ ∃ v, σ[j]? = some (some v) ∧ spL [v, wv] H Q (fun cls d H' => W cls d σ H')) := by
  refine ⟨fun pins s σ H Q I h => ?_⟩
  obtain ⟨hs, hc, v, hv', hsp⟩ := h
  have fnAt : ∀ {σ' : L2.St} {H' : Hp} {s' : Shared}, Inv Y pins σ' H' s' → s'.heap.get? f = some (PySem.W.kla_obj "<lambda>" q params (.Call (.Name lN b1) [.Name pS b2, .Name wN b3] [] b4) scope cl pm c' ctv) := fun {σ' H' s'} I' =>
    I'.base.keep f _ hf hfn hfr (fun z => by rw [hY] at z; cases z)
  refine wpAny_Call_Name_kw (thn ((pe_var (pos := p1) (i := i) hN hv n1 n2).run pins s σ H (fun v H1 => v = .ref f ∧ H1 = H) I ⟨.ref f, hs, rfl, rfl⟩) fun u s1 ⟨v1, H1, I1, r1, q1⟩ => ?_)
  obtain ⟨ev, eH⟩ := q1
  subst ev
  rw [eH] at I1
  obtain rfl : u = Value.ref f := r1
  have pa : PA Y [.Name y p2] (tCons (tVar j) tNil) := pa_cons (pe_var hN2 hv2 n3 n4) pa_nil hst
  refine PySem.W.callWith_F (first := []) ⟨_, _, _, _, fnAt I1⟩ (thn (pa.run p3 pins s1 σ H (fun vs H2 => vs = [v] ∧ H2 = H) I1 ⟨v, hv', rfl, rfl⟩) fun us s2 ⟨vs, H2, I2, r, ev, eH⟩ => ⟨⟨_, _, _, _, fnAt I2⟩, ?_⟩) hst rfl
  subst ev
  rw [eH] at I2
  show wpAny _ _ (call (.ref f) us) _ _ _
  obtain ⟨u2, rfl, ru⟩ := r.one
  have of2 := fnAt I2
  obtain ⟨⟨oc, cvs, t, hoc, hdc, hvc⟩, _, _⟩ := I2.hok c' _ hc
  have rc : codeAny (model Y.prog Y.w) Y.A (.call (.ref f) ⟨[u2], []⟩) (CR (L2.CX Y.prog Y.w) Y.stack Y.prog Y.w H s2 Q (fun cls d H' => W cls d σ H')) s2 := by
    refine PySem.W.kla_callFunE hr.depth of2 rfl S.co S.gen rfl ⟨c', oc, cvs, t, rfl, hoc, hdc, hvc⟩ ?_
    rw [hbind]
    refine wpAny_pure (wpAny_newFunctionEnv (fun y hy => S.nocell y hy) (fun y hy => ?_) (fun h₁ hns hsb => ⟨I2.nolimit.fresh _ hsb, ?_⟩) S.kind)
    · have e : y = (pS, u2) := by simpa using hy
      rw [e]
      exact S.par pS (by simp)
    · show codeAny _ _ (.expr _ (envF (lamF q params scope cl c') f s2.heap.objs.size)) _ _
      have kp : ∀ b o, s2.heap.get? b = some o → h₁.get? b = some o := fun b o e => hsb.extBut b o (Nat.ne_of_lt (Heap.lt_size e)) (Heap.get?_push_of_some _ e)
      have J : Inv (ncx (L2.CX Y.prog Y.w) Y.prog Y.w Y.K Y.mg Y.base [pS, wN] (lamF q params scope cl c') f Y.A Y.stack s2 H (fun cls d H' => W cls d σ H')) [] (startF [pS, wN] [v] [some wv]) H { s2 with heap := h₁, toks := s2.toks + [(pS, u2)].length } :=
        inv_startN (F := lamF q params scope cl c') (us := [u2]) S hr.hd I2.env0 rfl r (C.later nf nx I2) hns kp
      have tkZ := takes_of (X := ncx (L2.CX Y.prog Y.w) Y.prog Y.w Y.K Y.mg Y.base [pS, wN] (lamF q params scope cl c') f Y.A Y.stack s2 H (fun cls d H' => W cls d σ H')) (E := fun cls d H' => W cls d σ H') rfl rfl rfl rfl
      have hp : PE (ncx (L2.CX Y.prog Y.w) Y.prog Y.w Y.K Y.mg Y.base [pS, wN] (lamF q params scope cl c') f Y.A Y.stack s2 H (fun cls d H' => W cls d σ H')) (.Call (.Name lN b1) [.Name pS b2, .Name wN b3] [] b4) _ :=
        pe_callS FL (hr.deeper _) hgL hmL hkL bL (fun σ' => passAt tkZ σ') (pa_cons (pe_var (i := 0) rfl (.inl (S.par pS (by simp))) n6 n7) (pa_cons (pe_var (i := 1) rfl (.inr (.inr (S.frk wN (by simp)))) n8 n9) pa_nil)) n5
      refine PySem.W.kla_codeExpr (wpAny_mono (hp.run [] _ _ H Q J ⟨v, rfl, wv, rfl, hsp⟩) (fun v s' hq => ?_) fun e s' hq => hq)
      obtain ⟨w', H', J', rv, q⟩ := hq
      exact ⟨w', H', J'.os, J'.bare, J'.base, J'.hok, rv, q⟩
  refine wpAny_call (codeAny_mono rc fun r s' hq => ?_)
  cases r with
  | error e => exact tk _ _ (XE.of_call I2 (fun _ _ _ h => h) hq)
  | ok fl =>
    cases fl with
    | ret u => exact I2.after hq
    | next => exact False.elim hq
    | brk => exact False.elim hq
    | cont => exact False.elim hq
def KeepC (H H' : Hp) : Prop := ∀ b q, H b = some (CodeO b q) → H' b = some (CodeO b q)
def tAttempt (C : Addr) (T : List (Addr × Str)) (spE spX spL : Sp) (Wout : WX) (jw : Nat) (te : TE) : TE := fun σ H _ => te σ H fun x H1 => ∃ a dx fs wv, x = .ref a ∧ H1 a = some (.ins C dx fs) ∧ fs.lookup ("attempt" : Str) = none ∧ σ[jw]? = some (some wv) ∧ Tabs T H1 ∧
  ∀ H2, ExtN H1 H2 → Tabs T H2 → spE [.ref a] H2 (fun _ H3 => KeepC H2 H3 ∧ spL [.ref a, wv] H3 (fun _ _ => False) (fun cls d H4 => ∃ Tn : String, cls = .type Tn ∧ ∀ (x t : V), spX [.ref a, .ty Tn, x, t] H4 (fun v H5 => v = .non ∧ Wout cls d σ H5) E0)) E0
theorem pe_attempt {C g fE fX fL c P : Addr} {T : List (Addr × Str)} {stA : Stmt} {fdA fdE fdX fdL : FuncData} {psE psX psL : List Str} {spE spX spL : Sp} {kE kX kL : Nat} {o : Expr} {te : TE} {params : Arguments} {scope : Scope} {pS wN lN : Str} {Wout : WX} {jw : Nat}
    {apos pos lpos b1 b2 b3 b4 p1 p2 p3 p4 p5 p6 : Pos} {pl : Sem Bool}
    (he : PE X o te) (cC : Cls X.K C) (mA : Meth X.K C "attempt" g) (FA : Fun X.K "attempt" "Keeper.attempt" stA g fdA) (SA : FnScope ["self", "work"] ["self", "work"] (defScope stA)) (loc0 : (defScope stA).names.lookup ("self" : Str) = some .local) (loc1 : (defScope stA).names.lookup ("work" : Str) = some .local)
    (hbody : defBody stA = [.With [⟨.Name "self" p1, none⟩] [.Return (some (.Call (.Name "work" p2) [.Name "self" p3] [] p4)) p5] p6]) (bA : Binds X.K fdA ["self", "work"] [])
    (FE : FnOk X.prog X.w X.K X.mg X.base CX0 kE fE fdE psE spE) (bE : Binds X.K fdE psE []) (heE : PySem.W.findIn X.K (.ref C) "__enter__" = some (some (.ref fE))) (hfE : PySem.W.isFn X.K (.ref fE) = true)
    (FX : FnW X.prog X.w X.K X.mg X.base kX fX fdX psX spX) (bX : Binds X.K fdX psX []) (heX : PySem.W.findIn X.K (.ref C) "__exit__" = some (some (.ref fX))) (hfX : PySem.W.isFn X.K (.ref fX) = true)
    (FL : FnOk X.prog X.w X.K X.mg X.base (L2.CX X.prog X.w) kL fL fdL psL spL) (hgL : scope.names.lookup lN = some .globalImplicit) (hmL : X.mg lN = some (.ref fL)) (hkL : PySem.W.keepIn X.K (.ref fL) = true) (bL : Binds X.K fdL psL [])
    (TB : TabB X.base X.mg c P) (hcode : X.env.code = .ref c) (hmT : (P, X.env.qual ++ "<lambda>") ∈ T) (hu : ∀ p ∈ T, p.1 = P → p.2 = X.env.qual ++ "<lambda>") (hdef : defaultsOf params X.env = ([], []))
    (S : NScope [pS, wN] [pS] [wN] scope) (hfree : ∀ y ∈ scope.names, y.2 = .free → X.env.scope.names.lookup y.1 = some .cell ∨ X.env.scope.names.lookup y.1 = some .free) (hwf : (wN, NameKind.free) ∈ scope.names) (hjw : X.N[jw]? = some wN) (hfn : ∀ y, X.fn y = true)
    (hbind : ∀ (q : Str) (cl : List (Str × Addr)) (pm cv ctv u : Value), bindArgs (PySem.W.kla_fn "<lambda>" q params (.Call (.Name lN b1) [.Name pS b2, .Name wN b3] [] b4) scope cl pm cv ctv) ⟨[u], []⟩ = pure [(pS, u)])
    (monE : ∀ (vs : List V) (H : Hp) (Q Q' : V → Hp → Prop), (∀ v H', Q v H' → Q' v H') → spE vs H Q E0 → spE vs H Q' E0) (hr : Room (kE + kX + kL + 3) X.A) (tk : Takes X Wout) (hex : X.ex = [])
    (n5 : (lN == ("__debug__" : Str)) = false := by decide) (n6 : (pS == ("__debug__" : Str)) = false := by decide) (n7 : (pS == ("__classdict__" : Str)) = false := by decide) (n8 : (wN == ("__debug__" : Str)) = false := by decide) (n9 : (wN == ("__classdict__" : Str)) = false := by decide)
    (hst : starEach [.Lambda params (.Call (.Name lN b1) [.Name pS b2, .Name wN b3] [] b4) scope lpos] X.env = (false, eval (.Lambda params (.Call (.Name lN b1) [.Name pS b2, .Name wN b3] [] b4) scope lpos) X.env) :: starEach [] X.env := by rfl)
    (ht : eval (.Call (.Attribute o "attempt" apos) [.Lambda params (.Call (.Name lN b1) [.Name pS b2, .Name wN b3] [] b4) scope lpos] [] pos) X.env = (do
      let ov ← eval o X.env
      standAt apos.atName
      let (f, first) ← holding [ov] (getMethod ov "attempt" pl)
      callWith pos f first (backTo pos (starEach [.Lambda params (.Call (.Name lN b1) [.Name pS b2, .Name wN b3] [] b4) scope lpos] X.env)) (backToKw pos (keywordEach [] X.env))) := by rfl) :
    PE X (.Call (.Attribute o "attempt" apos) [.Lambda params (.Call (.Name lN b1) [.Name pS b2, .Name wN b3] [] b4) scope lpos] [] pos) (tAttempt C T spE spX spL Wout jw te) := by
  refine ⟨fun pins s σ H Q I h => ?_⟩
  refine PySem.W.methodCall_KW (pl := pl) (thn (he.run pins s σ H _ I h) fun u s1 ⟨x, H1, I1, rx, a, dx, fs, wv, ex, ea, l, hw, hT, q⟩ => ?_) ht
  subst ex
  obtain rfl : u = Value.ref a := rx
  refine getmeth_ok I1 ea cC mA l ?_
  refine PySem.W.callWith_K (first := [.ref a]) (h₀ := X.base) I.ok.mod.kin mA.kp ?_ hst rfl
  rw [hst]
  show wpAny _ _ (spliced ((false, eval (.Lambda params (.Call (.Name lN b1) [.Name pS b2, .Name wN b3] [] b4) scope lpos) X.env) :: backTo pos (starEach [] X.env))) _ _ s1
  have hfc : ∀ y ∈ scope.names, y.2 = .free → ∃ c, X.env.cells.lookup y.1 = some c := fun y hy e => (hfree y hy e).elim (fun z => I1.ok.has _ (.inl z)) fun z => I1.ok.has _ (.inr z)
  refine Calls.spliced_cons (lam_make2 I1 TB hcode hmT hu hT hdef hfc fun f c' pm' ctv H2 s2 I2 eN T2 hf hfnone hfr hco => ?_)
  refine Calls.spliced_nil ⟨I2.kIn, ?_⟩
  show wpAny _ _ (call (.ref g) [.ref a, .ref f]) _ _ _
  have ea2 : H2 a = some (.ins C dx fs) := eN _ _ ea (fun ps z => by cases z)
  have hsp := q H2 eN T2
  -- the captured cell
  have cp : Caps X (cloFrom X.env.cells scope.names []) [wN] [jw] := Caps.made I2.ok hfree (fun y hy => by rw [List.mem_singleton.mp hy]; exact hwf) (by simp [hjw])
  have C2 : CellsAt (cloFrom X.env.cells scope.names []) [wN] [some wv] s2.heap H2 := by
    have := cells_of I2 cp
    have e : [jw].map (NdefX.slotAt σ) = [some wv] := by simp [NdefX.slotAt, hw]
    rw [e] at this
    exact this
  obtain ⟨oc, od, kV, doc, pm, an, cdv, ct, osl, rfl, lk, hcd⟩ := FA.ex
  have rc : codeAny (model X.prog X.w) X.A (.call (.ref g) ⟨[.ref a, .ref f], []⟩) (CR (L2.CX X.prog X.w) X.stack X.prog X.w H2 s2 Q (fun cls d H' => Wout cls d σ H')) s2 := by
    refine run_ofS (k := kE + kX + kL + 2) (N := ["self", "work"]) (ps := ["self", "work"]) (us := [.ref a, .ref f]) (vs := [.ref a, .ref f]) lk hcd SA hr I2.env0 (by have := bA s2 [.ref a, .ref f] I2.kIn rfl; simpa using this) (.cons rfl (.cons rfl .nil)) rfl fun hr' => ?_
    rw [hbody]
    have tkY := takes_of (X := cxOf (L2.CX X.prog X.w) X.prog X.w X.K X.mg X.base ["self", "work"] "Keeper.attempt" (defScope stA) g cdv X.A X.stack s2 H2 (fun cls d H' => Wout cls d σ H')) (E := fun cls d H' => Wout cls d σ H') rfl rfl rfl rfl
    have cab : ∀ y cc, (cloFrom X.env.cells scope.names []).lookup y = some cc → X.s_0.heap.objs.size ≤ cc ∧ cc ≠ X.env.locals := fun y cc e => ⟨I2.ok.cab y cc (hfn y) (cp.sub y cc e), I2.cne y cc (cp.sub y cc e)⟩
    have nofs : ∀ y cc, (cloFrom X.env.cells scope.names []).lookup y = some cc → cc ∉ frs X.stack := fun y cc e hm => by
      obtain ⟨z1, z2⟩ := cab y cc e
      rcases List.mem_cons.mp (I2.stkSub _ hm) with e2 | e2
      · exact z2 e2
      · obtain ⟨_, o', e', _⟩ := I2.ok.funs.mem e2
        exact absurd (Nat.lt_of_lt_of_le (Heap.lt_size e') z1) (Nat.lt_irrefl _)
    refine ⟨_, pss_one (ps_withX (C := C) (spE := spE) (spX := spX) (X := cxOf (L2.CX X.prog X.w) X.prog X.w X.K X.mg X.base ["self", "work"] "Keeper.attempt" (defScope stA) g cdv X.A X.stack s2 H2 (fun cls d H' => Wout cls d σ H')) rfl rfl rfl tkY (pe_var (i := 0) rfl (.inl loc0)) FE (hr'.mono (by omega)) bE heE hfE FX (hr'.mono (by omega)) bX heX hfX (fun W pn xe tkW => pss_one (ps_ret
      (pe_lamrun (Y := (cxOf (L2.CX X.prog X.w) X.prog X.w X.K X.mg X.base ["self", "work"] "Keeper.attempt" (defScope stA) g cdv X.A X.stack s2 H2 (fun cls d H' => Wout cls d σ H')).tr pn xe) (i := 1) (j := 0) (wv := wv) (W := W) rfl hf hfnone hfr S C2 nofs (fun _ _ _ z => nomatch (show _ ∈ ([] : List Addr) from z)) (fun u => hbind _ _ _ _ _ _) FL hgL hmL hkL bL (hr'.mono (by omega)) tkW rfl (.inl loc1) rfl (.inl loc0) (n5 := n5) (n6 := n6) (n7 := n7) (n8 := n8) (n9 := n9))))), ?_⟩
    refine ⟨_, rfl, a, dx, fs, rfl, ea2, ?_⟩
    exact monE _ _ _ _ (fun v H3 ⟨kc, hl⟩ => ⟨rfl, kc _ _ hco, _, rfl, hl⟩) hsp
  refine wpAny_call (codeAny_mono rc fun r s' hq => ?_)
  cases r with
  | error e => exact tk _ _ (XE.of_call I2 (fun _ _ _ h => h) hq)
  | ok fl =>
    cases fl with
    | ret u => exact I2.after hq
    | next => exact False.elim hq
    | brk => exact False.elim hq
    | cont => exact False.elim hq
end
end GK

end

/-! C0 -/
section
set_option maxHeartbeats 4000000
namespace G
open PySem L2 GK
def top (i : Nat) : Stmt := PySem.Challenge.pw_glancelogs_k46_whole_keepers_and_logs.main.body.getD i (.Pass ⟨0, 0, 0, 0⟩)
/-- a def of the top that keeps its promise, and how it is reached -/
def Have (P : Program) (w : World) (K : PySem.W.Frag) (mg : Str → Option Value) (base : Heap) (k : Nat) (x : Str) (ps : List Str) (sp : Sp) : Prop :=
  ∃ f fd, FnOk P w K mg base CX0 k f fd ps sp ∧ mg x = some (.ref f) ∧ PySem.W.keepIn K (.ref f) = true ∧ Binds K fd ps []
structure Df (K : PySem.W.Frag) (mg : Str → Option Value) (x : Str) (st : Stmt) (ps : List Str) (f : Addr) (fd : FuncData) : Prop where
  F : Fun K x x st f fd
  m : mg x = some (.ref f)
  b : Binds K fd ps []
theorem Df.have {P : Program} {w : World} {K : PySem.W.Frag} {mg : Str → Option Value} {base : Heap} {k : Nat} {x : Str} {st : Stmt} {ps : List Str} {f : Addr} {fd : FuncData} {sp : Sp} (D : Df K mg x st ps f fd) (h : FnOk P w K mg base CX0 k f fd ps sp) : Have P w K mg base k x ps sp := ⟨f, fd, h, D.m, D.F.kp, D.b⟩
/-- built-in names that the top leaves alone -/
structure Bi (mg : Str → Option Value) : Prop where
  isin : mg "isinstance" = none
  int : mg "int" = none
  bool : mg "bool" = none
  str : mg "str" = none
  list : mg "list" = none
  tuple : mg "tuple" = none
  len : mg "len" = none
  all : mg "all" = none
  enum : mg "enumerate" = none
  range : mg "range" = none
  min : mg "min" = none
  max : mg "max" = none
  abs : mg "abs" = none
  sum : mg "sum" = none
  zip : mg "zip" = none
  sorted : mg "sorted" = none
/-- a list or a tuple of texts -/
def Sq (H : Hp) (a : Addr) (l : List Str) : Prop := H a = some (.lst (l.map V.str)) ∨ H a = some (.tup (l.map V.str))
def letters : Str := "abcdefghijklmnopqrstuvwxyz"
/-- a name: one to six letters -/
def Nm (w : Str) : Prop := 1 ≤ w.length ∧ w.length ≤ 6 ∧ ∀ c ∈ w.cps.toList, c ∈ letters.cps.toList
theorem Sq.same {H H' : Hp} {a : Addr} {l : List Str} (h : Sq H a l) (e : Same H H') : Sq H' a l := h.elim (fun h => .inl (e _ _ h)) fun h => .inr (e _ _ h)
/-- what stood outside S stands -/
def Fr (S : List Addr) (H H' : Hp) : Prop := ∀ b o, H b = some o → b ∉ S → H' b = some o
theorem Fr.refl (S : List Addr) (H : Hp) : Fr S H H := fun _ _ h _ => h
theorem Fr.of {S : List Addr} {H H' : Hp} (h : Same H H') : Fr S H H' := fun b o e _ => h b o e
theorem Fr.trans {S : List Addr} {H H1 H2 : Hp} (a : Fr S H H1) (b : Fr S H1 H2) : Fr S H H2 := fun c o h n => b c o (a c o h n) n
theorem Fr.mono {S S' : List Addr} {H H' : Hp} (a : Fr S H H') (h : ∀ x ∈ S, x ∈ S') : Fr S' H H' := fun c o e n => a c o e fun q => n (h _ q)
theorem Fr.free {S : List Addr} {H H' : Hp} (e : Fr S H H') {l : Addr} (h : H' l = none) (n : l ∉ S) : H l = none := by
  cases q : H l with
  | none => rfl
  | some o => rw [e l o q n] at h; cases h
/-- the same, but for tables of code objects -/
def FrN (S : List Addr) (H H' : Hp) : Prop := ∀ b o, H b = some o → (∀ ps, o ≠ .tbl ps) → b ∉ S → H' b = some o
theorem FrN.refl (S : List Addr) (H : Hp) : FrN S H H := fun _ _ h _ _ => h
theorem Fr.n {S : List Addr} {H H' : Hp} (h : Fr S H H') : FrN S H H' := fun b o e _ n => h b o e n
theorem FrN.of {S : List Addr} {H H' : Hp} (h : Same H H') : FrN S H H' := fun b o e _ _ => h b o e
theorem FrN.trans {S : List Addr} {H H1 H2 : Hp} (a : FrN S H H1) (b : FrN S H1 H2) : FrN S H H2 := fun c o h t n => b c o (a c o h t n) t n
theorem FrN.mono {S S' : List Addr} {H H' : Hp} (a : FrN S H H') (h : ∀ x ∈ S, x ∈ S') : FrN S' H H' := fun c o e t n => a c o e t fun q => n (h _ q)
theorem FrN.ext {S : List Addr} {H H' : Hp} (h : LamX.ExtN H H') : FrN S H H' := fun b o e t _ => h b o e t
theorem _root_.L2.Same.one {H H1 : Hp} {p : Addr} {o : HO} (s : Same H H1) (n : H1 p = none) : Same H (upd H1 p o) := fun b q e => by
  rw [upd_ne (ne_of_none (s _ _ e) n)]; exact s _ _ e
theorem _root_.L2.Same.put {H H1 : Hp} {p : Addr} {o : HO} (s : Same H H1) (n : H p = none) : Same H (upd H1 p o) := fun b q e => by
  rw [upd_ne (ne_of_none e n)]; exact s _ _ e
theorem for_gen {J : It} {g : TG} {tb : TS} {D : Ends} {σ : L2.St} {H : Hp} (n : Nat) (Pv : Nat → L2.St → Hp → Prop) (h0 : Pv 0 σ H) (hgo : ∀ i σ H, i < n → Pv i σ H → J.go i H) (hst : ∀ σ H, Pv n σ H → J.stop n H)
    (hs : ∀ i x σ H H', i < n → Pv i σ H → J.yld i H x H' → g x σ H' fun σ2 H2 => tb { D with nx := Pv (i + 1), ct := Pv (i + 1), bk := D.nx } σ2 H2) (hd : ∀ σ H, Pv n σ H → D.nx σ H) :
    ∃ W : Nat → Nat → L2.St → Hp → Prop, (∃ m, W 0 m σ H) ∧ ∀ i m σ H, W i m σ H →
      (J.stop i H ∧ D.nx σ H) ∨ (J.go i H ∧ ∃ N : L2.St → Hp → Prop, (∀ σ' H', N σ' H' → ∃ m', m' < m ∧ W (i + 1) m' σ' H') ∧ ∀ x H', J.yld i H x H' → g x σ H' fun σ2 H2 => tb { D with nx := N, ct := N, bk := D.nx } σ2 H2) := by
  refine ⟨fun i m σ H => m = n - i ∧ i ≤ n ∧ Pv i σ H, ⟨n, by simp, Nat.zero_le _, h0⟩, ?_⟩
  rintro i m σ H ⟨rfl, hi, p⟩
  by_cases hlt : i < n
  · exact .inr ⟨hgo i σ H hlt p, Pv (i + 1), fun σ' H' p' => ⟨n - (i + 1), by omega, rfl, hlt, p'⟩, fun x H' y => hs i x σ H H' hlt p y⟩
  · have e : i = n := by omega
    subst e
    exact .inl ⟨hst σ H p, hd σ H p⟩
theorem lc_gen {J : It} {g : TG} {tt : TT} {te : TE} {vs : List Nat} {σ : L2.St} {H1 : Hp} {D : Addr} {Qd : Hp → Prop} (n : Nat) (Pv : Nat → Hp → Prop) (h0 : Pv 0 (upd H1 D (.lst []))) (hgo : ∀ i H, i < n → Pv i H → J.go i H) (hst : ∀ H, Pv n H → J.stop n H)
    (hs : ∀ i x H H', i < n → Pv i H → J.yld i H x H' → g x (wipe σ vs) H' fun σ2 H2 => wipe σ2 vs = wipe σ vs ∧ tt σ2 H2 fun b H3 =>
      if b = true then te σ2 H3 fun y H4 => ∃ acc, H4 D = some (.lst acc) ∧ acc.length < sizeLine ∧ Pv (i + 1) (upd H4 D (.lst (acc ++ [y]))) else Pv (i + 1) H3) (hd : ∀ H, Pv n H → Qd H) :
    ∃ W : Nat → Nat → Hp → Prop, (∃ m, W 0 m (upd H1 D (.lst []))) ∧ ∀ i m H, W i m H →
      (J.stop i H ∧ Qd H) ∨ (J.go i H ∧ ∃ Nx : Hp → Prop, (∀ H', Nx H' → ∃ m', m' < m ∧ W (i + 1) m' H') ∧ ∀ x H', J.yld i H x H' → g x (wipe σ vs) H' fun σ2 H2 => wipe σ2 vs = wipe σ vs ∧ tt σ2 H2 fun b H3 =>
        if b = true then te σ2 H3 fun y H4 => ∃ acc, H4 D = some (.lst acc) ∧ acc.length < sizeLine ∧ Nx (upd H4 D (.lst (acc ++ [y]))) else Nx H3) := by
  refine ⟨fun i m H => m = n - i ∧ i ≤ n ∧ Pv i H, ⟨n, by simp, Nat.zero_le _, h0⟩, ?_⟩
  rintro i m H ⟨rfl, hi, p⟩
  by_cases hlt : i < n
  · exact .inr ⟨hgo i H hlt p, Pv (i + 1), fun H' p' => ⟨n - (i + 1), by omega, rfl, hlt, p'⟩, fun x H' y => hs i x H H' hlt p y⟩
  · have e : i = n := by omega
    subst e
    exact .inl ⟨hst H p, hd H p⟩
/-- the objects made by a comprehension: new ones, and its list -/
theorem upd_upd {H : Hp} {p : Addr} {o o' : HO} : upd (upd H p o) p o' = upd H p o' := by
  funext b
  by_cases e : b = p
  · subst e; rw [upd_same, upd_same]
  · rw [upd_ne e, upd_ne e, upd_ne e]
theorem yesI {te : TE} {σ : L2.St} {H : Hp} {R : Hp → Prop} {Q2 : V → Hp → Prop} (h : te σ H Q2) : tYes σ H (fun b H3 => if b = true then te σ H3 Q2 else R H3) := by
  show if true = true then te σ H Q2 else R H
  rw [if_pos rfl]
  exact h
theorem seqA {te : TE} {g : TG} {t : TS} {D : Ends} {σ : L2.St} {H : Hp} (h : te σ H (fun v H1 => g v σ H1 (t D))) : tSeq (tAsg te g) t D σ H := h
theorem asgA {te : TE} {g : TG} {D : Ends} {σ : L2.St} {H : Hp} (h : te σ H (fun v H1 => g v σ H1 D.nx)) : tAsg te g D σ H := h
theorem cutAt {S R : TS} {D : Ends} {σ : L2.St} {H : Hp} (J : L2.St → Hp → Prop) (h2 : ∀ N : L2.St → Hp → Prop, (∀ σ' H', J σ' H' → N σ' H') → S { D with nx := N } σ H) (h1 : ∀ σ' H', J σ' H' → R D σ' H') : tSeq S R D σ H := h2 _ h1
theorem cutIf {c : TT} {u v R : TS} {D : Ends} {σ : L2.St} {H : Hp} (J : L2.St → Hp → Prop) (h2 : ∀ N : L2.St → Hp → Prop, (∀ σ' H', J σ' H' → N σ' H') → tIfS c u v { D with nx := N } σ H) (h1 : ∀ σ' H', J σ' H' → R D σ' H') : tSeq (tIfS c u v) R D σ H := h2 _ h1
end G

end

/-! D1 -/
section
set_option maxHeartbeats 4000000
namespace G
open PySem L2 GK
section
variable {P : Program} {w : World} {K : PySem.W.Frag} {mg : Str → Option Value} {base : Heap}
def spIsNumber : Sp := fun vs H Q _ => ∃ n : Int, vs = [.int n] ∧ Q (.bl true) H
theorem sc14 : FnScope ["value"] ["value"] (defScope (top 14)) := ⟨rfl, rfl, rfl, by decide +kernel, rfl, by decide +kernel, by decide +kernel⟩
theorem ok_isNumber {f : Addr} {fd : FuncData} (D : Df K mg "is_number" (top 14) ["value"] f fd) (B : Bi mg) : FnOk P w K mg base CX0 1 f fd ["value"] spIsNumber := by
  refine D.F.ok sc14 (fun vs H Q E h => ?_) (fun cdv A outer s H vs Q E hr h => ?_)
  · obtain ⟨n, rfl, _⟩ := h
    rfl
  · obtain ⟨n, rfl, k⟩ := h
    refine ⟨_, pss_one (ps_ret (pe_and (pe_callB call_isi (by rfl) B.isin (by decide +kernel) (pa_cons (pv 0) (pa_cons (pe_bltn (v := .ty "int") (by rfl) B.int PyProof.Rows.boot_int rfl) pa_nil)))
      (pe_one (pe_not (pe_callB call_isi (by rfl) B.isin (by decide +kernel) (pa_cons (pv 0) (pa_cons (pe_bltn (v := .ty "bool") (by rfl) B.bool (by decide +kernel) rfl) pa_nil))))))), ?_⟩
    refine ⟨_, rfl, _, _, _, _, _, rfl, .ty "int", .base (.int n), kit_ty (r := true) (by decide +kernel), _, rfl, ?_⟩
    refine iteT ⟨_, rfl, _, _, _, _, _, rfl, .ty "bool", .base (.int n), kit_ty (r := false) (by decide +kernel), _, rfl, k⟩
def spIsName : Sp := fun vs H Q _ => ∃ z : Str, vs = [.str z] ∧ Nm z ∧ ∀ H', Same H H' → Q (.bl true) H'
theorem sc15 : FnScope ["value", "letter"] ["value"] (defScope (top 15)) := ⟨rfl, rfl, rfl, by decide +kernel, rfl, by decide +kernel, by decide +kernel⟩
theorem ok_isName {f : Addr} {fd : FuncData} {t : Tok} (D : Df K mg "is_name" (top 15) ["value"] f fd) (B : Bi mg) (mL : mg "LETTERS" = some (.str letters t)) (m6 : ∃ t, mg "LONGEST_NAME" = some (.int 6 t)) : FnOk P w K mg base CX0 1 f fd ["value"] spIsName := by
  refine D.F.ok sc15 (fun vs H Q E h => ?_) (fun cdv A outer s H vs Q E hr h => ?_)
  · obtain ⟨n, rfl, _⟩ := h
    rfl
  · obtain ⟨z, rfl, ⟨h1, h6, hz⟩, k⟩ := h
    obtain ⟨t6, m6⟩ := m6
    have hl : z.length ≤ sizeLine := Nat.le_trans h6 (by decide)
    refine ⟨_, pss_cons (ps_if (pw_or (pt_not (pt_val (pe_callB call_isi (by rfl) B.isin (by decide +kernel) (pa_cons (pv 0) (pa_cons (pe_bltn (v := .ty "str") (by rfl) B.str (by decide +kernel) rfl) pa_nil)))))
        (pw_or1 (pt_not (pt_chain op_le op_le pe_int (pe_callB call_len_str (by rfl) B.len PySem.boot_len (pa_cons (pv 0) pa_nil)) (pe_glob (v := .int 6) (by rfl) m6 ⟨_, rfl⟩))))).pt (pss_one (ps_ret pe_bl)) pss_nil)
      (pss_one (ps_ret (pe_callB (cr_all rfl) (by rfl) B.all (by decide +kernel) (pa_cons (pe_lc (own := [("letter", 1)]) (g := gName 1) (tt := tYes) rfl sc15.nd (pi_str (pv 0)) (blkOk_by (N := ["value", "letter"]) (sc := defScope (top 15)) (by decide +kernel))
        (fun _ _ _ _ _ => pg_name (i := 1) sc15.nd rfl (Or.inl rfl)) (fun _ _ _ _ _ => pts_nil) (fun _ _ _ _ _ => pe_cmpR op_in_sign (pv 1) (pe_glob (v := .str letters) (by rfl) mL ⟨_, rfl⟩) (by rfl))) pa_nil)))), ?_⟩
    refine ⟨_, rfl, _, _, _, _, _, rfl, .ty "str", .base (.str z), kit_ty (r := true) (by decide +kernel), _, rfl, iteF ?_⟩
    refine ⟨_, rfl, z, rfl, hl, _, _, rfl, rfl, _, rfl, ?_⟩
    have d1 : decide ((1 : Int) ≤ (z.length : Int)) = true := decide_eq_true (by omega)
    have d6 : decide ((z.length : Int) ≤ (6 : Int)) = true := decide_eq_true (by omega)
    rw [d1]
    refine iteT ⟨_, _, rfl, rfl, _, rfl, ?_⟩
    rw [d6]
    refine iteF ?_
    refine ⟨_, rfl, z, rfl, fun D hD => lc_gen z.cps.size (fun i H' => H' = upd H D (.lst ((List.replicate i true).map V.bl))) rfl (fun i H' hi _ => hi) (fun H' _ => Nat.le_refl _) (fun i x H1 H2 hi e y => ?_) ?_⟩
    · obtain ⟨e2, c, hc, rfl⟩ := y
      subst e2 e
      refine ⟨rfl, yesI ⟨_, rfl, c, _, rfl, rfl, _, upd_same, ?_, ?_⟩⟩
      · rw [List.length_map, List.length_replicate]
        exact Nat.lt_of_lt_of_le hi hl
      · have hm : c ∈ letters.cps.toList := hz c (List.mem_of_getElem? (by rw [Array.getElem?_toList]; exact hc))
        rw [decide_eq_true hm, upd_upd, List.replicate_succ', List.map_append]
        rfl
    · rintro H' rfl
      refine ⟨D, List.replicate z.cps.size true, rfl, SqL.of upd_same, ?_⟩
      have e : (List.replicate z.cps.size true).all id = true := by simp
      rw [e]
      exact k _ (Same.put (Same.refl H) hD)
theorem SqT.of' {H : Hp} {a : Addr} {xs : List V} (h : H a = some (.tup xs)) : SqT K H a xs := .inl (.inl h)
theorem SqL.of' {H : Hp} {a : Addr} {xs : List V} (h : H a = some (.lst xs)) : SqL K H a xs := SqL.of h
/-- enumerate of a log, list or tuple -/
structure EnumLike (J : It) (H : Hp) (l : List Str) : Prop where
  go : ∀ i H', i < l.length → Same H H' → J.go i H'
  stop : ∀ H', Same H H' → J.stop l.length H'
  yld : ∀ i x H1 H2, i < l.length → Same H H1 → J.yld i H1 x H2 → ∃ T y, x = .ref T ∧ H1 T = none ∧ H2 = upd H1 T (.tup [.int (i : Nat), .str y]) ∧ l[i]? = some y
theorem enum_get {l : List Str} (i : Nat) (x : V) (hi : i < l.length) (e : (l.map V.str)[i]? = some x) : ∃ y, x = .str y ∧ l[i]? = some y := by
  rw [List.getElem?_map, List.getElem?_eq_getElem hi] at e
  exact ⟨l[i], (Option.some.inj e).symm, List.getElem?_eq_getElem hi⟩
theorem enum_l {H : Hp} {a : Addr} {l : List Str} (hS : H a = some (.lst (l.map V.str))) : EnumLike (Ite K a) H l := by
  refine ⟨fun i H' hi s => ⟨_, .str l[i], SqL.of' (s _ _ hS), by simp [hi]⟩, fun H' s => ⟨_, SqL.of' (s _ _ hS), by simp⟩, fun i x H1 H2 hi s y => ?_⟩
  obtain ⟨T, x', rfl, hT, rfl, g⟩ := y
  obtain ⟨z, rfl, e⟩ := enum_get i x' hi (g _ (SqL.of' (s _ _ hS)))
  exact ⟨T, z, rfl, hT, rfl, e⟩
theorem enum_t {H : Hp} {a : Addr} {l : List Str} (hS : H a = some (.tup (l.map V.str))) : EnumLike (IteT K a) H l := by
  refine ⟨fun i H' hi s => ⟨_, .str l[i], SqT.of' (s _ _ hS), by simp [hi]⟩, fun H' s => ⟨_, SqT.of' (s _ _ hS), by simp⟩, fun i x H1 H2 hi s y => ?_⟩
  obtain ⟨T, x', rfl, hT, rfl, g⟩ := y
  obtain ⟨z, rfl, e⟩ := enum_get i x' hi (g _ (SqT.of' (s _ _ hS)))
  exact ⟨T, z, rfl, hT, rfl, e⟩
def spFirstWrong : Sp := fun vs H Q _ => ∃ (a : Addr) (l : List Str), vs = [.ref a] ∧ Sq H a l ∧ (∀ z ∈ l, Nm z) ∧ ∀ H', Same H H' → Q .non H'
theorem sc16 : FnScope ["items", "at", "item"] ["items"] (defScope (top 16)) := ⟨rfl, rfl, rfl, by decide +kernel, rfl, by decide +kernel, by decide +kernel⟩
theorem ok_firstWrong {f : Addr} {fd : FuncData} (D : Df K mg "first_wrong" (top 16) ["items"] f fd) (B : Bi mg) (N : Have P w K mg base 1 "is_name" ["value"] spIsName) : FnOk P w K mg base CX0 2 f fd ["items"] spFirstWrong := by
  obtain ⟨f1, fd1, G1, m1, k1, b1⟩ := N
  refine D.F.ok sc16 (fun vs H Q E h => ?_) (fun cdv A outer s H vs Q E hr h => ?_)
  · obtain ⟨a, l, rfl, _⟩ := h
    rfl
  · obtain ⟨a, l, rfl, hS, hN, k⟩ := h
    refine ⟨_, pss_cons (ps_for PassesOwn.never rfl (pi_enumA (by rfl) B.enum (pa_cons (pv 0) pa_nil)) (pg_tup rfl (pgs_cons (pg_name (i := 1) sc16.nd rfl (.inl rfl)) (pgs_cons (pg_name (i := 2) sc16.nd rfl (.inl rfl)) pgs_nil)))
      (pss_one (ps_if (pt_not (pt_val (pe_call G1 hr (by rfl) m1 k1 b1 .nil pass0 (pa_cons (pv 2) pa_nil)))) (pss_one (ps_ret (pv 1))) pss_nil))) (pss_one (ps_ret pe_non)), ?_⟩
    refine ⟨_, rfl, a, l.map V.str, rfl, ?_⟩
    have go : (H a = some (.lst (l.map V.str)) ∧ EnumLike (Ite K a) H l) ∨ (H a = some (.tup (l.map V.str)) ∧ EnumLike (IteT K a) H l) := hS.elim (fun h => .inl ⟨h, enum_l h⟩) fun h => .inr ⟨h, enum_t h⟩
    refine go.elim (fun ⟨h1, J⟩ => .inl ⟨SqL.of' h1, ?_⟩) (fun ⟨h1, J⟩ => .inr ⟨SqT.of' h1, ?_⟩)
    all_goals refine for_gen l.length (fun i σ H' => ∃ v1 v2, σ = [some (.ref a), v1, v2] ∧ Same H H') ⟨none, none, rfl, Same.refl _⟩ (fun i σ H' hi ⟨_, _, _, s⟩ => J.go i H' hi s) (fun σ H' ⟨_, _, _, s⟩ => J.stop H' s) (fun i x σ H1 H2 hi ⟨v1, v2, e, s⟩ y => ?_) (fun σ H' ⟨_, _, e, s⟩ => k H' s)
    all_goals (
      obtain ⟨T, z, rfl, hT, rfl, ey⟩ := J.yld i x H1 H2 hi s y
      subst e
      refine ⟨T, _, rfl, SqT.of' upd_same, rfl, _, _, rfl, _, _, rfl, rfl, ?_⟩
      refine ⟨_, rfl, z, rfl, hN z (List.mem_of_getElem? ey), fun H' s' => ⟨_, rfl, iteF ⟨_, _, rfl, ((s.one hT).trans s')⟩⟩⟩)
def spAreNames : Sp := fun vs H Q _ => ∃ (a : Addr) (l : List Str), vs = [.ref a] ∧ Sq H a l ∧ (∀ z ∈ l, Nm z) ∧ ∀ H', Same H H' → Q (.bl true) H'
theorem sc17 : FnScope ["value"] ["value"] (defScope (top 17)) := ⟨rfl, rfl, rfl, by decide +kernel, rfl, by decide +kernel, by decide +kernel⟩
theorem lt_or {H : Hp} {a : Addr} {l : List Str} (hS : Sq H a l) : ∃ t, TyX K H (.ref a) (.type t) ∧ PySem.W.kitAny K (.type t) [.type "list", .type "tuple"] = some true := by
  rcases hS with hS | hS
  · exact ⟨"list", .base (.lst hS), kitAny_cons (b := true) (kit_ty (by decide +kernel)) (fun z => nomatch z) (fun _ => rfl)⟩
  · exact ⟨"tuple", .base (.tup hS), kitAny_cons (b := false) (kit_ty (by decide +kernel)) (fun _ => kitAny_cons (b := true) (kit_ty (by decide +kernel)) (fun z => nomatch z) (fun _ => rfl)) (fun z => nomatch z)⟩
theorem ok_areNames {f : Addr} {fd : FuncData} (D : Df K mg "are_names" (top 17) ["value"] f fd) (B : Bi mg) (N : Have P w K mg base 2 "first_wrong" ["items"] spFirstWrong) : FnOk P w K mg base CX0 3 f fd ["value"] spAreNames := by
  obtain ⟨f1, fd1, G1, m1, k1, b1⟩ := N
  refine D.F.ok sc17 (fun vs H Q E h => ?_) (fun cdv A outer s H vs Q E hr h => ?_)
  · obtain ⟨a, l, rfl, _⟩ := h
    rfl
  · obtain ⟨a, l, rfl, hS, hN, k⟩ := h
    refine ⟨_, pss_one (ps_ret (pe_and (pe_callB call_isiT (by rfl) B.isin (by decide +kernel) (pa_cons (pv 0) (pa_cons (pe_tup (pa_cons (pe_bltn (v := .ty "list") (by rfl) B.list (by decide +kernel) rfl) (pa_cons (pe_bltn (v := .ty "tuple") (by rfl) B.tuple (by decide +kernel) rfl) pa_nil))) pa_nil)))
      (pe_one (pe_cmpR op_isN (pe_call G1 hr (by rfl) m1 k1 b1 .nil pass0 (pa_cons (pv 0) pa_nil)) pe_non (by rfl))))), ?_⟩
    refine ⟨_, rfl, (by show 2 ≤ sizeLine; decide), fun t ht => ?_⟩
    have s1 : Same H (upd H t (.tup [.ty "list", .ty "tuple"])) := Same.put (Same.refl H) ht
    obtain ⟨ty, h1, h2⟩ := lt_or (K := K) (hS.same s1)
    refine ⟨_, t, _, _, _, _, rfl, upd_same, .cons (.ty _) (.cons (.ty _) .nil), h1, h2, _, rfl, iteT ⟨_, rfl, a, l, rfl, hS.same s1, hN, fun H' s' => ⟨rfl, ?_⟩⟩⟩
    exact k _ (s1.trans s')
def spNeedLog : Sp := fun vs H Q _ => ∃ (a : Addr) (l : List Str), vs = [.ref a] ∧ Sq H a l ∧ (∀ z ∈ l, Nm z) ∧ ∀ H', Same H H' → Q .non H'
theorem sc18 : FnScope ["log", "at"] ["log"] (defScope (top 18)) := ⟨rfl, rfl, rfl, by decide +kernel, rfl, by decide +kernel, by decide +kernel⟩
theorem ok_needLog {f : Addr} {fd : FuncData} (D : Df K mg "need_log" (top 18) ["log"] f fd) (B : Bi mg) (N : Have P w K mg base 2 "first_wrong" ["items"] spFirstWrong) : FnOk P w K mg base CX0 3 f fd ["log"] spNeedLog := by
  obtain ⟨f1, fd1, G1, m1, k1, b1⟩ := N
  refine D.F.ok sc18 (fun vs H Q E h => ?_) (fun cdv A outer s H vs Q E hr h => ?_)
  · obtain ⟨a, l, rfl, _⟩ := h
    rfl
  · obtain ⟨a, l, rfl, hS, hN, k⟩ := h
    refine ⟨_, pss_cons (ps_if (pt_not (pt_val (pe_callB call_isiT (by rfl) B.isin (by decide +kernel) (pa_cons (pv 0) (pa_cons (pe_tup (pa_cons (pe_bltn (v := .ty "list") (by rfl) B.list (by decide +kernel) rfl) (pa_cons (pe_bltn (v := .ty "tuple") (by rfl) B.tuple (by decide +kernel) rfl) pa_nil))) pa_nil))))) pss_never pss_nil)
      (pss_cons (ps_set (i := 1) sc18.nd rfl (.inl rfl) (pe_call G1 hr (by rfl) m1 k1 b1 .nil pass0 (pa_cons (pv 0) pa_nil)))
      (pss_one (ps_if (pt_cmpR op_notN (pv 1) pe_non (by rfl)) pss_never pss_nil))), ?_⟩
    refine ⟨_, rfl, (by show 2 ≤ sizeLine; decide), fun t ht => ?_⟩
    have s1 : Same H (upd H t (.tup [.ty "list", .ty "tuple"])) := Same.put (Same.refl H) ht
    obtain ⟨ty, h1, h2⟩ := lt_or (K := K) (hS.same s1)
    refine ⟨_, t, _, _, _, _, rfl, upd_same, .cons (.ty _) (.cons (.ty _) .nil), h1, h2, _, rfl, iteF ⟨_, rfl, a, l, rfl, hS.same s1, hN, fun H' s' => ?_⟩⟩
    exact ⟨_, rfl, rfl, _, rfl, iteF (k _ (s1.trans s'))⟩
def spNeedK : Sp := fun vs H Q _ => ∃ n : Int, vs = [.int n] ∧ 0 ≤ n ∧ n ≤ 6 ∧ Q .non H
theorem sc19 : FnScope ["k"] ["k"] (defScope (top 19)) := ⟨rfl, rfl, rfl, by decide +kernel, rfl, by decide +kernel, by decide +kernel⟩
theorem ok_needK {f : Addr} {fd : FuncData} (D : Df K mg "need_k" (top 19) ["k"] f fd) (m6 : ∃ t, mg "GREATEST_K" = some (.int 6 t)) (N : Have P w K mg base 1 "is_number" ["value"] spIsNumber) : FnOk P w K mg base CX0 2 f fd ["k"] spNeedK := by
  obtain ⟨f1, fd1, G1, m1, k1, b1⟩ := N
  obtain ⟨t6, m6⟩ := m6
  refine D.F.ok sc19 (fun vs H Q E h => ?_) (fun cdv A outer s H vs Q E hr h => ?_)
  · obtain ⟨n, rfl, _⟩ := h
    rfl
  · obtain ⟨n, rfl, h0, h6, k⟩ := h
    refine ⟨_, pss_one (ps_if (pw_or (pt_not (pt_val (pe_call G1 hr (by rfl) m1 k1 b1 .nil pass0 (pa_cons (pv 0) pa_nil)))) (pw_or1 (pt_not (pt_chain op_le op_le pe_int (pv 0) (pe_glob (v := .int 6) (by rfl) m6 ⟨_, rfl⟩))))).pt pss_never pss_nil), ?_⟩
    have d1 : decide ((0 : Int) ≤ n) = true := decide_eq_true h0
    have d6 : decide (n ≤ (6 : Int)) = true := decide_eq_true h6
    refine ⟨_, rfl, n, rfl, _, rfl, iteF ⟨_, rfl, _, _, rfl, rfl, _, rfl, ?_⟩⟩
    rw [d1]
    refine iteT ⟨_, _, rfl, rfl, _, rfl, ?_⟩
    rw [d6]
    exact iteF k
/-- the first place behind at where z stands -/
def pbh (l : List Str) (z : Str) (at_ : Int) : Option Nat := (List.range l.length).find? fun i => decide (at_ < (i : Int)) && decide (l[i]? = some z)
def spPlaceBehind : Sp := fun vs H Q _ => ∃ (a : Addr) (l : List Str) (z : Str) (i : Int), vs = [.ref a, .str z, .int i] ∧ H a = some (.tup (l.map V.str)) ∧ l.length ≤ 1000 ∧ -1 ≤ i ∧ i ≤ 1000 ∧ Q (match pbh l z i with | some j => .int (j : Nat) | none => .non) H
theorem pbh_some {l : List Str} {z : Str} {i : Int} {n : Nat} (h1 : i < (n : Int)) (h2 : l[n]? = some z) (h3 : ∀ m : Nat, m < n → i < (m : Int) → l[m]? ≠ some z) : pbh l z i = some n := by
  have hn : n < l.length := by
    rcases Nat.lt_or_ge n l.length with h | h
    · exact h
    · rw [List.getElem?_eq_none h] at h2
      cases h2
  unfold pbh
  rw [List.find?_range_eq_some]
  refine ⟨by simp [h1, h2], List.mem_range.mpr hn, fun m hm => ?_⟩
  by_cases q : i < (m : Int)
  · simp [h3 m hm q]
  · simp [q]
theorem pbh_none {l : List Str} {z : Str} {i : Int} (h3 : ∀ m : Nat, m < l.length → i < (m : Int) → l[m]? ≠ some z) : pbh l z i = none := by
  unfold pbh
  rw [List.find?_eq_none]
  intro m hm
  have := h3 m (List.mem_range.mp hm)
  by_cases q : i < (m : Int)
  · simp [this q]
  · simp [q]
theorem sc21 : FnScope ["log", "name", "at", "index"] ["log", "name", "at"] (defScope (top 21)) := ⟨rfl, rfl, rfl, by decide +kernel, rfl, by decide +kernel, by decide +kernel⟩
theorem ok_placeBehind {f : Addr} {fd : FuncData} (D : Df K mg "place_behind" (top 21) ["log", "name", "at"] f fd) (B : Bi mg) : FnOk P w K mg base CX0 1 f fd ["log", "name", "at"] spPlaceBehind := by
  refine D.F.ok sc21 (fun vs H Q E h => ?_) (fun cdv A outer s H vs Q E hr h => ?_)
  · obtain ⟨a, l, z, i, rfl, _⟩ := h
    rfl
  · obtain ⟨a, l, z, i, rfl, hS, hl, h0, h1, k⟩ := h
    refine ⟨_, pss_cons (ps_for PassesOwn.never rfl (pi_range2 (by rfl) B.range (pa_cons (pe_op op_add (pv 2) pe_int) (pa_cons (pe_callB call_len_seq (by rfl) B.len PySem.boot_len (pa_cons (pv 0) pa_nil)) pa_nil))) (pg_name (i := 3) sc21.nd rfl (.inl rfl))
      (pss_one (ps_if (pt_cmpR op_eq (pe_ix ix_tup (pv 0) (pv 3) (fun _ _ => rfl)) (pv 1) (by rfl)) (pss_one (ps_ret (pv 3))) pss_nil))) (pss_one (ps_ret pe_non)), ?_⟩
    refine ⟨_, rfl, _, _, rfl, rfl, _, rfl, a, _, rfl, .inr (SqT.of' hS), i + 1, _, rfl, ⟨by omega, by omega, by omega, ?_⟩, ?_⟩
    · rw [List.length_map]; omega
    have en : (((l.map V.str).length : Nat) : Int) - (i + 1) = (l.length : Int) - (i + 1) := by rw [List.length_map]
    rw [en]
    refine for_range (fun j σ H' => H' = H ∧ (∃ v, σ = [some (.ref a), some (.str z), some (.int i), v]) ∧ ∀ m : Nat, (m : Int) < i + 1 + j → i < (m : Int) → l[m]? ≠ some z) ⟨rfl, ⟨none, rfl⟩, fun m h1 h2 => by omega⟩ (fun j σ H' hj ⟨e, ⟨v, e2⟩, hm⟩ => ?_) (fun σ H' ⟨e, ⟨v, e2⟩, hm⟩ => ?_)
    · subst e e2
      obtain ⟨n, en⟩ : ∃ n : Nat, i + 1 + (j : Int) = (n : Int) := ⟨(i + 1 + j).toNat, by omega⟩
      have hn : n < l.length := by omega
      refine ⟨_, rfl, _, rfl, a, _, _, _, rfl, rfl, SqT.of' hS, at_of (j := n) (v := V.str l[n]) en (by simp [hn]), _, rfl, rfl, _, rfl, ?_⟩
      refine ite2 (fun c => ?_) (fun c => ?_)
      · have c' : V.str l[n] = V.str z := of_decide_eq_true c
        have e : l[n] = z := by injection c'
        refine ⟨_, rfl, ?_⟩
        have := pbh_some (l := l) (z := z) (i := i) (n := n) (by omega) (by rw [List.getElem?_eq_getElem hn, e]) (fun m h1 h2 => hm m (by omega) h2)
        rw [this] at k
        rw [en]
        exact k
      · refine ⟨rfl, ⟨_, rfl⟩, fun m h1 h2 => ?_⟩
        by_cases q : m = n
        · subst q
          intro e
          rw [List.getElem?_eq_getElem hn] at e
          exact c (decide_eq_true (by rw [Option.some.inj e]))
        · exact hm m (by omega) h2
    · subst e
      have := pbh_none (l := l) (z := z) (i := i) (fun m h1 h2 => hm m (by omega) h2)
      rw [this] at k
      exact k
end
end G

end

/-! Si -/
section
set_option maxHeartbeats 4000000
namespace Si
section
variable {α : Type} [DecidableEq α]

def Alike (k : Nat) (u v : List α) : Prop := ∀ s : List α, s.length ≤ k → (s.Sublist u ↔ s.Sublist v)
theorem Alike.refl {k : Nat} (u : List α) : Alike k u u := fun _ _ => Iff.rfl
theorem Alike.symm {k : Nat} {u v : List α} (h : Alike k u v) : Alike k v u := fun s hs => (h s hs).symm
theorem Alike.trans {k : Nat} {u v w : List α} (h : Alike k u v) (g : Alike k v w) : Alike k u w := fun s hs => (h s hs).trans (g s hs)
theorem Alike.mono {k j : Nat} {u v : List α} (h : Alike k u v) (hj : j ≤ k) : Alike j u v := fun s hs => h s (Nat.le_trans hs hj)
theorem Alike.append {k : Nat} {u v u' v' : List α} (h : Alike k u u') (g : Alike k v v') : Alike k (u ++ v) (u' ++ v') := by
  intro s hs
  constructor
  · intro q
    obtain ⟨a, b, rfl, ha, hb⟩ := List.sublist_append_iff.mp q
    rw [List.length_append] at hs
    exact List.Sublist.append ((h a (by omega)).mp ha) ((g b (by omega)).mp hb)
  · intro q
    obtain ⟨a, b, rfl, ha, hb⟩ := List.sublist_append_iff.mp q
    rw [List.length_append] at hs
    exact List.Sublist.append ((h a (by omega)).mpr ha) ((g b (by omega)).mpr hb)

/-- the step of the depths that come -/
def up (f : α → Nat) (c : α) : α → Nat := fun b => if b = c then f c + 1 else min (f b) (f c + 1)
def one : α → Nat := fun _ => 1
def bk : List α → α → Nat
  | [] => one
  | c :: q => up (bk q) c
def fr (p : List α) : α → Nat := p.foldl up one

theorem bk_le : ∀ (q : List α) (b : α) (s : List α), s.Sublist q → ¬ (b :: s).Sublist q → bk q b ≤ s.length + 1
  | [], b, s, _, _ => by show 1 ≤ _; omega
  | c :: q, b, s, h1, h2 => by
    show up (bk q) c b ≤ _
    unfold up
    by_cases hbc : b = c
    · subst hbc
      rw [if_pos rfl]
      -- s not in q, s = b :: s' with s' in q
      have hs : ¬ s.Sublist q := fun h => h2 (h.cons_cons b)
      rcases List.sublist_cons_iff.mp h1 with h | ⟨r, rfl, hr⟩
      · exact absurd h hs
      · have := bk_le q b r hr hs
        rw [List.length_cons]; omega
    · rw [if_neg hbc]
      by_cases hs : s.Sublist q
      · have := bk_le q b s hs (fun h => h2 (h.cons c))
        omega
      · rcases List.sublist_cons_iff.mp h1 with h | ⟨r, rfl, hr⟩
        · exact absurd h hs
        · have := bk_le q c r hr hs
          rw [List.length_cons]; omega
theorem bk_ex : ∀ (q : List α) (b : α), ∃ s : List α, s.Sublist q ∧ ¬ (b :: s).Sublist q ∧ s.length + 1 = bk q b
  | [], b => ⟨[], List.Sublist.refl _, by simp, rfl⟩
  | c :: q, b => by
    show ∃ s : List α, _ ∧ _ ∧ _ = up (bk q) c b
    unfold up
    obtain ⟨r, r1, r2, r3⟩ := bk_ex q c
    by_cases hbc : b = c
    · subst hbc
      refine ⟨b :: r, r1.cons_cons b, fun h => ?_, by rw [if_pos rfl, List.length_cons]; omega⟩
      exact r2 (List.cons_sublist_cons.mp h)
    · rw [if_neg hbc]
      obtain ⟨s, s1, s2, s3⟩ := bk_ex q b
      by_cases hle : bk q b ≤ bk q c + 1
      · refine ⟨s, s1.cons c, fun h => ?_, by omega⟩
        rcases List.sublist_cons_iff.mp h with h | ⟨_, e, _⟩
        · exact s2 h
        · exact hbc (List.cons.inj e).1
      · refine ⟨c :: r, r1.cons_cons c, fun h => ?_, by rw [List.length_cons]; omega⟩
        rcases List.sublist_cons_iff.mp h with h | ⟨_, e, _⟩
        · exact r2 ((List.sublist_cons_self b _).trans h)
        · exact hbc (List.cons.inj e).1
theorem fr_rev (p : List α) : fr p = bk p.reverse := by
  have : ∀ (r : List α), bk r = r.foldr (fun c f => up f c) one := by
    intro r
    induction r with
    | nil => rfl
    | cons c q ih => show up (bk q) c = _; rw [ih]; rfl
  rw [this, List.foldr_reverse]; rfl
theorem fr_snoc (p : List α) (a : α) : fr (p ++ [a]) = up (fr p) a := by
  unfold fr; rw [List.foldl_append]; rfl
theorem snoc_sub (s p : List α) (b : α) : (s ++ [b]).Sublist p ↔ (b :: s.reverse).Sublist p.reverse := by
  rw [← List.reverse_sublist, List.reverse_append]; rfl
theorem fr_le (p : List α) (b : α) (s : List α) (h1 : s.Sublist p) (h2 : ¬ (s ++ [b]).Sublist p) : fr p b ≤ s.length + 1 := by
  rw [fr_rev, ← List.length_reverse]
  exact bk_le _ _ _ (List.reverse_sublist.mpr h1) (fun h => h2 ((snoc_sub s p b).mpr h))
theorem fr_ex (p : List α) (b : α) : ∃ s : List α, s.Sublist p ∧ ¬ (s ++ [b]).Sublist p ∧ s.length + 1 = fr p b := by
  obtain ⟨s, h1, h2, h3⟩ := bk_ex p.reverse b
  refine ⟨s.reverse, ?_, fun h => ?_, by rw [fr_rev, List.length_reverse]; exact h3⟩
  · have := List.reverse_sublist.mpr h1
    rwa [List.reverse_reverse] at this
  · have := (snoc_sub _ _ _).mp h
    rw [List.reverse_reverse] at this
    exact h2 this

/-- splitting ahead: a row in p ++ q whose beginning u ++ [a] is not in p has a's rest behind -/
theorem rest_of {u r p q : List α} {a : α} (h : (u ++ a :: r).Sublist (p ++ q)) (n : ¬ (u ++ [a]).Sublist p) : (a :: r).Sublist q := by
  obtain ⟨s1, s2, e, h1, h2⟩ := List.sublist_append_iff.mp h
  rcases List.append_eq_append_iff.mp e with ⟨x, e1, e2⟩ | ⟨x, e1, e2⟩
  · -- s1 = u ++ x, a :: r = x ++ s2
    cases x with
    | nil =>
      rw [List.nil_append] at e2
      rw [e2]; exact h2
    | cons y x =>
      rw [List.cons_append] at e2
      obtain ⟨rfl, e3⟩ := List.cons.inj e2
      exfalso; apply n
      rw [e1] at h1
      refine List.Sublist.trans ?_ h1
      exact List.Sublist.append (List.Sublist.refl _) (by simp)
  · -- u = s1 ++ x, s2 = x ++ a :: r
    rw [e2] at h2
    exact (List.sublist_append_right x _).trans h2
/-- .. behind: a row in p ++ q whose end a :: r is not in q has a's beginning ahead -/
theorem ahead_of {u r p q : List α} {a : α} (h : (u ++ a :: r).Sublist (p ++ q)) (n : ¬ (a :: r).Sublist q) : (u ++ [a]).Sublist p := by
  apply Classical.byContradiction
  intro m
  exact n (rest_of h m)

/-- an event whose depths are too great together may be left out -/
theorem drop_alike {k : Nat} {p q : List α} {a : α} (h : k + 1 < fr p a + bk q a) : Alike k (p ++ a :: q) (p ++ q) := by
  intro t ht
  constructor
  · intro ha
    apply Classical.byContradiction
    intro hn
    obtain ⟨s1, s2, rfl, h1, h2⟩ := List.sublist_append_iff.mp ha
    rcases List.sublist_cons_iff.mp h2 with h2 | ⟨r, rfl, hr⟩
    · exact hn (h1.append h2)
    · have g1 : ¬ (s1 ++ [a]).Sublist p := fun z => hn (by
        have := z.append hr
        rwa [List.append_assoc] at this)
      have g2 : ¬ (a :: r).Sublist q := fun z => hn (h1.append z)
      have := fr_le p a s1 h1 g1
      have := bk_le q a r hr g2
      rw [List.length_append, List.length_cons] at ht
      omega
  · intro ha
    exact ha.trans (List.Sublist.append (List.Sublist.refl _) (List.sublist_cons_self a q))

/-- longest beginning in p -/
theorem split_front : ∀ (n : Nat) (t p q : List α), t.length = n → t.Sublist (p ++ q) → ∃ u r : List α, t = u ++ r ∧ u.Sublist p ∧ r.Sublist q ∧ ∀ a r', r = a :: r' → ¬ (u ++ [a]).Sublist p := by
  intro n t p q hn h
  obtain ⟨s1, s2, rfl, h1, h2⟩ := List.sublist_append_iff.mp h
  clear hn h n
  induction s2 generalizing s1 with
  | nil => exact ⟨s1, [], rfl, h1, h2, fun _ _ e => by cases e⟩
  | cons a r ih =>
    by_cases g : (s1 ++ [a]).Sublist p
    · obtain ⟨u, r', e, e1, e2, e3⟩ := ih (s1 ++ [a]) g ((List.sublist_cons_self a r).trans h2)
      refine ⟨u, r', ?_, e1, e2, e3⟩
      rw [← e, List.append_assoc]; rfl
    · exact ⟨s1, a :: r, rfl, h1, h2, fun a' r' e => by obtain ⟨rfl, rfl⟩ := List.cons.inj e; exact g⟩
theorem split_back (t p q : List α) (h : t.Sublist (p ++ q)) : ∃ u r : List α, t = u ++ r ∧ u.Sublist p ∧ r.Sublist q ∧ ∀ u' a, u = u' ++ [a] → ¬ (a :: r).Sublist q := by
  have h' : t.reverse.Sublist (q.reverse ++ p.reverse) := by
    rw [← List.reverse_append]; exact List.reverse_sublist.mpr h
  obtain ⟨u, r, e, h1, h2, h3⟩ := split_front _ _ _ _ rfl h'
  refine ⟨r.reverse, u.reverse, ?_, ?_, ?_, ?_⟩
  · have := congrArg List.reverse e
    rw [List.reverse_reverse, List.reverse_append] at this
    exact this
  · have := List.reverse_sublist.mpr h2
    rwa [List.reverse_reverse] at this
  · have := List.reverse_sublist.mpr h1
    rwa [List.reverse_reverse] at this
  · intro u' a e' g
    have e2 : r = a :: u'.reverse := by
      have := congrArg List.reverse e'
      rw [List.reverse_reverse, List.reverse_append] at this
      exact this
    apply h3 a _ e2
    rw [snoc_sub, List.reverse_reverse]
    exact g
/-- a block whose events are far from both ends may be set anew -/
theorem block_half {k : Nat} {p q B B' : List α} (hf : ∀ c ∈ B, ∀ d ∈ B, k + 1 ≤ fr p c + bk q d) (hm : ∀ c ∈ B, c ∈ B') {t : List α} (ht : t.length ≤ k)
    (h : t.Sublist (p ++ (B ++ q))) : t.Sublist (p ++ (B' ++ q)) := by
  obtain ⟨u, r, rfl, h1, h2, h3⟩ := split_front _ _ _ _ rfl h
  obtain ⟨m, v, rfl, g1, g2, g3⟩ := split_back _ _ _ h2
  have hlen : (u ++ (m ++ v)).length = u.length + m.length + v.length := by simp [List.length_append]; omega
  match m, g1, g3, h3, hlen with
  | [], _, _, _, _ => exact h1.append (List.sublist_append_of_sublist_right (by simpa using g2))
  | [c], g1, _, _, _ =>
    have hc : c ∈ B := g1.subset (by simp)
    refine h1.append (List.Sublist.append ?_ g2)
    exact List.singleton_sublist.mpr (hm c hc)
  | c :: d :: m', g1, g3, h3, hlen =>
    exfalso
    have hc : c ∈ B := g1.subset (by simp)
    obtain ⟨m'', e, he⟩ : ∃ m'' e, c :: d :: m' = m'' ++ [e] := ⟨(c :: d :: m').dropLast, (c :: d :: m').getLast (by simp), (List.dropLast_concat_getLast _).symm⟩
    have hd : e ∈ B := g1.subset (by rw [he]; simp)
    have k1 := fr_le p c u h1 (h3 c (d :: m' ++ v) rfl)
    have k2 := bk_le q e v g2 (g3 m'' e he)
    have k3 := hf c hc e hd
    simp only [List.length_cons] at hlen
    omega
theorem block_alike {k : Nat} {p q B B' : List α} (hf : ∀ c ∈ B, ∀ d ∈ B, k + 1 ≤ fr p c + bk q d) (hm : ∀ c, c ∈ B ↔ c ∈ B') : Alike k (p ++ (B ++ q)) (p ++ (B' ++ q)) := by
  intro t ht
  exact ⟨block_half hf (fun c h => (hm c).mp h) ht, block_half (fun c hc d hd => hf c ((hm c).mpr hc) d ((hm d).mpr hd)) (fun c h => (hm c).mpr h) ht⟩
end
end Si
namespace Si
section
variable {α : Type} [DecidableEq α]
/-- no event can be left out -/
def Red (k : Nat) (w : List α) : Prop := ∀ p a q, w = p ++ a :: q → fr p a + bk q a ≤ k + 1
/-- neighbours with the same depths, k + 1 together, stand in order -/
def Ord (le : α → α → Prop) (k : Nat) (w : List α) : Prop := ∀ p a b q, w = p ++ a :: b :: q → fr p a = fr (p ++ [a]) b → bk (b :: q) a = bk q b → fr p a + bk (b :: q) a = k + 1 → le a b

theorem tail_sub {a c : α} {z q : List α} (h : (a :: z).Sublist (c :: q)) : z.Sublist q := h.tail
theorem skip_sub {a c : α} {z q : List α} (h : (a :: z).Sublist (c :: q)) (n : a ≠ c) : (a :: z).Sublist q := by
  rcases List.sublist_cons_iff.mp h with h | ⟨_, e, _⟩
  · exact h
  · exact absurd (List.cons.inj e).1 n
theorem skip_subs {a : α} {z r q : List α} (h : (a :: z).Sublist (r ++ q)) (n : a ∉ r) : (a :: z).Sublist q :=
  rest_of (u := []) h fun g => n (List.singleton_sublist.mp g)
theorem fr_ge {p : List α} {a : α} {x : Nat} : ∀ (m : List α), a ∉ m → x ≤ fr p a → (∀ m1 c m2, m = m1 ++ c :: m2 → x ≤ fr (p ++ m1) c) → x ≤ fr (p ++ m) a := by
  intro m
  generalize hn : m.length = n
  induction n generalizing m with
  | zero =>
    intro _ h _
    have : m = [] := List.length_eq_zero_iff.mp hn
    subst this
    rw [List.append_nil]; exact h
  | succ n ih =>
    intro ha h hm
    obtain ⟨m', c, rfl⟩ : ∃ m' c, m = m' ++ [c] := ⟨m.dropLast, m.getLast (fun e => by subst e; simp at hn), (List.dropLast_concat_getLast _).symm⟩
    have hn' : m'.length = n := by simpa using hn
    have h1 := ih m' hn' (fun z => ha (List.mem_append.mpr (Or.inl z))) h (fun m1 d m2 e => hm m1 d (m2 ++ [c]) (by rw [e]; simp))
    have h2 := hm m' c [] rfl
    rw [← List.append_assoc, fr_snoc]
    unfold up
    rw [if_neg (fun e => ha (by rw [e]; simp))]
    omega
theorem chain_le {le : α → α → Prop} (tr : ∀ a b c, le a b → le b c → le a c) {k : Nat} {x y : Nat} (hxy : x + y = k + 1) : ∀ (r : List α) (p : List α) (b a : α) (q : List α),
    Ord le k (p ++ b :: (r ++ a :: q)) → (∀ s c t, b :: (r ++ [a]) = s ++ c :: t → fr (p ++ s) c = x ∧ bk (t ++ q) c = y) → le b a
  | [], p, b, a, q, O, h => by
    have h1 := h [] b [a] rfl
    have h2 := h [b] a [] rfl
    rw [List.append_nil] at h1
    refine O p b a q rfl ?_ ?_ ?_
    · rw [h1.1, h2.1]
    · exact h1.2.trans h2.2.symm
    · have e1 := h1.1
      have e2 : bk (a :: q) b = y := h1.2
      rw [e1, e2]; exact hxy
  | c :: r, p, b, a, q, O, h => by
    have h1 := h [] b (c :: (r ++ [a])) rfl
    have h2 := h [b] c (r ++ [a]) rfl
    rw [List.append_nil] at h1
    have e2 : bk (c :: (r ++ a :: q)) b = y := by
      have := h1.2
      rwa [List.cons_append, List.append_assoc] at this
    have e3 : bk (r ++ a :: q) c = y := by
      have := h2.2
      rwa [List.append_assoc] at this
    have l1 : le b c := O p b c (r ++ a :: q) rfl (by rw [h1.1, h2.1]) (by rw [e2, e3]) (by rw [h1.1, e2]; exact hxy)
    have l2 : le c a := by
      refine chain_le tr hxy r (p ++ [b]) c a q ?_ ?_
      · have : p ++ [b] ++ c :: (r ++ a :: q) = p ++ b :: ((c :: r) ++ a :: q) := by simp
        rw [this]; exact O
      · intro s d t e
        have := h (b :: s) d t (by rw [List.cons_append, List.cons_append, e])
        rw [List.append_assoc]
        exact this
    exact tr _ _ _ l1 l2

theorem half {le : α → α → Prop} (tr : ∀ a b c, le a b → le b c → le a c) {k : Nat} {p u' v' : List α} {a b : α} (hab : a ≠ b) (Ru : Red k (p ++ a :: u')) (Rv : Red k (p ++ b :: v'))
    (h : Alike k (p ++ a :: u') (p ++ b :: v')) (Ov : Ord le k (p ++ b :: v')) : le b a := by
  have hba : b ≠ a := fun e => hab e.symm
  obtain ⟨s, s1, s2, s3⟩ := fr_ex p a
  obtain ⟨t, t1, t2, t3⟩ := bk_ex u' a
  obtain ⟨s', s1', s2', s3'⟩ := fr_ex p b
  obtain ⟨t', t1', t2', t3'⟩ := bk_ex v' b
  have ru := Ru p a u' rfl
  have rv := Rv p b v' rfl
  have c1 : (a :: t).Sublist v' := by
    have := (h (s ++ a :: t) (by simp only [List.length_append, List.length_cons]; omega)).mp (s1.append (t1.cons_cons a))
    exact skip_sub (rest_of this s2) hab
  have c2 : (b :: t').Sublist u' := by
    have := (h (s' ++ b :: t') (by simp only [List.length_append, List.length_cons]; omega)).mpr (s1'.append (t1'.cons_cons b))
    exact skip_sub (rest_of this s2') hba
  have c3 : k + 1 ≤ fr p a + bk v' b := by
    apply Classical.byContradiction
    intro hn
    have := (h (s ++ a :: b :: t') (by simp only [List.length_append, List.length_cons]; omega)).mp (s1.append (c2.cons_cons a))
    exact t2' ((List.sublist_cons_self a _).trans (skip_sub (rest_of this s2) hab))
  have c4 : k + 1 ≤ fr p b + bk u' a := by
    apply Classical.byContradiction
    intro hn
    have := (h (s' ++ b :: a :: t) (by simp only [List.length_append, List.length_cons]; omega)).mpr (s1'.append (c1.cons_cons b))
    exact t2 ((List.sublist_cons_self b _).trans (skip_sub (rest_of this s2') hba))
  have ex : fr p b = fr p a := by omega
  have ey : bk v' b = bk u' a := by omega
  have hxy : fr p a + bk u' a = k + 1 := by omega
  obtain ⟨r, q, rfl, hr⟩ := List.eq_append_cons_of_mem (c1.subset (List.mem_cons_self))
  -- the front depths behind b, ahead of a
  have fc : ∀ r1 c r2, r = r1 ++ c :: r2 → fr p a ≤ fr (p ++ b :: r1) c := by
    intro r1 c r2 e
    apply Classical.byContradiction
    intro hn
    obtain ⟨sc, q1, q2, q3⟩ := fr_ex (p ++ b :: r1) c
    have hca : c ≠ a := fun z => hr (by rw [e, z]; simp)
    have hin : (sc ++ c :: a :: t).Sublist (p ++ b :: (r ++ a :: q)) := by
      have e' : p ++ b :: (r ++ a :: q) = (p ++ b :: r1) ++ (c :: (r2 ++ a :: q)) := by rw [e]; simp
      rw [e']
      refine q1.append (List.Sublist.cons_cons c ?_)
      refine List.sublist_append_of_sublist_right ?_
      exact skip_subs c1 hr
    have := (h _ (by simp only [List.length_append, List.length_cons]; omega)).mpr hin
    apply q2
    have g := ahead_of this (fun z => t2 ((List.sublist_cons_self c _).trans (skip_sub z hca)))
    exact g.trans (List.sublist_append_left _ _)
  have bc : ∀ r1 c q2, r ++ a :: q = r1 ++ c :: q2 → a ∉ r1 → bk u' a ≤ bk q2 c := by
    intro r1 c q2 e har
    apply Classical.byContradiction
    intro hn
    obtain ⟨tc, w1, w2, w3⟩ := bk_ex q2 c
    have hin : (s' ++ b :: c :: tc).Sublist (p ++ b :: (r ++ a :: q)) := by
      refine s1'.append (List.Sublist.cons_cons b ?_)
      rw [e]
      exact List.sublist_append_of_sublist_right (w1.cons_cons c)
    have g1 := (h _ (by simp only [List.length_append, List.length_cons]; omega)).mpr hin
    have g2 : (c :: tc).Sublist u' := (List.sublist_cons_self b _).trans (skip_sub (rest_of g1 s2') hba)
    have g3 := (h (s ++ a :: c :: tc) (by simp only [List.length_append, List.length_cons]; omega)).mp (s1.append (g2.cons_cons a))
    have g4 := skip_sub (rest_of g3 s2) hab
    rw [e] at g4
    exact w2 (tail_sub (skip_subs g4 har))
  refine chain_le tr hxy r p b a q Ov ?_
  intro m c n e
  cases m with
  | nil =>
    obtain ⟨rfl, e2⟩ := List.cons.inj e
    refine ⟨by rw [List.append_nil]; exact ex, ?_⟩
    rw [← e2, List.append_assoc]
    exact ey
  | cons d m =>
    rw [List.cons_append] at e
    obtain ⟨rfl, e2⟩ := List.cons.inj e
    have ew : p ++ b :: (r ++ a :: q) = (p ++ b :: m) ++ c :: (n ++ q) := by
      have : r ++ a :: q = (r ++ [a]) ++ q := by simp
      rw [this, e2]; simp
    have hred := Rv (p ++ b :: m) c (n ++ q) ew
    have ham : a ∉ m := by
      rcases List.append_eq_append_iff.mp e2 with ⟨x, e3, e4⟩ | ⟨x, e3, e4⟩
      · -- m = r ++ x, [a] = x ++ c :: n
        cases x with
        | nil => rw [List.append_nil] at e3; rw [e3]; exact hr
        | cons _ x => simp at e4
      · -- r = m ++ x
        intro z; exact hr (by rw [e3]; exact List.mem_append.mpr (Or.inl z))
    have hb : bk u' a ≤ bk (n ++ q) c := bc m c (n ++ q) (by
      have : r ++ a :: q = (r ++ [a]) ++ q := by simp
      rw [this, e2]; simp) ham
    have hf : fr p a ≤ fr (p ++ b :: m) c := by
      rcases List.append_eq_append_iff.mp e2 with ⟨x, e3, e4⟩ | ⟨x, e3, e4⟩
      · cases x with
        | nil =>
          rw [List.append_nil] at e3
          rw [List.nil_append] at e4
          obtain ⟨rfl, _⟩ := List.cons.inj e4
          rw [e3]
          refine fr_ge (b :: r) (fun z => ?_) (Nat.le_refl _) ?_
          · rcases List.mem_cons.mp z with z | z
            · exact hab z
            · exact hr z
          · intro m1 d m2 e5
            cases m1 with
            | nil =>
              obtain ⟨rfl, _⟩ := List.cons.inj e5
              rw [List.append_nil]; omega
            | cons d' m1 =>
              rw [List.cons_append] at e5
              obtain ⟨rfl, e6⟩ := List.cons.inj e5
              exact fc m1 d m2 e6
        | cons _ x => simp at e4
      · cases x with
        | nil =>
          rw [List.nil_append] at e4
          obtain ⟨rfl, _⟩ := List.cons.inj e4
          rw [List.append_nil] at e3
          rw [← e3]
          refine fr_ge (b :: r) (fun z => ?_) (Nat.le_refl _) ?_
          · rcases List.mem_cons.mp z with z | z
            · exact hab z
            · exact hr z
          · intro m1 d m2 e5
            cases m1 with
            | nil =>
              obtain ⟨rfl, _⟩ := List.cons.inj e5
              rw [List.append_nil]; omega
            | cons d' m1 =>
              rw [List.cons_append] at e5
              obtain ⟨rfl, e6⟩ := List.cons.inj e5
              exact fc m1 d m2 e6
        | cons c' x =>
          rw [List.cons_append] at e4
          obtain ⟨rfl, e5⟩ := List.cons.inj e4
          exact fc m c x e3
    omega
theorem first_diff : ∀ (u v : List α), u = v ∨ (∃ p a u' b v', u = p ++ a :: u' ∧ v = p ++ b :: v' ∧ a ≠ b) ∨ (∃ b v', v = u ++ b :: v') ∨ (∃ a u', u = v ++ a :: u')
  | [], [] => .inl rfl
  | [], b :: v => .inr (.inr (.inl ⟨b, v, rfl⟩))
  | a :: u, [] => .inr (.inr (.inr ⟨a, u, rfl⟩))
  | a :: u, b :: v => by
    by_cases e : a = b
    · subst e
      rcases first_diff u v with rfl | ⟨p, c, u', d, v', rfl, rfl, h⟩ | ⟨d, v', rfl⟩ | ⟨d, v', rfl⟩
      · exact .inl rfl
      · exact .inr (.inl ⟨a :: p, c, u', d, v', rfl, rfl, h⟩)
      · exact .inr (.inr (.inl ⟨d, v', rfl⟩))
      · exact .inr (.inr (.inr ⟨d, v', rfl⟩))
    · exact .inr (.inl ⟨[], a, u, b, v, rfl, rfl, e⟩)
theorem no_more {k : Nat} {u v' : List α} {b : α} (R : Red k (u ++ b :: v')) (h : Alike k u (u ++ b :: v')) : False := by
  obtain ⟨s, s1, s2, s3⟩ := fr_ex u b
  obtain ⟨t, t1, t2, t3⟩ := bk_ex v' b
  have r := R u b v' rfl
  have g := (h (s ++ b :: t) (by simp only [List.length_append, List.length_cons]; omega)).mpr (s1.append (t1.cons_cons b))
  apply s2
  refine List.Sublist.trans ?_ g
  exact List.Sublist.append (List.Sublist.refl _) (by simp)
/-- the normal form is one -/
theorem unique {le : α → α → Prop} (tr : ∀ a b c, le a b → le b c → le a c) (an : ∀ a b, le a b → le b a → a = b) {k : Nat} {u v : List α} (Ru : Red k u) (Rv : Red k v) (Ou : Ord le k u) (Ov : Ord le k v) (h : Alike k u v) : u = v := by
  rcases first_diff u v with e | ⟨p, a, u', b, v', rfl, rfl, hab⟩ | ⟨b, v', rfl⟩ | ⟨a, u', rfl⟩
  · exact e
  · exact absurd (an a b (half tr (fun e => hab e.symm) Rv Ru h.symm Ou) (half tr hab Ru Rv h Ov)) hab
  · exact (no_more Rv h).elim
  · exact (no_more Ru h.symm).elim
end
end Si
namespace Si
section
variable {α : Type} [DecidableEq α]
/-! ### leaving out -/
def drp (k : Nat) : List α → List α → List α
  | [], q => q
  | a :: r, q => if bk r a + bk q a ≤ k + 1 then drp k r (a :: q) else drp k r q
def drop1 (k : Nat) (w : List α) : List α := drp k w.reverse []
theorem drp_len (k : Nat) : ∀ (r q : List α), (drp k r q).length ≤ r.length + q.length
  | [], q => by simp [drp]
  | a :: r, q => by
    unfold drp
    split
    · have := drp_len k r (a :: q); simp only [List.length_cons] at *; omega
    · have := drp_len k r q; simp only [List.length_cons] at *; omega
theorem drop1_len (k : Nat) (w : List α) : (drop1 k w).length ≤ w.length := by
  have := drp_len k w.reverse []
  simpa [drop1] using this
theorem drp_alike (k : Nat) : ∀ (r q : List α), Alike k (r.reverse ++ q) (drp k r q)
  | [], q => by simp [drp]; exact Alike.refl _
  | a :: r, q => by
    unfold drp
    have e : (a :: r).reverse ++ q = r.reverse ++ a :: q := by simp
    rw [e]
    split
    · exact drp_alike k r (a :: q)
    · refine (drop_alike ?_).trans (drp_alike k r q)
      rw [fr_rev, List.reverse_reverse]
      omega
theorem drp_red (k : Nat) : ∀ (r q : List α), (drp k r q).length = r.length + q.length → (∀ p a t, q = p ++ a :: t → bk (p.reverse ++ r) a + bk t a ≤ k + 1) → drp k r q = r.reverse ++ q ∧ ∀ p a t, r.reverse ++ q = p ++ a :: t → fr p a + bk t a ≤ k + 1
  | [], q, _, h => ⟨by simp [drp], fun p a t e => by
      rw [fr_rev]
      have := h p a t (by simpa using e)
      simpa using this⟩
  | a :: r, q, hl, h => by
    unfold drp at hl ⊢
    have e : (a :: r).reverse ++ q = r.reverse ++ a :: q := by simp
    rw [e]
    split
    · rename_i hc
      rw [if_pos hc] at hl
      refine drp_red k r (a :: q) (by simp only [List.length_cons] at *; omega) ?_
      intro p b t e2
      cases p with
      | nil =>
        obtain ⟨rfl, rfl⟩ := List.cons.inj e2
        simpa using hc
      | cons c p =>
        obtain ⟨rfl, e3⟩ := List.cons.inj e2
        have := h p b t e3
        simpa using this
    · rename_i hc
      rw [if_neg hc] at hl
      have := drp_len k r q
      simp only [List.length_cons] at hl
      omega
theorem drp_sub (k : Nat) : ∀ (r q : List α), (drp k r q).Sublist (r.reverse ++ q)
  | [], q => by simp [drp]
  | a :: r, q => by
    unfold drp
    have e : (a :: r).reverse ++ q = r.reverse ++ a :: q := by simp
    rw [e]
    split
    · exact drp_sub k r (a :: q)
    · exact (drp_sub k r q).trans (List.Sublist.append (List.Sublist.refl _) (List.sublist_cons_self _ _))
theorem drop1_alike (k : Nat) (w : List α) : Alike k w (drop1 k w) := by
  have := drp_alike k w.reverse []
  simpa [drop1] using this
theorem drop1_sub (k : Nat) (w : List α) : (drop1 k w).Sublist w := by
  have := drp_sub k w.reverse []
  simpa [drop1] using this
theorem drop1_red (k : Nat) (w : List α) (h : ¬ (drop1 k w).length < w.length) : Red k w := by
  have := drp_red k w.reverse [] (by
    have := drop1_len k w
    show (drop1 k w).length = _
    simp; omega) (by intro p a t e; simp at e)
  intro p a q e
  exact this.2 p a q (by simpa using e)
def red (k : Nat) (w : List α) : List α := if h : (drop1 k w).length < w.length then red k (drop1 k w) else w
termination_by w.length
theorem red_eq (k : Nat) (w : List α) : red k w = if (drop1 k w).length < w.length then red k (drop1 k w) else w := by
  rw [red]; split <;> rfl
theorem red_ok (k : Nat) : ∀ (n : Nat) (w : List α), w.length ≤ n → Alike k w (red k w) ∧ Red k (red k w) ∧ (red k w).Sublist w
  | 0, w, hn => by
    have : w = [] := List.length_eq_zero_iff.mp (by omega)
    subst this
    rw [red_eq, if_neg (by simp)]
    exact ⟨Alike.refl _, drop1_red k _ (by simp), List.Sublist.refl _⟩
  | n + 1, w, hn => by
    rw [red_eq]
    split
    · rename_i h
      obtain ⟨h1, h2, h3⟩ := red_ok k n (drop1 k w) (by omega)
      exact ⟨(drop1_alike k w).trans h1, h2, h3.trans (drop1_sub k w)⟩
    · rename_i h
      exact ⟨Alike.refl _, drop1_red k w h, List.Sublist.refl _⟩

/-! ### the depths of all events -/
abbrev T (α : Type) := α × Nat × Nat
/-- each event with its depths; f: the front depths that come, Q: what stands behind -/
def tr (f : α → Nat) : List α → List α → List (T α)
  | [], _ => []
  | a :: B, Q => (a, f a, bk (B ++ Q) a) :: tr (up f a) B Q
def ups (f : α → Nat) (B : List α) : α → Nat := B.foldl up f
theorem ups_fr (p : List α) : ups one p = fr p := rfl
theorem ups_app (f : α → Nat) (B C : List α) : ups f (B ++ C) = ups (ups f B) C := List.foldl_append ..
theorem bk_app : ∀ {B Q Q' : List α}, bk Q = bk Q' → bk (B ++ Q) = bk (B ++ Q')
  | [], _, _, h => h
  | a :: B, _, _, h => by
    show up (bk (B ++ _)) a = up (bk (B ++ _)) a
    rw [bk_app h]
theorem tr_bk : ∀ {f : α → Nat} {B Q Q' : List α}, bk Q = bk Q' → tr f B Q = tr f B Q'
  | _, [], _, _, _ => rfl
  | f, a :: B, Q, Q', h => by
    show (a, f a, bk (B ++ Q) a) :: tr (up f a) B Q = (a, f a, bk (B ++ Q') a) :: tr (up f a) B Q'
    rw [tr_bk h, bk_app h]
theorem tr_app : ∀ (f : α → Nat) (B C Q : List α), tr f (B ++ C) Q = tr f B (C ++ Q) ++ tr (ups f B) C Q
  | _, [], _, _ => rfl
  | f, a :: B, C, Q => by
    show (a, f a, bk (B ++ C ++ Q) a) :: tr (up f a) (B ++ C) Q = (a, f a, bk (B ++ (C ++ Q)) a) :: (tr (up f a) B (C ++ Q) ++ tr (ups (up f a) B) C Q)
    rw [tr_app, List.append_assoc]
theorem tr_fst : ∀ (f : α → Nat) (B Q : List α), (tr f B Q).map (·.1) = B
  | _, [], _ => rfl
  | f, a :: B, Q => by
    show a :: (tr (up f a) B Q).map (·.1) = a :: B
    rw [tr_fst]
theorem tr_len (f : α → Nat) (B Q : List α) : (tr f B Q).length = B.length := by
  have := congrArg List.length (tr_fst f B Q)
  simpa using this
theorem tr_split {w : List α} {x : T α} {l1 l2 : List (T α)} (h : tr one w [] = l1 ++ x :: l2) :
    ∃ p q, w = p ++ x.1 :: q ∧ x.2 = (fr p x.1, bk q x.1) ∧ l1 = tr one p (x.1 :: q) ∧ l2 = tr (fr (p ++ [x.1])) q [] := by
  have hw := tr_fst one w []
  rw [h, List.map_append, List.map_cons] at hw
  refine ⟨l1.map (·.1), l2.map (·.1), hw.symm, ?_⟩
  rw [← hw, tr_app] at h
  have hl : (tr one (l1.map (·.1)) (x.1 :: l2.map (·.1) ++ [])).length = l1.length := by rw [tr_len, List.length_map]
  obtain ⟨e1, e2⟩ := List.append_inj h hl
  have e3 : (x.1, ups one (l1.map (·.1)) x.1, bk (l2.map (·.1) ++ []) x.1) :: tr (up (ups one (l1.map (·.1))) x.1) (l2.map (·.1)) [] = x :: l2 := e2
  obtain ⟨e4, e5⟩ := List.cons.inj e3
  refine ⟨?_, ?_, ?_⟩
  · rw [← congrArg Prod.snd e4, List.append_nil]; rfl
  · have q := e1
    rw [List.append_nil] at q
    exact q.symm
  · rw [fr_snoc]; exact e5.symm
/-- Red and Ord, said of the depths -/
theorem red_iff (k : Nat) (w : List α) : Red k w ↔ ∀ x ∈ tr one w [], x.2.1 + x.2.2 ≤ k + 1 := by
  constructor
  · intro h x hx
    obtain ⟨l1, l2, e⟩ := List.append_of_mem hx
    obtain ⟨p, q, e1, e2, _, _⟩ := tr_split e
    rw [e2]
    exact h p x.1 q e1
  · intro h p a q e
    have hx : (a, fr p a, bk q a) ∈ tr one w [] := by
      rw [e, tr_app]
      refine List.mem_append.mpr (Or.inr ?_)
      show _ ∈ (a, fr p a, bk (q ++ []) a) :: _
      rw [List.append_nil]; exact List.mem_cons_self
    exact h _ hx
def Nb (le : α → α → Prop) (k : Nat) (x y : T α) : Prop := x.2 = y.2 → x.2.1 + x.2.2 = k + 1 → le x.1 y.1
def OrdT (le : α → α → Prop) (k : Nat) (l : List (T α)) : Prop := ∀ s x y t, l = s ++ x :: y :: t → Nb le k x y
theorem ord_of {le : α → α → Prop} {k : Nat} {w : List α} (h : OrdT le k (tr one w [])) : Ord le k w := by
  intro p a b q e h1 h2 h3
  refine h (tr one p (a :: b :: q)) (a, fr p a, bk (b :: q) a) (b, fr (p ++ [a]) b, bk q b) (tr (up (up (fr p) a) b) q []) ?_ ?_ h3
  · rw [e, tr_app, List.append_nil]
    show _ ++ (a, fr p a, bk (b :: q ++ []) a) :: (b, up (fr p) a b, bk (q ++ []) b) :: _ = _
    rw [List.append_nil, List.append_nil, fr_snoc]
    rfl
  · show (fr p a, bk (b :: q) a) = (fr (p ++ [a]) b, bk q b)
    rw [h1, h2]
/-! ### a block may be set anew -/
def FB (x : Nat) : (α → Nat) → List α → Prop
  | _, [] => True
  | f, a :: B => f a = x ∧ FB x (up f a) B
def BB (y : Nat) (Q : List α) : List α → Prop
  | [] => True
  | a :: B => bk (B ++ Q) a = y ∧ BB y Q B
theorem up_swap {f : α → Nat} {a b : α} {x : Nat} (ha : f a = x) (hb : up f a b = x) : f b = x ∧ up f b a = x ∧ up (up f a) b = up (up f b) a := by
  have hab : b ≠ a := by
    intro e
    subst e
    unfold up at hb
    rw [if_pos rfl] at hb
    omega
  have hb' : f b = x := by
    unfold up at hb
    rw [if_neg hab] at hb
    omega
  have ha' : up f b a = x := by
    unfold up
    rw [if_neg (Ne.symm hab)]
    omega
  refine ⟨hb', ha', ?_⟩
  funext c
  have e1 : up (up f a) b c = if c = b then x + 1 else min (up f a c) (x + 1) := by
    show (if c = b then up f a b + 1 else min (up f a c) (up f a b + 1)) = _
    rw [hb]
  have e2 : up (up f b) a c = if c = a then x + 1 else min (up f b c) (x + 1) := by
    show (if c = a then up f b a + 1 else min (up f b c) (up f b a + 1)) = _
    rw [ha']
  rw [e1, e2]
  have e3 : up f a c = if c = a then x + 1 else min (f c) (x + 1) := by
    show (if c = a then f a + 1 else min (f c) (f a + 1)) = _
    rw [ha]
  have e4 : up f b c = if c = b then x + 1 else min (f c) (x + 1) := by
    show (if c = b then f b + 1 else min (f c) (f b + 1)) = _
    rw [hb']
  rw [e3, e4]
  by_cases c1 : c = a
  · subst c1
    rw [if_neg (Ne.symm hab), if_pos rfl, if_pos rfl]
    omega
  · by_cases c2 : c = b
    · subst c2
      rw [if_pos rfl, if_neg c1, if_pos rfl]
      omega
    · rw [if_neg c2, if_neg c1, if_neg c1, if_neg c2]
theorem perm_FB {x : Nat} {B B' : List α} (p : B.Perm B') : ∀ {f : α → Nat}, FB x f B → FB x f B' ∧ ups f B = ups f B' := by
  induction p with
  | nil => intro f h; exact ⟨h, rfl⟩
  | cons a _ ih =>
    intro f h
    obtain ⟨h1, h2⟩ := ih h.2
    exact ⟨⟨h.1, h1⟩, h2⟩
  | swap b a l =>
    intro f h
    obtain ⟨h1, h2, h3⟩ := h
    obtain ⟨g1, g2, g3⟩ := up_swap h1 h2
    refine ⟨⟨g1, g2, ?_⟩, ?_⟩
    · rw [← g3]; exact h3
    · show ups (up (up f _) _) l = ups (up (up f _) _) l
      rw [g3]
  | trans _ _ ih1 ih2 =>
    intro f h
    obtain ⟨h1, h2⟩ := ih1 h
    obtain ⟨h3, h4⟩ := ih2 h1
    exact ⟨h3, h2.trans h4⟩
theorem perm_BB {y : Nat} {B B' : List α} (p : B.Perm B') {Q : List α} : BB y Q B → BB y Q B' ∧ bk (B ++ Q) = bk (B' ++ Q) := by
  induction p with
  | nil => intro h; exact ⟨h, rfl⟩
  | cons a _ ih =>
    intro h
    obtain ⟨h1, h2⟩ := ih h.2
    refine ⟨⟨by rw [← h2]; exact h.1, h1⟩, ?_⟩
    exact congrArg (fun g => up g a) h2
  | swap b a l =>
    intro h
    obtain ⟨h1, h2, h3⟩ := h
    have h1' : up (bk (l ++ Q)) b a = y := h1
    obtain ⟨g1, g2, g3⟩ := up_swap h2 h1'
    exact ⟨⟨g2, g1, h3⟩, g3⟩
  | trans _ _ ih1 ih2 =>
    intro h
    obtain ⟨h1, h2⟩ := ih1 h
    obtain ⟨h3, h4⟩ := ih2 h1
    exact ⟨h3, h2.trans h4⟩
theorem tr_const {x y : Nat} : ∀ {f : α → Nat} {B Q : List α}, FB x f B → BB y Q B → tr f B Q = B.map fun a => (a, x, y)
  | _, [], _, _, _ => rfl
  | f, a :: B, Q, h1, h2 => by
    show (a, f a, bk (B ++ Q) a) :: tr (up f a) B Q = (a, x, y) :: B.map _
    rw [tr_const h1.2 h2.2, h1.1, h2.1]
theorem const_tr {x y : Nat} : ∀ {f : α → Nat} {B Q : List α}, (∀ t ∈ tr f B Q, t.2 = (x, y)) → FB x f B ∧ BB y Q B
  | _, [], _, _ => ⟨trivial, trivial⟩
  | f, a :: B, Q, h => by
    have h1 := h (a, f a, bk (B ++ Q) a) List.mem_cons_self
    obtain ⟨g1, g2⟩ := const_tr (x := x) (y := y) (f := up f a) (B := B) (Q := Q) fun t ht => h t (List.mem_cons_of_mem _ ht)
    have h2 := congrArg Prod.fst h1
    have h3 := congrArg Prod.snd h1
    exact ⟨⟨h2, g1⟩, ⟨h3, g2⟩⟩
theorem FB_mem {x : Nat} {f : α → Nat} {B : List α} (h : FB x f B) {c : α} (hc : c ∈ B) : f c = x :=
  (perm_FB (List.perm_cons_erase hc) h).1.1
theorem BB_mem {y : Nat} {B Q : List α} (h : BB y Q B) {c : α} (hc : c ∈ B) : bk Q c = y := by
  have p : B.Perm (B.erase c ++ [c]) := (List.perm_cons_erase hc).trans (List.perm_append_comm (l₁ := [c]))
  have g := (perm_BB p h).1
  have : ∀ (l : List α), BB y Q (l ++ [c]) → bk Q c = y := by
    intro l
    induction l with
    | nil => intro h; exact h.1
    | cons a l ih => intro h; exact ih h.2
  exact this _ g
theorem seg_alike {k x y : Nat} {p B B' Q : List α} (hp : B.Perm B') (hf : FB x (fr p) B) (hb : BB y Q B) (hxy : x + y = k + 1) : Alike k (p ++ (B ++ Q)) (p ++ (B' ++ Q)) := by
  refine block_alike (fun c hc d hd => ?_) fun c => hp.mem_iff
  rw [FB_mem hf hc, BB_mem hb hd]
  omega
theorem FB_nodup {x : Nat} : ∀ {f : α → Nat} {B : List α}, FB x f B → B.Nodup
  | _, [], _ => List.nodup_nil
  | f, a :: B, h => by
    refine List.nodup_cons.mpr ⟨fun hm => ?_, FB_nodup h.2⟩
    have h2 := FB_mem h.2 hm
    have h1 := h.1
    unfold up at h2
    rw [if_pos rfl] at h2
    omega
/-! ### all blocks -/
section
variable (k : Nat)
/-- a block of events with their depths: one event, or events of the same depths, k + 1 together -/
def Blk (B : List (T α)) : Prop := (∃ t, B = [t]) ∨ ∃ x y, x + y = k + 1 ∧ ∀ t ∈ B, t.2 = (x, y)
variable (srt : List α → List α) (hsp : ∀ l, (srt l).Perm l)
/-- a block set in order, its depths as they were -/
def srtB (B : List (T α)) : List (T α) := match B with
  | [] => []
  | t :: B => (srt ((t :: B).map (·.1))).map fun a => (a, t.2)
include hsp
theorem srt_one (a : α) : srt [a] = [a] := by
  have := hsp [a]
  exact List.perm_singleton.mp this
theorem srtB_one (t : T α) : srtB srt [t] = [t] := by
  show (srt [t.1]).map (fun a => (a, t.2)) = [t]
  rw [srt_one srt hsp]; rfl
theorem blocks_ok : ∀ (bs : List (List (T α))) (p : List α) (tp : List (T α)), tr one (p ++ (bs.map fun B => B.map (·.1)).flatten) [] = tp ++ bs.flatten → tp.length = p.length → (∀ B ∈ bs, Blk k B) →
    Alike k (p ++ (bs.map fun B => B.map (·.1)).flatten) (p ++ (bs.map fun B => srt (B.map (·.1))).flatten) ∧ tr one (p ++ (bs.map fun B => srt (B.map (·.1))).flatten) [] = tp ++ (bs.map (srtB srt)).flatten
  | [], p, tp, h, _, _ => ⟨Alike.refl _, h⟩
  | B :: bs, p, tp, h, hl, hb => by
    simp only [List.map_cons, List.flatten_cons] at h ⊢
    generalize hQ : (bs.map fun B => B.map (·.1)).flatten = Q at h ⊢
    -- the parts of the depths
    have h0 : tr one (p ++ (B.map (·.1) ++ Q)) [] = tr one p (B.map (·.1) ++ Q) ++ (tr (fr p) (B.map (·.1)) Q ++ tr (ups (fr p) (B.map (·.1))) Q []) := by
      rw [tr_app, tr_app, List.append_nil, List.append_nil]; rfl
    rw [h0] at h
    obtain ⟨e1, e2⟩ := List.append_inj h (by rw [tr_len]; exact hl.symm)
    obtain ⟨e3, e4⟩ := List.append_inj e2 (by rw [tr_len, List.length_map])
    -- the new block keeps all
    have key : ∃ B' : List α, B' = srt (B.map (·.1)) ∧ Alike k (p ++ (B.map (·.1) ++ Q)) (p ++ (B' ++ Q)) ∧ ups (fr p) (B.map (·.1)) = ups (fr p) B' ∧ bk (B.map (·.1) ++ Q) = bk (B' ++ Q) ∧ tr (fr p) B' Q = srtB srt B := by
      refine ⟨_, rfl, ?_⟩
      rcases hb B List.mem_cons_self with ⟨t, rfl⟩ | ⟨x, y, hxy, hc⟩
      · have e : srt ([t].map (·.1)) = [t].map (·.1) := srt_one srt hsp t.1
        rw [e, srtB_one srt hsp]
        exact ⟨Alike.refl _, rfl, rfl, e3⟩
      · cases B with
        | nil =>
          have e : srt (([] : List (T α)).map (·.1)) = [] := List.perm_nil.mp (hsp [])
          rw [e]
          exact ⟨Alike.refl _, rfl, rfl, rfl⟩
        | cons t B =>
          obtain ⟨hf, hbb⟩ := const_tr (x := x) (y := y) (f := fr p) (B := (t :: B).map (·.1)) (Q := Q) (by rw [e3]; exact hc)
          have hp := (hsp ((t :: B).map (·.1))).symm
          obtain ⟨g1, g2⟩ := perm_FB hp hf
          obtain ⟨g3, g4⟩ := perm_BB hp hbb
          refine ⟨seg_alike hp hf hbb hxy, g2, g4, ?_⟩
          rw [tr_const g1 g3]
          show _ = (srt ((t :: B).map (·.1))).map fun a => (a, t.2)
          rw [hc t List.mem_cons_self]
    obtain ⟨B', rfl, k1, k2, k3, k4⟩ := key
    have ih := blocks_ok bs (p ++ srt (B.map (·.1))) (tp ++ srtB srt B) (by
      rw [hQ, List.append_assoc, tr_app, tr_app, List.append_nil, List.append_nil]
      have q1 : tr one p (srt (B.map (·.1)) ++ Q) = tp := by rw [← e1]; exact tr_bk k3.symm
      have q2 : ups (ups one p) (srt (B.map (·.1))) = ups (fr p) (B.map (·.1)) := k2.symm
      rw [q1, q2, e4]
      show tp ++ (tr (fr p) _ Q ++ bs.flatten) = _
      rw [k4, List.append_assoc]) (by
      rw [List.length_append, List.length_append, ← k4, tr_len, hl]) fun C hC => hb C (List.mem_cons_of_mem _ hC)
    rw [hQ, List.append_assoc, List.append_assoc, List.append_assoc] at ih
    exact ⟨k1.trans ih.1, ih.2⟩
end
end
end Si
namespace Si
section
variable {α : Type} [DecidableEq α]
/-- a stretch ends here: what comes has other depths, or they aren't k + 1 together -/
def endP (k : Nat) (t : Nat × Nat) (l : List (Nat × Nat)) : Bool := match l with
  | [] => true
  | u :: _ => decide (u ≠ t) || decide (t.1 + t.2 ≠ k + 1)
def endsP (k : Nat) : Nat → List (Nat × Nat) → List Nat
  | _, [] => []
  | i, t :: l => if endP k t l = true then (i + 1) :: endsP k (i + 1) l else endsP k (i + 1) l
def blk (k : Nat) : List (T α) → List (T α) → List (List (T α))
  | _, [] => []
  | cur, t :: l => if endP k t.2 (l.map (·.2)) = true then (cur ++ [t]) :: blk k [] l else blk k (cur ++ [t]) l
def BInv (k : Nat) (cur l : List (T α)) : Prop := ∃ x y, (∀ t ∈ cur, t.2 = (x, y)) ∧ (cur ≠ [] → x + y = k + 1 ∧ ∃ t l', l = t :: l' ∧ t.2 = (x, y))
theorem BInv.nil (k : Nat) (l : List (T α)) : BInv k [] l := ⟨0, 0, by simp, fun h => absurd rfl h⟩
theorem BInv.all {k : Nat} {cur l : List (T α)} {t : T α} (h : BInv k cur (t :: l)) : ∀ u ∈ cur ++ [t], u.2 = t.2 := by
  obtain ⟨x, y, h1, h2⟩ := h
  intro u hu
  rcases List.mem_append.mp hu with hu | hu
  · obtain ⟨_, t', l', e, e2⟩ := h2 (List.ne_nil_of_mem hu)
    obtain ⟨rfl, rfl⟩ := List.cons.inj e
    rw [h1 u hu, e2]
  · rw [List.mem_singleton.mp hu]
theorem BInv.step {k : Nat} {cur l : List (T α)} {t : T α} (h : BInv k cur (t :: l)) (he : ¬ endP k t.2 (l.map (·.2)) = true) : BInv k (cur ++ [t]) l := by
  cases l with
  | nil => exact absurd rfl he
  | cons u l =>
    have he' : ¬ (decide (u.2 ≠ t.2) || decide (t.2.1 + t.2.2 ≠ k + 1)) = true := he
    rw [Bool.or_eq_true, decide_eq_true_eq, decide_eq_true_eq] at he'
    have h1 : u.2 = t.2 := Classical.byContradiction fun z => he' (Or.inl z)
    have h2 : t.2.1 + t.2.2 = k + 1 := Classical.byContradiction fun z => he' (Or.inr z)
    exact ⟨t.2.1, t.2.2, h.all, fun _ => ⟨h2, u, l, rfl, h1⟩⟩
theorem BInv.blk {k : Nat} {cur l : List (T α)} {t : T α} (h : BInv k cur (t :: l)) : Blk k (cur ++ [t]) := by
  by_cases hc : cur = []
  · subst hc
    exact .inl ⟨t, rfl⟩
  · have ha := h.all
    obtain ⟨x, y, h1, h2⟩ := h
    obtain ⟨h3, t', l', e, e2⟩ := h2 hc
    obtain ⟨rfl, rfl⟩ := List.cons.inj e
    exact .inr ⟨x, y, h3, fun u hu => (ha u hu).trans e2⟩
theorem blk_blk (k : Nat) : ∀ (l cur : List (T α)), BInv k cur l → ∀ B ∈ blk k cur l, Blk k B
  | [], _, _, B, hB => by simp [blk] at hB
  | t :: l, cur, h, B, hB => by
    unfold blk at hB
    split at hB
    · rcases List.mem_cons.mp hB with rfl | hB
      · exact h.blk
      · exact blk_blk k l [] (.nil k l) B hB
    · rename_i he
      exact blk_blk k l _ (h.step he) B hB
theorem blk_flat (k : Nat) : ∀ (l cur : List (T α)), BInv k cur l → (blk k cur l).flatten = cur ++ l
  | [], cur, ⟨x, y, _, h⟩ => by
    have : cur = [] := Classical.byContradiction fun z => by
      obtain ⟨_, _, _, e, _⟩ := h z
      cases e
    subst this
    rfl
  | t :: l, cur, h => by
    unfold blk
    split
    · rw [List.flatten_cons, blk_flat k l [] (.nil k l)]
      simp
    · rename_i he
      rw [blk_flat k l _ (h.step he)]
      simp
def Ch (R : T α → T α → Prop) : List (T α) → Prop
  | [] => True
  | [_] => True
  | x :: y :: t => R x y ∧ Ch R (y :: t)
theorem Ch.tail {R : T α → T α → Prop} {x : T α} {l : List (T α)} (h : Ch R (x :: l)) : Ch R l := by
  cases l with
  | nil => trivial
  | cons y l => exact h.2
theorem Ch.at {R : T α → T α → Prop} : ∀ (s : List (T α)) {x y : T α} {t : List (T α)}, Ch R (s ++ x :: y :: t) → R x y
  | [], _, _, _, h => h.1
  | _ :: s, _, _, _, h => Ch.at s (Ch.tail h)
theorem Ch.cons {R : T α → T α → Prop} {x : T α} {l : List (T α)} (h : Ch R l) (hx : ∀ y l', l = y :: l' → R x y) : Ch R (x :: l) := by
  cases l with
  | nil => trivial
  | cons y l => exact ⟨hx y l rfl, h⟩
/-- a block all of the same depths d, in order, ahead of what begins with other depths -/
theorem Ch.block {le : α → α → Prop} {k : Nat} {d : Nat × Nat} : ∀ {as : List α} {l : List (T α)}, as.Pairwise le → Ch (Nb le k) l → (∀ y l', l = y :: l' → y.2 ≠ d ∨ d.1 + d.2 ≠ k + 1) → Ch (Nb le k) (as.map (fun a => (a, d)) ++ l)
  | [], _, _, h, _ => h
  | a :: as, l, hp, h, hb => by
    obtain ⟨h1, h2⟩ := List.pairwise_cons.mp hp
    refine Ch.cons (Ch.block h2 h hb) fun y l' e => ?_
    intro e1 e2
    cases as with
    | nil =>
      rcases hb y l' e with z | z
      · exact absurd e1.symm z
      · exact absurd e2 z
    | cons b as =>
      have e3 : (b, d) :: (as.map (fun a => (a, d)) ++ l) = y :: l' := e
      obtain ⟨rfl, _⟩ := List.cons.inj e3
      exact h1 b List.mem_cons_self
section
variable (k : Nat) (le : α → α → Prop) (srt : List α → List α) (hsp : ∀ l, (srt l).Perm l) (hso : ∀ l, (srt l).Pairwise le)
include hsp hso
theorem srtB_form {t : T α} {cur : List (T α)} (h : ∀ u ∈ cur ++ [t], u.2 = t.2) : ∃ as : List α, srtB srt (cur ++ [t]) = as.map (fun a => (a, t.2)) ∧ as.Pairwise le ∧ as ≠ [] := by
  refine ⟨srt ((cur ++ [t]).map (·.1)), ?_, hso _, fun e => ?_⟩
  · cases cur with
    | nil => rfl
    | cons c cur =>
      show (srt ((c :: (cur ++ [t])).map (·.1))).map (fun a => (a, c.2)) = _
      rw [h c List.mem_cons_self]; rfl
  · have := (hsp ((cur ++ [t]).map (·.1))).length_eq
    rw [e] at this
    simp at this
theorem blk_ch : ∀ (l cur : List (T α)), BInv k cur l → Ch (Nb le k) ((blk k cur l).map (srtB srt)).flatten ∧ ∀ y l', ((blk k cur l).map (srtB srt)).flatten = y :: l' → ∀ u m, cur ++ l = u :: m → y.2 = u.2
  | [], cur, _ => ⟨trivial, fun y l' e => by cases e⟩
  | t :: l, cur, h => by
    unfold blk
    split
    · rename_i he
      obtain ⟨as, e1, e2, e3⟩ := srtB_form le srt hsp hso h.all
      obtain ⟨g1, g2⟩ := blk_ch l [] (.nil k l)
      rw [List.map_cons, List.flatten_cons, e1]
      refine ⟨Ch.block e2 g1 fun y l' e => ?_, fun y l' e u m e4 => ?_⟩
      · cases l with
        | nil => cases e
        | cons v l =>
          have e5 := g2 y l' e v l rfl
          have he' : (decide (v.2 ≠ t.2) || decide (t.2.1 + t.2.2 ≠ k + 1)) = true := he
          rw [Bool.or_eq_true, decide_eq_true_eq, decide_eq_true_eq] at he'
          rw [e5]
          exact he'
      · cases as with
        | nil => exact absurd rfl e3
        | cons a as =>
          have e6 : (a, t.2) :: (as.map (fun a => (a, t.2)) ++ _) = y :: l' := e
          obtain ⟨rfl, _⟩ := List.cons.inj e6
          have : u ∈ cur ++ [t] := by
            cases cur with
            | nil =>
              obtain ⟨rfl, _⟩ := List.cons.inj e4
              simp
            | cons c cur =>
              have e7 : c :: (cur ++ t :: l) = u :: m := e4
              obtain ⟨rfl, _⟩ := List.cons.inj e7
              simp
          exact (h.all u this).symm
    · rename_i he
      obtain ⟨g1, g2⟩ := blk_ch l (cur ++ [t]) (h.step he)
      refine ⟨g1, fun y l' e u m e4 => g2 y l' e u m ?_⟩
      rw [List.append_assoc]; exact e4
end
/-! ### the canonical log -/
def canon (srt : List α → List α) (k : Nat) (w : List α) : List α := ((blk k [] (tr one (red k w) [])).map fun B => srt (B.map (·.1))).flatten
section
variable (le : α → α → Prop) (srt : List α → List α) (hsp : ∀ l, (srt l).Perm l) (hso : ∀ l, (srt l).Pairwise le)
include hsp hso
theorem canon_ok (k : Nat) (w : List α) : Alike k w (canon srt k w) ∧ Red k (canon srt k w) ∧ Ord le k (canon srt k w) := by
  obtain ⟨h1, h2, _⟩ := red_ok k w.length w (Nat.le_refl _)
  generalize hv : red k w = v at h1 h2
  have hf := blk_flat k (tr one v []) [] (.nil k _)
  have hw : ((blk k [] (tr one v [])).map fun B => B.map (·.1)).flatten = v := by
    have := congrArg (List.map (·.1)) hf
    rw [List.map_flatten, List.nil_append, tr_fst] at this
    exact this
  obtain ⟨g1, g2⟩ := blocks_ok k srt hsp (blk k [] (tr one v [])) [] [] (by rw [List.nil_append, hw, List.nil_append, hf]; rfl) rfl (blk_blk k _ [] (.nil k _))
  rw [List.nil_append, List.nil_append, hw] at g1
  rw [List.nil_append, List.nil_append] at g2
  obtain ⟨c1, _⟩ := blk_ch k le srt hsp hso (tr one v []) [] (.nil k _)
  have hcv : canon srt k w = ((blk k [] (tr one v [])).map fun B => srt (B.map (·.1))).flatten := by unfold canon; rw [hv]
  rw [hcv]
  refine ⟨h1.trans g1, ?_, ord_of ?_⟩
  · rw [red_iff, g2]
    intro x hx
    -- every depth of the new log is one of the old log's
    obtain ⟨L, hL, hxL⟩ := List.mem_flatten.mp hx
    obtain ⟨B, hB, rfl⟩ := List.mem_map.mp hL
    have : ∃ t ∈ B, x.2 = t.2 := by
      cases B with
      | nil => cases hxL
      | cons t B =>
        have hb := blk_blk k _ [] (.nil k _) _ hB
        obtain ⟨a, _, rfl⟩ := List.mem_map.mp hxL
        exact ⟨t, List.mem_cons_self, rfl⟩
    obtain ⟨t, ht, e⟩ := this
    rw [e]
    refine (red_iff k v).mp h2 t ?_
    have : t ∈ (blk k [] (tr one v [])).flatten := List.mem_flatten.mpr ⟨B, hB, ht⟩
    rw [hf] at this
    exact this
  · rw [g2]
    intro s x y t e
    exact Ch.at s (by rw [← e]; exact c1)
theorem canon_eq (tr : ∀ a b c, le a b → le b c → le a c) (an : ∀ a b, le a b → le b a → a = b) {k : Nat} {u v : List α} (h : Alike k u v) : canon srt k u = canon srt k v := by
  obtain ⟨u1, u2, u3⟩ := canon_ok le srt hsp hso k u
  obtain ⟨v1, v2, v3⟩ := canon_ok le srt hsp hso k v
  exact unique tr an u2 v2 u3 v3 ((u1.symm.trans h).trans v1)
end
section
variable (srt : List α → List α) (hsp : ∀ l, (srt l).Perm l)
include hsp
theorem flat_perm : ∀ (bs : List (List (T α))), ((bs.map fun B => srt (B.map (·.1))).flatten).Perm ((bs.map fun B => B.map (·.1)).flatten)
  | [] => List.Perm.refl _
  | B :: bs => by
    simp only [List.map_cons, List.flatten_cons]
    exact (hsp _).append (flat_perm bs)
theorem canon_perm (k : Nat) (w : List α) : (canon srt k w).Perm (red k w) := by
  have hf := blk_flat k (tr one (red k w) []) [] (.nil k _)
  have hw : ((blk k [] (tr one (red k w) [])).map fun B => B.map (·.1)).flatten = red k w := by
    have := congrArg (List.map (·.1)) hf
    rw [List.map_flatten, List.nil_append, tr_fst] at this
    exact this
  have := flat_perm srt hsp (blk k [] (tr one (red k w) []))
  rw [hw] at this
  exact this
theorem canon_mem {k : Nat} {w : List α} {x : α} (h : x ∈ canon srt k w) : x ∈ w :=
  (red_ok k w.length w (Nat.le_refl _)).2.2.subset ((canon_perm srt hsp k w).mem_iff.mp h)
theorem canon_len (k : Nat) (w : List α) : (canon srt k w).length ≤ w.length := by
  rw [(canon_perm srt hsp k w).length_eq]
  exact (red_ok k w.length w (Nat.le_refl _)).2.2.length_le
end
end
end Si

end

/-! M1 -/
section
set_option maxHeartbeats 4000000
namespace M
open Si
section
variable {α : Type} [DecidableEq α]
def deps (f : α → Nat) : List α → List Nat
  | [] => []
  | a :: B => f a :: deps (up f a) B
theorem deps_tr : ∀ (f : α → Nat) (B Q : List α), (tr f B Q).map (·.2.1) = deps f B
  | _, [], _ => rfl
  | f, a :: B, Q => by
    show f a :: (tr (up f a) B Q).map (·.2.1) = f a :: deps (up f a) B
    rw [deps_tr]
theorem deps_len : ∀ (f : α → Nat) (B : List α), (deps f B).length = B.length
  | _, [] => rfl
  | f, a :: B => by
    show (deps (up f a) B).length + 1 = B.length + 1
    rw [deps_len]
theorem deps_app : ∀ (f : α → Nat) (B C : List α), deps f (B ++ C) = deps f B ++ deps (ups f B) C
  | _, [], _ => rfl
  | f, a :: B, C => by
    show f a :: deps (up f a) (B ++ C) = f a :: (deps (up f a) B ++ deps (ups (up f a) B) C)
    rw [deps_app]
theorem deps_get : ∀ (f : α → Nat) (l : List α) (i : Nat) (a : α), l[i]? = some a → (deps f l)[i]? = some (ups f (l.take i) a)
  | _, [], i, a, h => by simp at h
  | f, b :: l, 0, a, h => by
    have e : b = a := by simpa using h
    subst e
    rfl
  | f, b :: l, i + 1, a, h => by
    have := deps_get (up f b) l i a (by simpa using h)
    show (deps (up f b) l)[i]? = _
    rw [this]
    rfl
theorem ups_snoc (f : α → Nat) (l : List α) (a : α) : ups f (l ++ [a]) = up (ups f l) a := by rw [ups_app]; rfl
theorem backs : ∀ (f : α → Nat) (l : List α), (tr f l []).map (·.2.2) = (deps one l.reverse).reverse
  | _, [] => rfl
  | f, a :: l => by
    show bk (l ++ []) a :: (tr (up f a) l []).map (·.2.2) = (deps one (a :: l).reverse).reverse
    rw [backs, List.reverse_cons, deps_app, List.reverse_append, List.append_nil]
    show _ = ups one l.reverse a :: _
    rw [ups_fr, fr_rev, List.reverse_reverse]
    rfl
theorem zip_maps {β γ : Type} : ∀ l : List (β × γ), l = (l.map (·.1)).zip (l.map (·.2))
  | [] => rfl
  | a :: l => by
    show a :: l = (a.1, a.2) :: (l.map (·.1)).zip (l.map (·.2))
    rw [← zip_maps l]
theorem pairs_tr (w : List α) : (tr one w []).map (·.2) = (deps one w).zip (deps one w.reverse).reverse := by
  rw [zip_maps ((tr one w []).map (·.2)), List.map_map, List.map_map]
  congr 1
  · exact deps_tr one w []
  · exact backs one w
def gath (srt : List α → List α) (w : List α) : Nat → List Nat → List α
  | _, [] => []
  | b, e :: es => srt ((w.drop b).take (e - b)) ++ gath srt w e es
/-- the cuts stand in w, and are short -/
def Okc (w : List α) : Nat → List Nat → Prop
  | _, [] => True
  | b, e :: es => b ≤ e ∧ e ≤ w.length ∧ ((w.drop b).take (e - b)).Nodup ∧ Okc w e es
theorem nodup_seg {k : Nat} {w : List α} {l1 B l2 : List (T α)} (h : tr one w [] = l1 ++ (B ++ l2)) (hB : Blk k B) : (B.map (·.1)).Nodup := by
  rcases hB with ⟨t, rfl⟩ | ⟨x, y, _, hb⟩
  · simp
  · have e := congrArg (List.map (·.1)) h
    rw [tr_fst, List.map_append, List.map_append] at e
    rw [e, tr_app, tr_app] at h
    have e1 := List.append_inj h (by rw [tr_len, List.length_map])
    have e2 := List.append_inj e1.2 (by rw [tr_len, List.length_map])
    rw [← e2.1] at hb
    exact FB_nodup (const_tr hb).1
theorem take_seg {cur l : List (T α)} {t : T α} {n : Nat} (hn : n = cur.length + 1) : ((cur ++ t :: l).map (·.1)).take n = (cur ++ [t]).map (·.1) := by
  subst hn
  rw [show cur ++ t :: l = (cur ++ [t]) ++ l by simp, List.map_append, List.take_left' (by simp)]
theorem drop_seg {cur l : List (T α)} {t : T α} {n : Nat} (hn : n = cur.length + 1) : ((cur ++ t :: l).map (·.1)).drop n = l.map (·.1) := by
  subst hn
  rw [show cur ++ t :: l = (cur ++ [t]) ++ l by simp, List.map_append, List.drop_left' (by simp)]
theorem gath_blk (srt : List α → List α) (k : Nat) (w : List α) : ∀ (l cur : List (T α)) (b : Nat), w.drop b = (cur ++ l).map (·.1) → b ≤ w.length →
    gath srt w b (endsP k (b + cur.length) (l.map (·.2))) = ((blk k cur l).map fun B => srt (B.map (·.1))).flatten
  | [], cur, b, _, _ => rfl
  | t :: l, cur, b, h, hb => by
    show gath srt w b (if endP k t.2 (l.map (·.2)) = true then (b + cur.length + 1) :: endsP k (b + cur.length + 1) (l.map (·.2)) else endsP k (b + cur.length + 1) (l.map (·.2))) = ((if endP k t.2 (l.map (·.2)) = true then (cur ++ [t]) :: blk k [] l else blk k (cur ++ [t]) l).map fun B => srt (B.map (·.1))).flatten
    have hlen : w.length - b = cur.length + (l.length + 1) := by
      have := congrArg List.length h
      simpa using this
    by_cases e : endP k t.2 (l.map (·.2)) = true
    · rw [if_pos e, if_pos e, List.map_cons, List.flatten_cons]
      show srt ((w.drop b).take (b + cur.length + 1 - b)) ++ gath srt w (b + cur.length + 1) _ = _
      have e1 : (w.drop b).take (b + cur.length + 1 - b) = (cur ++ [t]).map (·.1) := by
        rw [h]
        exact take_seg (by omega)
      have e2 : w.drop (b + cur.length + 1) = (([] : List (T α)) ++ l).map (fun x => x.1) := by
        rw [show b + cur.length + 1 = b + (cur.length + 1) by omega, ← List.drop_drop, h]
        exact drop_seg rfl
      rw [e1]
      have := gath_blk srt k w l [] (b + cur.length + 1) e2 (by omega)
      rw [List.length_nil, Nat.add_zero] at this
      rw [this]
    · rw [if_neg e, if_neg e]
      have := gath_blk srt k w l (cur ++ [t]) b (by rw [h]; simp) hb
      rw [← this]
      congr 2
      simp
      omega
theorem okc_blk (k : Nat) (w : List α) : ∀ (l cur : List (T α)) (b : Nat) (pre : List (T α)), tr one w [] = pre ++ (cur ++ l) → pre.length = b → BInv k cur l → Okc w b (endsP k (b + cur.length) (l.map (·.2)))
  | [], cur, b, _, _, _, _ => trivial
  | t :: l, cur, b, pre, h, hp, hI => by
    show Okc w b (if endP k t.2 (l.map (·.2)) = true then (b + cur.length + 1) :: endsP k (b + cur.length + 1) (l.map (·.2)) else endsP k (b + cur.length + 1) (l.map (·.2)))
    have hw : w = pre.map (·.1) ++ (cur ++ t :: l).map (·.1) := by
      have := congrArg (List.map (·.1)) h
      rw [tr_fst, List.map_append] at this
      exact this
    have hlen : w.length = b + (cur.length + (l.length + 1)) := by
      have := congrArg List.length hw
      simp at this
      omega
    have hdr : w.drop b = (cur ++ t :: l).map (·.1) := by
      rw [hw, ← hp, show pre.length = (pre.map (·.1)).length by simp, List.drop_left]
    by_cases e : endP k t.2 (l.map (·.2)) = true
    · rw [if_pos e]
      refine ⟨by omega, by omega, ?_, ?_⟩
      · have e1 : (w.drop b).take (b + cur.length + 1 - b) = (cur ++ [t]).map (·.1) := by
          rw [hdr]
          exact take_seg (by omega)
        rw [e1]
        exact nodup_seg (k := k) (l1 := pre) (l2 := l) (by rw [h]; simp) hI.blk
      · have := okc_blk k w l [] (b + cur.length + 1) (pre ++ (cur ++ [t])) (by rw [h]; simp) (by simp; omega) (BInv.nil k l)
        exact this
    · rw [if_neg e]
      have := okc_blk k w l (cur ++ [t]) b pre (by rw [h]; simp) hp (hI.step e)
      have e2 : b + (cur ++ [t]).length = b + cur.length + 1 := by simp; omega
      rw [e2] at this
      exact this
/-- the ends of the stretches of a log -/
def ends (k : Nat) (w : List α) : List Nat := endsP k 0 ((deps one w).zip (deps one w.reverse).reverse)
theorem canon_gath (srt : List α → List α) (k : Nat) (w : List α) : canon srt k w = gath srt (red k w) 0 (ends k (red k w)) := by
  have := gath_blk srt k (red k w) (tr one (red k w) []) [] 0 (by rw [List.nil_append, tr_fst]; rfl) (Nat.zero_le _)
  unfold canon ends
  rw [← this, pairs_tr]
  rfl
theorem okc_ends (k : Nat) (w : List α) : Okc w 0 (ends k w) := by
  have := okc_blk k w (tr one w []) [] 0 [] rfl rfl (BInv.nil k _)
  unfold ends
  rw [pairs_tr] at this
  exact this
theorem nodup_le : ∀ (B N : List α), B.Nodup → (∀ x ∈ B, x ∈ N) → B.length ≤ N.length
  | [], _, _, _ => Nat.zero_le _
  | a :: B, N, h, hs => by
    have h1 := List.nodup_cons.mp h
    have ha : a ∈ N := hs a (by simp)
    have := nodup_le B (N.erase a) h1.2 fun x hx => (List.mem_erase_of_ne (fun e => h1.1 (by rw [← e]; exact hx))).mpr (hs x (by simp [hx]))
    rw [List.length_erase_of_mem ha] at this
    have hN : 0 < N.length := List.length_pos_of_mem ha
    show B.length + 1 ≤ N.length
    omega
theorem endsP_len (k : Nat) : ∀ (l : List (Nat × Nat)) (i : Nat), (endsP k i l).length ≤ l.length
  | [], _ => Nat.le_refl _
  | t :: l, i => by
    have := endsP_len k l (i + 1)
    show (if endP k t l = true then (i + 1) :: endsP k (i + 1) l else endsP k (i + 1) l).length ≤ l.length + 1
    split
    · show _ + 1 ≤ _; omega
    · omega
end
end M
namespace G
open PySem PySem.Spec Si M PyProof.Rows
/-- the order of texts -/
def leS (a b : Str) : Prop := ltCps b.cps.toList a.cps.toList = false
def leB (a b : Str) : Bool := !ltCps b.cps.toList a.cps.toList
theorem leS_iff (a b : Str) : leS a b ↔ a.cps.toList ≤ b.cps.toList := by
  unfold leS
  rw [ltCps_eq, decide_eq_false_iff_not, List.not_lt]
theorem leS_trans (a b c : Str) (h : leS a b) (g : leS b c) : leS a c := by
  rw [leS_iff] at *
  exact List.le_trans h g
theorem leS_anti (a b : Str) (h : leS a b) (g : leS b a) : a = b := by
  rw [leS_iff] at *
  have := List.le_antisymm h g
  cases a; cases b
  congr 1
  exact Array.toList_inj.mp this
theorem leB_iff (a b : Str) : leB a b = true ↔ leS a b := by unfold leB leS; simp
def srtS (l : List Str) : List Str := l.mergeSort leB
theorem srtS_perm (l : List Str) : (srtS l).Perm l := List.mergeSort_perm l leB
theorem srtS_ord (l : List Str) : (srtS l).Pairwise leS := by
  have := List.pairwise_mergeSort (le := leB) (fun a b c h g => (leB_iff _ _).mpr (leS_trans _ _ _ ((leB_iff _ _).mp h) ((leB_iff _ _).mp g)))
    (fun a b => by
      rw [Bool.or_eq_true, leB_iff, leB_iff, leS_iff, leS_iff]
      exact List.le_total ..) l
  exact this.imp fun {a b} h => (leB_iff _ _).mp h
theorem risingS_pw : ∀ (l : List Str) (p : Str), risingS p l = true → (p :: l).Pairwise leS
  | [], p, _ => by simp
  | x :: r, p, h => by
    have h' : (!ltCps x.cps.toList p.cps.toList && risingS x r) = true := h
    rw [Bool.and_eq_true] at h'
    have ih := risingS_pw r x h'.2
    have h1 : leS p x := (leB_iff p x).mp h'.1
    refine List.pairwise_cons.mpr ⟨fun y hy => ?_, ih⟩
    rcases List.mem_cons.mp hy with rfl | hy
    · exact h1
    · exact leS_trans _ _ _ h1 ((List.pairwise_cons.mp ih).1 y hy)
theorem sortedS_pw : ∀ (l : List Str), sortedS l = true → l.Pairwise leS
  | [], _ => List.Pairwise.nil
  | x :: r, h => risingS_pw r x h
theorem sorted_is {ys xs : List Str} (hp : ys.Perm xs) (hs : sortedS ys = true) : ys = srtS xs :=
  List.Perm.eq_of_pairwise (le := leS) (fun a b _ _ h g => leS_anti a b h g) (sortedS_pw ys hs) (srtS_ord xs) (hp.trans (srtS_perm xs).symm)
def canS (k : Nat) (l : List Str) : List Str := canon srtS k l
theorem canS_alike (k : Nat) (l : List Str) : Alike k l (canS k l) := (canon_ok leS srtS srtS_perm srtS_ord k l).1
theorem canS_eq {k : Nat} {u v : List Str} (h : Alike k u v) : canS k u = canS k v := canon_eq leS srtS srtS_perm srtS_ord leS_trans leS_anti h
theorem canS_mem {k : Nat} {l : List Str} {z : Str} (h : z ∈ canS k l) : z ∈ l := canon_mem srtS srtS_perm h
theorem canS_len (k : Nat) (l : List Str) : (canS k l).length ≤ l.length := canon_len srtS srtS_perm k l
theorem canS_nil (k : Nat) : canS k [] = [] := List.eq_nil_of_length_eq_zero (Nat.le_zero.mp (canS_len k []))
theorem canS_app (k : Nat) (u v : List Str) : canS k (canS k u ++ canS k v) = canS k (u ++ v) := (canS_eq ((canS_alike k u).append (canS_alike k v))).symm
theorem canS_snoc (k : Nat) (u : List Str) (z : Str) : canS k (canS k u ++ [z]) = canS k (u ++ [z]) := (canS_eq ((canS_alike k u).append (Alike.refl [z]))).symm
theorem canS_down {j k : Nat} (h : j ≤ k) (u : List Str) : canS j (canS k u) = canS j u := (canS_eq ((canS_alike k u).mono h)).symm
theorem canS_idem (k : Nat) (u : List Str) : canS k (canS k u) = canS k u := canS_down (Nat.le_refl k) u
theorem canS_row {k : Nat} {r : List Str} (h : r.length ≤ k) (u : List Str) : r.Sublist (canS k u) ↔ r.Sublist u := (canS_alike k u r h).symm
end G

end

/-! D2 -/
section
set_option maxHeartbeats 4000000
namespace G
open PySem L2 GK Si M
section
variable {P : Program} {w : World} {K : PySem.W.Frag} {mg : Str → Option Value} {base : Heap}
theorem dc_gen {J : It} {g : TG} {tt : TT} {tk tv : TE} {vs : List Nat} {σ : L2.St} {H1 : Hp} {D : Addr} {Qd : Hp → Prop} (n : Nat) (Pv : Nat → Hp → Prop) (h0 : Pv 0 (upd H1 D (.dK []))) (hgo : ∀ i H, i < n → Pv i H → J.go i H) (hst : ∀ H, Pv n H → J.stop n H)
    (hs : ∀ i x H H', i < n → Pv i H → J.yld i H x H' → g x (wipe σ vs) H' fun σ2 H2 => wipe σ2 vs = wipe σ vs ∧ tt σ2 H2 fun b H3 =>
      if b = true then tk σ2 H3 fun y H4 => tv σ2 H4 fun z H5 => ∃ kvs k, y = kV k ∧ H5 D = some (.dK kvs) ∧ kvs.length < sizeLine ∧ Pv (i + 1) (upd H5 D (.dK (putK kvs k z))) else Pv (i + 1) H3) (hd : ∀ H, Pv n H → Qd H) :
    ∃ W : Nat → Nat → Hp → Prop, (∃ m, W 0 m (upd H1 D (.dK []))) ∧ ∀ i m H, W i m H →
      (J.stop i H ∧ Qd H) ∨ (J.go i H ∧ ∃ Nx : Hp → Prop, (∀ H', Nx H' → ∃ m', m' < m ∧ W (i + 1) m' H') ∧ ∀ x H', J.yld i H x H' → g x (wipe σ vs) H' fun σ2 H2 => wipe σ2 vs = wipe σ vs ∧ tt σ2 H2 fun b H3 =>
        if b = true then tk σ2 H3 fun y H4 => tv σ2 H4 fun z H5 => ∃ kvs k, y = kV k ∧ H5 D = some (.dK kvs) ∧ kvs.length < sizeLine ∧ Nx (upd H5 D (.dK (putK kvs k z))) else Nx H3) := by
  refine ⟨fun i m H => m = n - i ∧ i ≤ n ∧ Pv i H, ⟨n, by simp, Nat.zero_le _, h0⟩, ?_⟩
  rintro i m H ⟨rfl, hi, p⟩
  by_cases hlt : i < n
  · exact .inr ⟨hgo i H hlt p, Pv (i + 1), fun H' p' => ⟨n - (i + 1), by omega, rfl, hlt, p'⟩, fun x H' y => hs i x H H' hlt p y⟩
  · have e : i = n := by omega
    subst e
    exact .inl ⟨hst H p, hd H p⟩
/-- a dict of depths -/
def dC (ks : List Str) (f : Str → Nat) : List (Key × V) := ks.map fun z => (Sum.inr z, V.int ((f z : Nat) : Int))
theorem dC_val {ks : List Str} {f : Str → Nat} {z : Str} (h : z ∈ ks) : valV (dC ks f) (Sum.inr z) = some (.int ((f z : Nat) : Int)) := by
  induction ks with
  | nil => cases h
  | cons y ks ih =>
    by_cases e : y = z
    · subst e
      simp [dC, valV]
    · have h' : z ∈ ks := by
        rcases List.mem_cons.mp h with q | q
        · exact absurd q.symm e
        · exact q
      have := ih h'
      unfold valV dC at *
      rw [List.map_cons, List.find?_cons_of_neg (by simp [e])]
      exact this
theorem dC_any {ks : List Str} {f : Str → Nat} {z : Str} : ((dC ks f).any fun kv => decide (kv.1 = (Sum.inr z : Key))) = decide (z ∈ ks) := by
  induction ks with
  | nil => rfl
  | cons y ks ih =>
    unfold dC at *
    rw [List.map_cons, List.any_cons, ih]
    by_cases e : y = z
    · subst e; simp
    · have e' : ¬ z = y := fun q => e q.symm
      simp [e, e']
theorem dC_new {ks : List Str} {f : Str → Nat} {z : Str} (h : z ∉ ks) : putK (dC ks f) (Sum.inr z) (.int ((f z : Nat) : Int)) = dC (ks ++ [z]) f := by
  unfold putK
  rw [dC_any, decide_eq_false h, if_neg (by simp)]
  simp [dC]
theorem dC_old {ks : List Str} {z : Str} (h : z ∈ ks) : putK (dC ks (one : Str → Nat)) (Sum.inr z) (.int 1) = dC ks one := by
  unfold putK
  rw [dC_any, decide_eq_true h, if_pos rfl]
  unfold dC
  rw [List.map_map]
  refine List.map_congr_left fun y hy => ?_
  by_cases e : y = z
  · subst e; simp [one]
  · simp [e]
theorem step_read {c nm dp ot : Nat} {σ : L2.St} {H : Hp} {Q : VK} {ks : List Str} {f : Str → Nat} {z : Str} {pc : Addr} (h1 : σ[c]? = some (some (.ref pc))) (h2 : σ[nm]? = some (some (.str z))) (h3 : σ[dp]? = some (some (.int ((f z : Nat) : Int)))) (n1 : c ≠ ot) (n2 : nm ≠ ot) (n3 : dp ≠ ot) (hot : ot < σ.length)
    (hc : H pc = some (.dK (dC ks f))) (nd : ks.Nodup) (hl : ks.length ≤ 1000) (q : ∀ pn, H pn = none → Q (.ref pn) (upd H pn (.dK (dC ks (up f z))))) :
    tLockE (tDc (iKeys (tVar c)) (gName ot) tYes (tVar ot) (tIf (tTest (tOp rEq (tVar ot) (tVar nm))) (tOp (rI0 fun i j => V.int (i + j)) (tVar dp) (tC (V.int 1)))
      (tCB (fun xs H Q => ∃ i j, xs = [V.int i, V.int j] ∧ Q (V.int (if j < i then j else i)) H) (tCons (tDGet (tVar c) (tVar ot)) (tCons (tOp (rI0 fun i j => V.int (i + j)) (tVar dp) (tC (V.int 1))) tNil)))) [ot]) σ H Q := by
  refine ⟨pc, _, hc, trivial, fun od => ?_⟩
  have e0 : upd (upd H pc (.frz od (.dK (dC ks f)))) pc (.dK (dC ks f)) = H := by
    funext b
    by_cases e : b = pc
    · subst e; rw [upd_same, hc]
    · rw [upd_ne e, upd_ne e]
  refine ⟨_, h1, pc, od, rfl, .inl ⟨_, upd_same, fun D hD => ?_⟩⟩
  have nD : D ≠ pc := fun e => by subst e; rw [upd_same] at hD; cases hD
  have wc : ∀ x : V, ((wipe σ [ot]).set ot (some x))[c]? = some (some (.ref pc)) := fun x => by
    rw [List.getElem?_set_ne n1.symm, wipe_out (by simp [n1]), h1]
  have wn : ∀ x : V, ((wipe σ [ot]).set ot (some x))[nm]? = some (some (.str z)) := fun x => by
    rw [List.getElem?_set_ne n2.symm, wipe_out (by simp [n2]), h2]
  have wd : ∀ x : V, ((wipe σ [ot]).set ot (some x))[dp]? = some (some (.int ((f z : Nat) : Int))) := fun x => by
    rw [List.getElem?_set_ne n3.symm, wipe_out (by simp [n3]), h3]
  have wo : ∀ x : V, ((wipe σ [ot]).set ot (some x))[ot]? = some (some x) := fun x => by
    rw [List.getElem?_set_self (by rw [wipe_length]; exact hot)]
  have kl : (dC ks f).length = ks.length := by simp [dC]
  refine dc_gen ks.length (fun i H' => H' = upd (upd H pc (.frz od (.dK (dC ks f)))) D (.dK (dC (ks.take i) (up f z)))) (by simp [dC]) (fun i H' hi e => ⟨by rw [e, upd_ne nD.symm, upd_same], by rw [kl]; exact hi⟩) (fun H' e => ⟨by rw [e, upd_ne nD.symm, upd_same], by rw [kl]; exact Nat.le_refl _⟩) (fun i x H1 H2 hi e y => ?_) (fun H' e => ?_)
  · obtain ⟨e2, kk, v, hk, ex⟩ := y
    subst e2 e
    have hk' : (dC ks f)[i]? = some (Sum.inr ks[i], V.int ((f ks[i] : Nat) : Int)) := by simp [dC, hi]
    rw [hk'] at hk
    obtain ⟨e1, e2⟩ := Prod.mk.inj (Option.some.inj hk)
    subst e1 e2 ex
    have hnew : ks[i] ∉ ks.take i := fun hm => by
      obtain ⟨j, hj, e⟩ := List.mem_iff_getElem.mp hm
      rw [List.length_take] at hj
      rw [List.getElem_take] at e
      have := (List.getElem_inj (h₀ := by omega) (h₁ := hi) nd).mp e
      omega
    have tk : ks.take (i + 1) = ks.take i ++ [ks[i]] := by rw [List.take_succ, List.getElem?_eq_getElem hi]; rfl
    have fin : ∀ n : Nat, n = up f z ks[i] → ∃ kvs k, kV (Sum.inr ks[i]) = kV k ∧ upd (upd H pc (.frz od (.dK (dC ks f)))) D (.dK (dC (ks.take i) (up f z))) D = some (.dK kvs) ∧ kvs.length < sizeLine ∧
        upd (upd (upd H pc (.frz od (.dK (dC ks f)))) D (.dK (dC (ks.take i) (up f z)))) D (.dK (putK kvs k (V.int (n : Int)))) = upd (upd H pc (.frz od (.dK (dC ks f)))) D (.dK (dC (ks.take (i + 1)) (up f z))) := fun n en => by
      refine ⟨_, _, rfl, upd_same, ?_, ?_⟩
      · refine small1000 ?_
        simp [dC]
        omega
      · rw [upd_upd, en, dC_new hnew, tk]
    refine ⟨?_, yesI ⟨_, wo _, ?_⟩⟩
    · show ((σ.set ot none).set ot _).set ot none = σ.set ot none
      rw [List.set_set, List.set_set]
    refine ⟨_, wo _, _, wn _, rfl, _, rfl, ?_⟩
    refine ite2 (fun cc => ?_) (fun cc => ?_)
    · have e : ks[i] = z := by
        have := of_decide_eq_true cc
        injection this
      refine ⟨_, wd _, _, _, rfl, rfl, ?_⟩
      have := fin (f z + 1) (by unfold up; rw [if_pos e])
      rw [Int.natCast_add] at this
      exact this
    · have e : ¬ ks[i] = z := fun q => cc (decide_eq_true (by rw [q]; rfl))
      refine ⟨_, wc _, _, wo _, pc, V.int ((f ks[i] : Nat) : Int), rfl, .inl ⟨_, Sum.inr ks[i], .inr ⟨od, by rw [upd_ne nD.symm, upd_same]⟩, rfl, (dC_val (List.getElem_mem hi)).symm⟩, _, wd _, _, _, rfl, rfl, _, _, rfl, ?_⟩
      have := fin (min (f ks[i]) (f z + 1)) (by unfold up; rw [if_neg e])
      have em : (if ((f z : Nat) : Int) + 1 < ((f ks[i] : Nat) : Int) then ((f z : Nat) : Int) + 1 else ((f ks[i] : Nat) : Int)) = ((min (f ks[i]) (f z + 1) : Nat) : Int) := by
        split <;> omega
      rw [em]
      exact this
  · subst e
    refine ⟨by rw [upd_ne nD.symm, upd_same], ?_⟩
    have e1 : upd (upd (upd H pc (.frz od (.dK (dC ks f)))) D (.dK (dC (ks.take ks.length) (up f z)))) pc (.dK (dC ks f)) = upd H D (.dK (dC ks (up f z))) := by
      rw [List.take_length]
      funext b
      by_cases e : b = pc
      · subst e; rw [upd_same, upd_ne nD.symm, hc]
      · by_cases e2 : b = D
        · subst e2; rw [upd_ne e, upd_same, upd_same]
        · rw [upd_ne e, upd_ne e2, upd_ne e, upd_ne e2]
    rw [e1]
    exact q D (by rw [upd_ne nD] at hD; exact hD)
theorem init_read {lg nm : Nat} {σ : L2.St} {H : Hp} {Q : VK} {a : Addr} {l : List Str} (h1 : σ[lg]? = some (some (.ref a))) (hnm : nm < σ.length) (hS : H a = some (.tup (l.map V.str))) (hl : l.length ≤ 1000)
    (q : ∀ ks pn, ks.Nodup → (∀ z ∈ l, z ∈ ks) → ks.length ≤ l.length → H pn = none → Q (.ref pn) (upd H pn (.dK (dC ks one)))) :
    tDc (iTup K (tVar lg)) (gName nm) tYes (tVar nm) (tC (V.int 1)) [nm] σ H Q := by
  refine ⟨_, h1, a, rfl, ⟨_, SqT.of' hS⟩, fun D hD => ?_⟩
  have nD : a ≠ D := ne_of_none hS hD
  refine dc_tup (xs := l.map V.str) (fun i H' => ∃ ks : List Str, H' = upd H D (.dK (dC ks one)) ∧ ks.Nodup ∧ (∀ z ∈ l.take i, z ∈ ks) ∧ ks.length ≤ i) ⟨[], rfl, List.nodup_nil, by simp, Nat.le_refl _⟩ (fun i H' _ ⟨ks, e, _⟩ => SqT.of' (by rw [e, upd_ne nD]; exact hS)) (fun i x H' hi ⟨ks, e, nd, hm, hle⟩ => ?_) (fun H' ⟨ks, e, nd, hm, hle⟩ => ?_)
  · rw [List.getElem?_map] at hi
    have hil : i < l.length := by
      rcases Nat.lt_or_ge i l.length with h | h
      · exact h
      · rw [List.getElem?_eq_none h] at hi
        cases hi
    rw [List.getElem?_eq_getElem hil] at hi
    have ex := (Option.some.inj hi).symm
    subst ex e
    have tk : l.take (i + 1) = l.take i ++ [l[i]] := by rw [List.take_succ, List.getElem?_eq_getElem hil]; rfl
    refine ⟨?_, yesI ⟨_, List.getElem?_set_self (by rw [wipe_length]; exact hnm), _, Sum.inr l[i], rfl, upd_same, small1000 (by simp [dC]; omega), ?_⟩⟩
    · show ((σ.set nm none).set nm _).set nm none = σ.set nm none
      rw [List.set_set, List.set_set]
    · by_cases hk : l[i] ∈ ks
      · refine ⟨ks, by rw [upd_upd, dC_old hk], nd, fun z hz => ?_, by omega⟩
        rw [tk] at hz
        rcases List.mem_append.mp hz with hz | hz
        · exact hm z hz
        · rw [List.mem_singleton.mp hz]; exact hk
      · refine ⟨ks ++ [l[i]], ?_, List.nodup_append.mpr ⟨nd, by simp, ?_⟩, fun z hz => ?_, by simp; omega⟩
        · have := dC_new (f := (one : Str → Nat)) hk
          rw [upd_upd, ← this]
          rfl
        · intro x hx y hy e
          rw [List.mem_singleton.mp hy] at e
          exact hk (by rw [← e]; exact hx)
        · rw [tk] at hz
          rcases List.mem_append.mp hz with hz | hz
          · exact List.mem_append.mpr (.inl (hm z hz))
          · exact List.mem_append.mpr (.inr hz)
  · subst e
    rw [List.length_map] at hm hle
    rw [List.take_length] at hm
    exact q ks D nd hm hle hD
theorem sc24 : FnScope ["log", "name", "coming", "found", "depth", "other"] ["log"] (defScope (top 24)) := ⟨rfl, rfl, rfl, by decide +kernel, rfl, by decide +kernel, by decide +kernel⟩
def spDepths : Sp := fun vs H Q _ => ∃ (a : Addr) (l : List Str), vs = [.ref a] ∧ H a = some (.tup (l.map V.str)) ∧ l.length ≤ 1000 ∧ ∀ H' p, Same H H' → H p = none → H' p = some (.lst ((deps one l).map fun n => V.int ((n : Nat) : Int))) → Q (.ref p) H'
theorem ok_depths {f : Addr} {fd : FuncData} (D : Df K mg "depths_of" (top 24) ["log"] f fd) (B : Bi mg) : FnOk P w K mg base CX0 1 f fd ["log"] spDepths := by
  refine D.F.ok sc24 (fun vs H Q E h => ?_) (fun cdv A outer s H vs Q E hr h => ?_)
  · obtain ⟨a, l, rfl, _⟩ := h
    rfl
  · obtain ⟨a, l, rfl, hS, hl, k⟩ := h
    have hu := hu_of hr
    refine ⟨_, pss_cons (ps_set (i := 2) sc24.nd rfl (.inr rfl) (pe_dc (own := [("name", 1)]) (g := gName 1) (tt := tYes) rfl sc24.nd (pi_tup (pv 0)) (blkOk_by (N := ["log", "name", "coming", "found", "depth", "other"]) (sc := defScope (top 24)) (by decide +kernel))
        (fun _ _ _ _ _ => pg_name (i := 1) sc24.nd rfl (.inl rfl)) (fun _ _ _ _ _ => pts_nil) (fun _ _ _ _ _ => pv 1) (fun _ _ _ _ _ => pe_int)))
      (pss_cons (ps_set (i := 3) sc24.nd rfl (.inl rfl) (pe_lst pa_nil))
      (pss_cons (ps_for PassesOwn.never rfl (pi_tup (pv 0)) (pg_name (i := 1) sc24.nd rfl (.inr rfl))
        (pss_cons (ps_set (i := 4) sc24.nd rfl (.inr rfl) (pe_dget hu (pv 2) (pv 1) (fun _ _ => rfl)))
        (pss_cons (ps_expr (pe_bm PySem.F.plainAttrs_list PySem.F.slot_list_append PySem.F.type_list_append mt_append (pv 3) (pa_cons (pv 4) pa_nil)))
        (pss_one (ps_set (i := 2) sc24.nd rfl (.inr rfl) (pe_lock (pe_dc (own := [("other", 5)]) (g := gName 5) (tt := tYes) rfl sc24.nd (pi_keys (pv 2)) (blkOk_by (N := ["log", "name", "coming", "found", "depth", "other"]) (sc := defScope (top 24)) (by decide +kernel))
          (fun _ _ _ _ _ => pg_name (i := 5) sc24.nd rfl (.inl rfl)) (fun _ _ _ _ _ => pts_nil) (fun _ _ _ _ _ => pv 5)
          (fun _ _ _ _ _ => pe_ifExp (pt_cmpR op_eq (pv 5) (pv 1) (nomark _)) (pe_op op_add (pv 4) pe_int) (pe_callB (call_min2 rfl) (by rfl) B.min (by decide +kernel) (pa_cons (pe_dget hu (pv 2) (pv 5) (fun _ _ => rfl)) (pa_cons (pe_op op_add (pv 4) pe_int) pa_nil)))))))))))
      (pss_one (ps_ret (pv 3))))), ?_⟩
    refine seqA ?_
    refine init_read (lg := 0) (nm := 1) ?_ ?_ hS hl fun ks p0 nd hks hkl hp0 => ?_
    · rfl
    · show 1 < 6; decide
    have s0 : Same H (upd H p0 (.dK (dC ks one))) := Same.put (Same.refl H) hp0
    refine ⟨(by show 0 ≤ sizeLine; decide), fun pf hpf => ?_⟩
    have n0 : H pf = none := s0.free hpf
    have npf : p0 ≠ pf := fun e => by subst e; rw [upd_same] at hpf; cases hpf
    have s1 : Same H (upd (upd H p0 (.dK (dC ks one))) pf (.lst [])) := s0.put n0
    refine ⟨_, rfl, a, rfl, ⟨_, SqT.of' (s1 _ _ hS)⟩, for_tup (K := K) (a := a) (xs := l.map V.str) (fun i σ H' => ∃ pc v1 v4, σ = [some (.ref a), v1, some (.ref pc), some (.ref pf), v4, none] ∧ Same H H' ∧ H pc = none ∧ pc ≠ pf ∧ H' pf = some (.lst ((deps one (l.take i)).map fun n => V.int ((n : Nat) : Int))) ∧ H' pc = some (.dK (dC ks (ups one (l.take i)))))
      ⟨p0, none, none, rfl, s1, hp0, npf, upd_same, by rw [upd_ne npf, upd_same]; rfl⟩ (fun i σ H' _ ⟨_, _, _, _, s, _⟩ => SqT.of' (s _ _ hS)) (fun i x σ H' hi ⟨pc, v1, v4, e, s, hpc0, npc, h1, h2⟩ => ?_) (fun σ H' ⟨pc, v1, v4, e, s, hpc0, npc, h1, h2⟩ => ?_)⟩
    · rw [List.getElem?_map] at hi
      have hil : i < l.length := by
        rcases Nat.lt_or_ge i l.length with h | h
        · exact h
        · rw [List.getElem?_eq_none h] at hi
          cases hi
      rw [List.getElem?_eq_getElem hil] at hi
      have ex := (Option.some.inj hi).symm
      subst ex e
      have tk : l.take (i + 1) = l.take i ++ [l[i]] := by rw [List.take_succ, List.getElem?_eq_getElem hil]; rfl
      have hk : l[i] ∈ ks := hks _ (List.getElem_mem hil)
      refine ⟨_, rfl, _, rfl, pc, _, rfl, .inl ⟨_, Sum.inr l[i], .inl h2, rfl, (dC_val hk).symm⟩, ?_⟩
      refine ⟨_, rfl, .inl ⟨rfl, _, SqL.of h1⟩, _, rfl, pf, _, _, rfl, rfl, h1, small1000 (by rw [List.length_map, deps_len, List.length_take]; omega), ?_⟩
      dsimp only
      refine asgA ?_
      refine step_read (c := 2) (nm := 1) (dp := 4) (ot := 5) (z := l[i]) (f := ups one (l.take i)) (ks := ks) (pc := pc) ?_ ?_ ?_ (by decide) (by decide) (by decide) ?_ (by rw [upd_ne npc]; exact h2) nd (by omega) fun pn hpn => ?_
      · rfl
      · rfl
      · rfl
      · show 5 < 6; decide
      have s2 : Same H (upd H' pf (.lst ((deps one (l.take i)).map (fun n => V.int ((n : Nat) : Int)) ++ [V.int ((ups one (l.take i) l[i] : Nat) : Int)]))) := fun b o e => by
        rw [upd_ne (ne_of_none e n0)]; exact s _ _ e
      have npn : pf ≠ pn := fun e => by subst e; rw [upd_same] at hpn; cases hpn
      refine ⟨pn, _, _, rfl, s2.put (s2.free hpn), s2.free hpn, npn.symm, ?_, ?_⟩
      · rw [upd_ne npn, upd_same, tk, deps_app, List.map_append]
        rfl
      · rw [upd_same, tk, ups_snoc]
    · subst e
      rw [List.length_map, List.take_length] at h1
      exact ⟨_, rfl, k H' pf s n0 h1⟩
end
end G

end

/-! D3 -/
section
set_option maxHeartbeats 4000000
namespace G
open PySem L2 GK Si M
section
variable {P : Program} {w : World} {K : PySem.W.Frag} {mg : Str → Option Value} {base : Heap}
theorem map_get {l : List Str} {i : Nat} {x : V} (h : (l.map V.str)[i]? = some x) : ∃ hi : i < l.length, x = .str l[i] ∧ l.take (i + 1) = l.take i ++ [l[i]] := by
  rw [List.getElem?_map] at h
  have hil : i < l.length := by
    rcases Nat.lt_or_ge i l.length with h' | h'
    · exact h'
    · rw [List.getElem?_eq_none h'] at h
      cases h
  rw [List.getElem?_eq_getElem hil] at h
  exact ⟨hil, (Option.some.inj h).symm, by rw [List.take_succ, List.getElem?_eq_getElem hil]; rfl⟩
theorem sc26 : FnScope ["log", "k", "fronts", "name", "coming", "kept", "at", "depth", "other"] ["log", "k"] (defScope (top 26)) := ⟨rfl, rfl, rfl, by decide +kernel, rfl, by decide +kernel, by decide +kernel⟩
def spDropped : Sp := fun vs H Q _ => ∃ (a : Addr) (l : List Str) (n : Nat), vs = [.ref a, .int (n : Int)] ∧ H a = some (.tup (l.map V.str)) ∧ l.length ≤ 1000 ∧ ∀ H' p, Same H H' → H' p = some (.tup ((drop1 n l).map V.str)) → Q (.ref p) H'
theorem ok_dropped {f : Addr} {fd : FuncData} (D : Df K mg "dropped_once" (top 26) ["log", "k"] f fd) (B : Bi mg) (N : Have P w K mg base 1 "depths_of" ["log"] spDepths) : FnOk P w K mg base CX0 2 f fd ["log", "k"] spDropped := by
  obtain ⟨f1, fd1, G1, m1, k1, b1⟩ := N
  refine D.F.ok sc26 (fun vs H Q E h => ?_) (fun cdv A outer s H vs Q E hr h => ?_)
  · obtain ⟨a, l, n, rfl, _⟩ := h
    rfl
  · obtain ⟨a, l, n, rfl, hS, hl, k⟩ := h
    have hu := hu_of hr
    refine ⟨_, pss_cons (ps_set (i := 2) sc26.nd rfl (.inl rfl) (pe_call G1 hr (by rfl) m1 k1 b1 .nil pass0 (pa_cons (pv 0) pa_nil)))
      (pss_cons (ps_set (i := 4) sc26.nd rfl (.inr rfl) (pe_dc (own := [("name", 3)]) (g := gName 3) (tt := tYes) rfl sc26.nd (pi_tup (pv 0)) (blkOk_by (N := ["log", "k", "fronts", "name", "coming", "kept", "at", "depth", "other"]) (sc := defScope (top 26)) (by decide +kernel))
        (fun _ _ _ _ _ => pg_name (i := 3) sc26.nd rfl (.inl rfl)) (fun _ _ _ _ _ => pts_nil) (fun _ _ _ _ _ => pv 3) (fun _ _ _ _ _ => pe_int)))
      (pss_cons (ps_set (i := 5) sc26.nd rfl (.inl rfl) (pe_lst pa_nil))
      (pss_cons (ps_for PassesOwn.never rfl (pi_range3 (by rfl) B.range (pa_cons (pe_op op_sub (pe_callB call_len_seq (by rfl) B.len PySem.boot_len (pa_cons (pv 0) pa_nil)) pe_int) (pa_cons (pe_un un_neg pe_int) (pa_cons (pe_un un_neg pe_int) pa_nil)))) (pg_name (i := 6) sc26.nd rfl (.inl rfl))
        (pss_cons (ps_set (i := 3) sc26.nd rfl (.inr rfl) (pe_ix ix_tup (pv 0) (pv 6) (fun _ _ => rfl)))
        (pss_cons (ps_set (i := 7) sc26.nd rfl (.inr rfl) (pe_dget hu (pv 4) (pv 3) (fun _ _ => rfl)))
        (pss_one (ps_if (pt_cmpR op_le (pe_op op_add (pe_ix ix_list (pv 2) (pv 6) (fun _ _ => rfl)) (pv 7)) (pe_op op_add (pv 1) pe_int) (by rfl))
          (pss_cons (ps_expr (pe_bm PySem.F.plainAttrs_list PySem.F.slot_list_append PySem.F.type_list_append mt_append (pv 5) (pa_cons (pv 3) pa_nil)))
          (pss_one (ps_set (i := 4) sc26.nd rfl (.inr rfl) (pe_lock (pe_dc (own := [("other", 8)]) (g := gName 8) (tt := tYes) rfl sc26.nd (pi_keys (pv 4)) (blkOk_by (N := ["log", "k", "fronts", "name", "coming", "kept", "at", "depth", "other"]) (sc := defScope (top 26)) (by decide +kernel))
            (fun _ _ _ _ _ => pg_name (i := 8) sc26.nd rfl (.inl rfl)) (fun _ _ _ _ _ => pts_nil) (fun _ _ _ _ _ => pv 8)
            (fun _ _ _ _ _ => pe_ifExp (pt_cmpR op_eq (pv 8) (pv 3) (nomark _)) (pe_op op_add (pv 7) pe_int) (pe_callB (call_min2 rfl) (by rfl) B.min (by decide +kernel) (pa_cons (pe_dget hu (pv 4) (pv 8) (fun _ _ => rfl)) (pa_cons (pe_op op_add (pv 7) pe_int) pa_nil)))))))))
          pss_nil)))))
      (pss_one (ps_ret (pe_callTy call_tuple_of (by rfl) B.tuple (by decide +kernel) (pa_cons (pe_revL (pv 5)) pa_nil))))))), ?_⟩
    refine ⟨_, rfl, a, l, rfl, hS, hl, fun H1 pf s1 hpf h1 => ?_⟩
    dsimp only
    refine seqA ?_
    refine init_read (lg := 0) (nm := 3) ?_ ?_ (s1 _ _ hS) hl fun ks p0 nd hks hkl hp0 => ?_
    · rfl
    · show 3 < 9; decide
    have s2 : Same H1 (upd H1 p0 (.dK (dC ks one))) := Same.put (Same.refl H1) hp0
    refine ⟨(by show 0 ≤ sizeLine; decide), fun pk hpk => ?_⟩
    have n0 : H1 pk = none := s2.free hpk
    have npk : p0 ≠ pk := fun e => by subst e; rw [upd_same] at hpk; cases hpk
    have s3 : Same H1 (upd (upd H1 p0 (.dK (dC ks one))) pk (.lst [])) := s2.put n0
    refine ⟨_, rfl, a, _, rfl, .inr (SqT.of' (s3 _ _ (s1 _ _ hS))), _, _, rfl, rfl, _, rfl, _, rfl, (l.length : Int) - 1, -1, -1, l.length, ?_, ?_, ?_⟩
    · rw [List.length_map]
    · have := RgC.neg (i := (l.length : Int) - 1) (j := -1) (by omega) (by omega) (by omega) (by omega)
      rw [show ((l.length : Int) - 1 - -1).toNat = l.length by omega] at this
      exact this
    refine for_rangeC (fun i σ H' => ∃ q pc v3 v6 v7, σ = [some (.ref a), some (.int n), some (.ref pf), v3, some (.ref pc), some (.ref pk), v6, v7, none] ∧ Same H1 H' ∧ H1 pc = none ∧ pc ≠ pk ∧ H' pk = some (.lst (q.reverse.map V.str)) ∧ H' pc = some (.dK (dC ks (bk q))) ∧ drp n (l.take (l.length - i)).reverse q = drop1 n l ∧ q.length ≤ i)
      ⟨[], p0, none, none, none, rfl, s3, hp0, npk, upd_same, by rw [upd_ne npk, upd_same]; rfl, by rw [Nat.sub_zero, List.take_length]; rfl, Nat.le_refl _⟩ (fun i σ H' hi ⟨q, pc, v3, v6, v7, e, s, hpc0, npc, h2, h3, h4, h5⟩ => ?_) (fun σ H' ⟨q, pc, v3, v6, v7, e, s, hpc0, npc, h2, h3, h4, h5⟩ => ?_)
    · subst e
      obtain ⟨j, ej⟩ : ∃ j : Nat, l.length - i = j + 1 := ⟨l.length - i - 1, by omega⟩
      have hj : j < l.length := by omega
      have eat : (l.length : Int) - 1 + (i : Int) * -1 = ((j : Nat) : Int) := by omega
      have tk : l.take (j + 1) = l.take j ++ [l[j]] := by rw [List.take_succ, List.getElem?_eq_getElem hj]; rfl
      have hk : l[j] ∈ ks := hks _ (List.getElem_mem hj)
      have hS' := s _ _ (s1 _ _ hS)
      have hdep : (deps one l)[j]? = some (bk (l.take j).reverse l[j]) := by
        rw [deps_get one l j l[j] (List.getElem?_eq_getElem hj), ups_fr, fr_rev]
      rw [ej, tk, List.reverse_append] at h4
      have h4' : (if bk (l.take j).reverse l[j] + bk q l[j] ≤ n + 1 then drp n (l.take j).reverse (l[j] :: q) else drp n (l.take j).reverse q) = drop1 n l := h4
      rw [eat]
      refine ⟨_, rfl, _, rfl, a, _, _, .str l[j], rfl, rfl, SqT.of' hS', at_of (j := j) rfl (by simp [hj]), ?_⟩
      refine ⟨_, rfl, _, rfl, pc, _, rfl, .inl ⟨_, Sum.inr l[j], .inl h3, rfl, (dC_val hk).symm⟩, ?_⟩
      refine ⟨_, rfl, _, rfl, pf, _, _, .int ((bk (l.take j).reverse l[j] : Nat) : Int), rfl, rfl, SqL.of (s _ _ h1), at_of (j := j) rfl (by rw [List.getElem?_map, hdep]; rfl), _, rfl, _, _, rfl, rfl, _, rfl, _, _, rfl, rfl, _, _, rfl, rfl, _, rfl, ?_⟩
      refine ite2 (fun c => ?_) (fun c => ?_)
      · have c' := of_decide_eq_true c
        have c2 : bk (l.take j).reverse l[j] + bk q l[j] ≤ n + 1 := by omega
        rw [if_pos c2] at h4'
        refine ⟨_, rfl, .inl ⟨rfl, _, SqL.of h2⟩, _, rfl, pk, _, _, rfl, rfl, h2, small1000 (by rw [List.length_map, List.length_reverse]; omega), ?_⟩
        dsimp only
        refine asgA ?_
        refine step_read (c := 4) (nm := 3) (dp := 7) (ot := 8) (z := l[j]) (f := bk q) (ks := ks) (pc := pc) ?_ ?_ ?_ (by decide) (by decide) (by decide) ?_ (by rw [upd_ne npc]; exact h3) nd (by omega) fun pn hpn => ?_
        · rfl
        · rfl
        · rfl
        · show 8 < 9; decide
        have s4 : Same H1 (upd H' pk (.lst (q.reverse.map V.str ++ [V.str l[j]]))) := fun b o e => by
          rw [upd_ne (ne_of_none e n0)]; exact s _ _ e
        have npn : pk ≠ pn := fun e => by subst e; rw [upd_same] at hpn; cases hpn
        refine ⟨l[j] :: q, pn, _, _, _, rfl, s4.put (s4.free hpn), s4.free hpn, npn.symm, ?_, ?_, ?_, ?_⟩
        · rw [upd_ne npn, upd_same, List.reverse_cons, List.map_append]
          rfl
        · rw [upd_same]
          rfl
        · rw [show l.length - (i + 1) = j by omega]
          exact h4'
        · show q.length + 1 ≤ i + 1
          omega
      · have c2 : ¬ bk (l.take j).reverse l[j] + bk q l[j] ≤ n + 1 := fun q' => c (decide_eq_true (by omega))
        rw [if_neg c2] at h4'
        refine ⟨q, pc, _, _, _, rfl, s, hpc0, npc, h2, h3, ?_, by omega⟩
        rw [show l.length - (i + 1) = j by omega]
        exact h4'
    · subst e
      rw [Nat.sub_self] at h4
      have h4' : q = drop1 n l := h4
      refine ⟨_, rfl, pk, _, rfl, SqL.of h2, fun p hp => ⟨p, _, rfl, .inl ⟨SqL.of upd_same, fun t ht => ?_⟩⟩⟩
      have s4 : Same H (upd H' p (.lst (q.reverse.map V.str).reverse)) := (s1.trans s).one hp
      refine k _ t (s4.one ht) ?_
      rw [upd_same, ← List.map_reverse, List.reverse_reverse, h4']
end
end G

end

/-! D4 -/
section
set_option maxHeartbeats 4000000
namespace G
open PySem L2 GK Si M
section
variable {P : Program} {w : World} {K : PySem.W.Frag} {mg : Str → Option Value} {base : Heap}
theorem sc27 : FnScope ["log", "k", "found", "fewer"] ["log", "k"] (defScope (top 27)) := ⟨rfl, rfl, rfl, by decide +kernel, rfl, by decide +kernel, by decide +kernel⟩
def spReduced : Sp := fun vs H Q _ => ∃ (a : Addr) (l : List Str) (n : Nat), vs = [.ref a, .int (n : Int)] ∧ Sq H a l ∧ l.length ≤ 1000 ∧ ∀ H' p, Same H H' → H' p = some (.tup ((red n l).map V.str)) → Q (.ref p) H'
def lenAt (H : Hp) : Option (Option V) → Nat
  | some (some (.ref p)) => match H p with | some (.tup xs) => xs.length | _ => 0
  | _ => 0
theorem lenAt_of {H : Hp} {p : Addr} {xs : List V} (h : H p = some (.tup xs)) : lenAt H (some (some (.ref p))) = xs.length := by
  show (match H p with | some (HO.tup xs) => xs.length | _ => 0) = _
  rw [h]
theorem ok_reduced {f : Addr} {fd : FuncData} (D : Df K mg "reduced" (top 27) ["log", "k"] f fd) (B : Bi mg) (N : Have P w K mg base 2 "dropped_once" ["log", "k"] spDropped) : FnOk P w K mg base CX0 3 f fd ["log", "k"] spReduced := by
  obtain ⟨f1, fd1, G1, m1, k1, b1⟩ := N
  refine D.F.ok sc27 (fun vs H Q E h => ?_) (fun cdv A outer s H vs Q E hr h => ?_)
  · obtain ⟨a, l, n, rfl, _⟩ := h
    rfl
  · obtain ⟨a, l, n, rfl, hS, hl, k⟩ := h
    refine ⟨_, pss_cons (ps_set (i := 2) sc27.nd rfl (.inl rfl) (pe_callTy call_tuple_of (by rfl) B.tuple (by decide +kernel) (pa_cons (pv 0) pa_nil)))
      (pss_cons (ps_set (i := 3) sc27.nd rfl (.inl rfl) (pe_call G1 hr (by rfl) m1 k1 b1 .nil pass0 (pa_cons (pv 2) (pa_cons (pv 1) pa_nil))))
      (pss_cons (ps_while PassesOwn.never (pt_cmpR op_lt (pe_callB call_len_seq (by rfl) B.len PySem.boot_len (pa_cons (pv 3) pa_nil)) (pe_callB call_len_seq (by rfl) B.len PySem.boot_len (pa_cons (pv 2) pa_nil)) (by rfl))
        (pss_cons (ps_set (i := 2) sc27.nd rfl (.inl rfl) (pv 3)) (pss_one (ps_set (i := 3) sc27.nd rfl (.inl rfl) (pe_call G1 hr (by rfl) m1 k1 b1 .nil pass0 (pa_cons (pv 2) (pa_cons (pv 1) pa_nil)))))))
      (pss_one (ps_ret (pv 2))))), ?_⟩
    refine ⟨_, rfl, a, l.map V.str, rfl, ?_⟩
    have key : ∀ H1 p, Same H H1 → H1 p = some (.tup (l.map V.str)) → tSeq (tAsg (tCall spDropped [] E0 (tCons (tVar 2) (tCons (tVar 1) tNil))) (gName 3)) (tSeq (tWhile (tTest (tOp (rI0 fun i j => V.bl (decide (i < j))) (tCB (fun xs H Q => ∃ p ys, xs = [.ref p] ∧ (SqL K H p ys ∨ SqT K H p ys) ∧ Q (.int ys.length) H) (tCons (tVar 3) tNil)) (tCB (fun xs H Q => ∃ p ys, xs = [.ref p] ∧ (SqL K H p ys ∨ SqT K H p ys) ∧ Q (.int ys.length) H) (tCons (tVar 2) tNil))))
        (tSeq (tAsg (tVar 3) (gName 2)) (tAsg (tCall spDropped [] E0 (tCons (tVar 2) (tCons (tVar 1) tNil))) (gName 3)))) (tRet (tVar 2))) { nx := fun _ H' => Q .non H', rt := Q } [some (.ref a), some (.int (n : Int)), some (.ref p), none] H1 := fun H1 p s1 h1 => by
      refine ⟨_, rfl, _, rfl, p, l, n, rfl, h1, hl, fun H2 p2 s2 h2 => ?_⟩
      refine while_by (fun σ H' => ∃ q1 q2 u, σ = [some (.ref a), some (.int n), some (.ref q1), some (.ref q2)] ∧ Same H H' ∧ H' q1 = some (.tup (u.map V.str)) ∧ H' q2 = some (.tup ((drop1 n u).map V.str)) ∧ red n u = red n l ∧ u.length ≤ 1000)
        (fun σ H' => lenAt H' σ[2]?) ⟨p, p2, l, rfl, s1.trans s2, s2 _ _ h1, h2, rfl, hl⟩ (fun σ H' ⟨q1, q2, u, e, s, g1, g2, hu, hul⟩ => ?_) (fun σ H' Q1 Q2 hq h => ?_)
      · subst e
        refine ⟨_, rfl, q2, _, rfl, .inr (SqT.of' g2), _, rfl, q1, _, rfl, .inr (SqT.of' g1), _, _, rfl, rfl, _, rfl, ?_⟩
        rw [List.length_map, List.length_map]
        have re := red_eq n u
        refine ite2 (fun c => ?_) (fun c => ?_)
        · have c' := of_decide_eq_true c
          have c2 : (drop1 n u).length < u.length := by omega
          rw [if_pos c2] at re
          refine ⟨_, rfl, _, rfl, _, rfl, q2, drop1 n u, n, rfl, g2, by omega, fun H3 p3 s3 h3 => ?_⟩
          refine ⟨⟨q2, p3, drop1 n u, rfl, s.trans s3, s3 _ _ g2, h3, by rw [← re]; exact hu, by omega⟩, ?_⟩
          show lenAt H3 (some (some (.ref q2))) < lenAt H' (some (some (.ref q1)))
          rw [lenAt_of (s3 _ _ g2), lenAt_of g1, List.length_map, List.length_map]
          exact c2
        · have c2 : ¬ (drop1 n u).length < u.length := fun q => c (decide_eq_true (by omega))
          rw [if_neg c2] at re
          refine ⟨_, rfl, k _ _ s ?_⟩
          rw [← hu, re]
          exact g1
      · obtain ⟨v, e1, p, ys, e2, e3, v2, e4, p2, ys2, e5, e6, i, j, e7, e8, b, e9, q⟩ := h
        exact ⟨v, e1, p, ys, e2, e3, v2, e4, p2, ys2, e5, e6, i, j, e7, e8, b, e9, hq _ _ q⟩
    rcases hS with hS | hS
    · exact .inl ⟨SqL.of' hS, fun p hp => key _ p ((Same.refl H).put hp) upd_same⟩
    · exact .inr ⟨SqT.of' hS, key _ a (Same.refl H) hS⟩
/-! ### stretches_alike -/
theorem eqv_pair (a b c d : Int) : PyData.eqv (.tuple [.int a, .int b]) (.tuple [.int c, .int d]) = decide ((a, b) = (c, d)) := by
  rw [show PyData.eqv (.tuple [.int a, .int b]) (.tuple [.int c, .int d]) = ((a == c) && ((b == d) && true)) by simp [PyData.eqv, PyData.eqvAll], Bool.eq_iff_iff]
  simp
theorem shaped_pair (a b : Int) : SeqAt.shaped (.tuple [.int a, .int b]) = true := by
  simp [SeqAt.shaped, PyData.canLay0, PyData.canLayAll0, PyData.depth, PyData.depthAll]
theorem sc28 : FnScope ["log", "k", "pairs", "found", "at", "pair"] ["log", "k"] (defScope (top 28)) := ⟨rfl, rfl, rfl, by decide +kernel, rfl, by decide +kernel, by decide +kernel⟩
def spStretches : Sp := fun vs H Q _ => ∃ (a : Addr) (l : List Str) (n : Nat), vs = [.ref a, .int (n : Int)] ∧ H a = some (.tup (l.map V.str)) ∧ l.length ≤ 1000 ∧ ∀ H' p, Same H H' → H p = none → H' p = some (.lst ((ends n l).map fun m => V.int ((m : Nat) : Int))) → Q (.ref p) H'
theorem ok_stretches {f : Addr} {fd : FuncData} (D : Df K mg "stretches_alike" (top 28) ["log", "k"] f fd) (B : Bi mg) (N : Have P w K mg base 1 "depths_of" ["log"] spDepths) : FnOk P w K mg base CX0 2 f fd ["log", "k"] spStretches := by
  obtain ⟨f1, fd1, G1, m1, k1, b1⟩ := N
  refine D.F.ok sc28 (fun vs H Q E h => ?_) (fun cdv A outer s H vs Q E hr h => ?_)
  · obtain ⟨a, l, n, rfl, _⟩ := h
    rfl
  · obtain ⟨a, l, n, rfl, hS, hl, k⟩ := h
    have hu64 : (A.deeper (PyProof.Rows.envOfC "stretches_alike" (defScope (top 28)) s.heap.objs.size f cdv)).units + 64 < cLine := hr.units
    refine ⟨_, pss_cons (ps_set (i := 2) sc28.nd rfl (.inl rfl) (pe_listZip rfl (by rfl) B.list (by rfl) B.zip (pa_cons (pe_call G1 hr (by rfl) m1 k1 b1 .nil pass0 (pa_cons (pv 0) pa_nil)) (pa_cons (pe_revL (pe_call G1 hr (by rfl) m1 k1 b1 .nil pass0 (pa_cons (pe_revT (pv 0)) pa_nil))) pa_nil))))
      (pss_cons (ps_set (i := 3) sc28.nd rfl (.inl rfl) (pe_lst pa_nil))
      (pss_cons (ps_for PassesOwn.never rfl (pi_enum (by rfl) B.enum (pa_cons (pv 2) pa_nil)) (pg_tup rfl (pgs_cons (pg_name (i := 4) sc28.nd rfl (.inl rfl)) (pgs_cons (pg_name (i := 5) sc28.nd rfl (.inl rfl)) pgs_nil)))
        (pss_one (ps_if (pw_or (pt_cmpR op_eq (pe_op op_add (pv 4) pe_int) (pe_callB call_len_seq (by rfl) B.len PySem.boot_len (pa_cons (pv 2) pa_nil)) (nomark _)) (pw_or (pt_cmpR (op_neD hu64) (pe_ix ix_list (pv 2) (pe_op op_add (pv 4) pe_int) (fun _ _ => rfl)) (pv 5) (by rfl))
          (pw_or1 (pt_cmpR op_ne (pe_callB (cr_sum rfl) (by rfl) B.sum (by decide +kernel) (pa_cons (pe_lst (pa_cons (pe_ix ix_tup (pv 5) pe_int (fun _ _ => rfl)) (pa_cons (pe_ix ix_tup (pv 5) pe_int (fun _ _ => rfl)) pa_nil))) pa_nil)) (pe_op op_add (pv 1) pe_int) (nomark _))))).pt
          (pss_one (ps_expr (pe_bm PySem.F.plainAttrs_list PySem.F.slot_list_append PySem.F.type_list_append mt_append (pv 3) (pa_cons (pe_op op_add (pv 4) pe_int) pa_nil)))) pss_nil)))
      (pss_one (ps_ret (pv 3))))), ?_⟩
    refine ⟨_, rfl, a, l, rfl, hS, hl, fun H1 p1 s1 hp1 h1 => ?_⟩
    refine ⟨_, rfl, a, _, rfl, SqT.of' (s1 _ _ hS), fun p2 hp2 => ?_⟩
    have s2 : Same H1 (upd H1 p2 (.tup (l.map V.str).reverse)) := Same.put (Same.refl _) hp2
    refine ⟨p2, l.reverse, rfl, by rw [upd_same, List.map_reverse], by rw [List.length_reverse]; exact hl, fun H3 p3 s3 hp3 h3 => ?_⟩
    refine ⟨p3, _, rfl, SqL.of h3, fun p4 hp4 => ?_⟩
    have s4 : Same H1 (upd H3 p4 (.lst ((deps one l.reverse).map fun m => V.int ((m : Nat) : Int)).reverse)) := (s2.trans s3).one hp4
    refine ⟨p1, p4, _, _, rfl, SqL.of (s4 _ _ h1), SqL.of upd_same, by simp [deps_len], small1000 (by simp [deps_len]; omega), fun H5 pp ts s5 hpp h5 htl hz => ?_⟩
    have sA : Same H H5 := (s1.trans s4).trans s5
    have hz' : ∀ (j : Nat) (t : Addr), ts[j]? = some t → ∃ x y : Nat, ((deps one l).zip (deps one l.reverse).reverse)[j]? = some (x, y) ∧ H5 t = some (.tup [.int (x : Int), .int (y : Int)]) := fun j t e => by
      obtain ⟨x, y, e1, e2, e3⟩ := hz j t e
      rw [List.getElem?_map] at e1
      rw [← List.map_reverse, List.getElem?_map] at e2
      cases q1 : (deps one l)[j]? with
      | none => rw [q1] at e1; cases e1
      | some x1 =>
        cases q2 : (deps one l.reverse).reverse[j]? with
        | none => rw [q2] at e2; cases e2
        | some y1 =>
          rw [q1] at e1
          rw [q2] at e2
          have ex := Option.some.inj e1
          have ey := Option.some.inj e2
          rw [← ex, ← ey] at e3
          exact ⟨x1, y1, by rw [List.getElem?_zip_eq_some]; exact ⟨q1, q2⟩, e3⟩
    have hlen : ts.length = ((deps one l).zip (deps one l.reverse).reverse).length := by
      rw [htl]; simp [deps_len]
    have hlen1 : ts.length = l.length := by rw [htl]; simp [deps_len]
    obtain ⟨L, eL⟩ : ∃ L, (deps one l).zip (deps one l.reverse).reverse = L := ⟨_, rfl⟩
    have eends : ends n l = endsP n 0 L := by rw [← eL]; rfl
    rw [eL] at hz' hlen
    refine ⟨(by show 0 ≤ sizeLine; decide), fun pf hpf => ?_⟩
    have n0 : H5 pf = none := hpf
    have sB : Same H5 (upd H5 pf (.lst [])) := Same.put (Same.refl _) hpf
    refine ⟨_, rfl, pp, ts.map V.ref, rfl, SqL.of (sB _ _ h5), ?_⟩
    refine for_gen ts.length (fun i σ H' => ∃ v4 v5 fo, σ = [some (.ref a), some (.int n), some (.ref pp), some (.ref pf), v4, v5] ∧ Same H5 H' ∧ H' pf = some (.lst (fo.map fun m => V.int ((m : Nat) : Int))) ∧ fo ++ endsP n i (L.drop i) = endsP n 0 L ∧ fo.length ≤ i)
      ⟨none, none, [], rfl, sB, upd_same, rfl, Nat.le_refl _⟩ (fun i σ H' hi ⟨_, _, _, _, s, _⟩ => ⟨_, .ref ts[i], SqL.of (s _ _ h5), by simp [hi]⟩) (fun σ H' ⟨_, _, _, _, s, _⟩ => ⟨_, SqL.of (s _ _ h5), by simp⟩) (fun i x σ H' H'' hi ⟨v4, v5, fo, e, s, g, hfo, hfl⟩ y => ?_) (fun σ H' ⟨v4, v5, fo, e, s, g, hfo, hfl⟩ => ?_)
    · obtain ⟨T, x', rfl, hT, rfl, gx⟩ := y
      have ex := gx _ (SqL.of (s _ _ h5))
      rw [List.getElem?_map, List.getElem?_eq_getElem hi] at ex
      have ex := (Option.some.inj ex).symm
      subst ex e
      have hT5 : H5 T = none := s.free hT
      have nT : T ≠ pf := fun q => by subst q; rw [g] at hT; cases hT
      have sT : Same H5 (upd H' T (.tup [.int (i : Nat), .ref ts[i]])) := s.one hT
      obtain ⟨x, y, exy, hxy⟩ := hz' i ts[i] (List.getElem?_eq_getElem hi)
      have hxy' := sT _ _ hxy
      have hdrop : L.drop i = (x, y) :: L.drop (i + 1) := by
        obtain ⟨hh, e⟩ := List.getElem?_eq_some_iff.mp exy
        rw [List.drop_eq_getElem_cons hh, e]
      rw [hdrop] at hfo
      have hfo' : fo ++ (if endP n (x, y) (L.drop (i + 1)) = true then (i + 1) :: endsP n (i + 1) (L.drop (i + 1)) else endsP n (i + 1) (L.drop (i + 1))) = endsP n 0 L := hfo
      refine ⟨T, _, rfl, SqT.of' upd_same, rfl, _, _, rfl, _, _, rfl, rfl, ?_⟩
      have gf : ∀ H6 : Hp, (∀ b o, upd H' T (.tup [.int (i : Nat), .ref ts[i]]) b = some o → H6 b = some o) → H6 pf = some (.lst (fo.map fun m => V.int ((m : Nat) : Int))) := fun H6 h => h _ _ (by rw [upd_ne nT.symm]; exact g)
      have no : ¬ endP n (x, y) (L.drop (i + 1)) = true → ∀ H6, Same (upd H' T (.tup [.int (i : Nat), .ref ts[i]])) H6 → ∃ v4 v5 fo, [some (V.ref a), some (.int n), some (.ref pp), some (.ref pf), some (.int (i : Nat)), some (.ref ts[i])] = [some (.ref a), some (.int n), some (.ref pp), some (.ref pf), v4, v5] ∧ Same H5 H6 ∧ H6 pf = some (.lst (fo.map fun m => V.int ((m : Nat) : Int))) ∧ fo ++ endsP n (i + 1) (L.drop (i + 1)) = endsP n 0 L ∧ fo.length ≤ i + 1 := fun he H6 h6 => by
        rw [if_neg he] at hfo'
        exact ⟨_, _, fo, rfl, sT.trans h6, gf H6 h6, hfo', by omega⟩
      have yes : endP n (x, y) (L.drop (i + 1)) = true → ∀ (H6 : Hp) (D : Ends), Same (upd H' T (.tup [.int (i : Nat), .ref ts[i]])) H6 → (∀ σ H', (∃ v4 v5 fo, σ = [some (.ref a), some (.int n), some (.ref pp), some (.ref pf), v4, v5] ∧ Same H5 H' ∧ H' pf = some (.lst (fo.map fun m => V.int ((m : Nat) : Int))) ∧ fo ++ endsP n (i + 1) (L.drop (i + 1)) = endsP n 0 L ∧ fo.length ≤ i + 1) → D.nx σ H') →
          tDrop (tBM K "list" rAppend (tVar 3) (tCons (tOp (rI0 fun i j => V.int (i + j)) (tVar 4) (tC (V.int 1))) tNil)) D [some (.ref a), some (.int n), some (.ref pp), some (.ref pf), some (.int (i : Nat)), some (.ref ts[i])] H6 := fun he H6 D h6 hD => by
        rw [if_pos he] at hfo'
        have g6 := gf H6 h6
        refine ⟨_, rfl, .inl ⟨rfl, _, SqL.of g6⟩, _, rfl, _, _, rfl, rfl, pf, _, _, rfl, rfl, g6, small1000 (by rw [List.length_map]; omega), ?_⟩
        refine hD _ _ ⟨_, _, fo ++ [i + 1], rfl, fun b o e => ?_, ?_, ?_, by simp; omega⟩
        · rw [upd_ne (ne_of_none e n0)]
          exact h6 _ _ (sT _ _ e)
        · rw [upd_same, List.map_append]
          rfl
        · rw [List.append_assoc]
          exact hfo'
      have sT' : Same H' (upd H' T (.tup [.int (i : Nat), .ref ts[i]])) := Same.put (Same.refl _) hT
      refine ⟨_, rfl, _, _, rfl, rfl, _, rfl, pp, _, rfl, .inl (SqL.of (sT _ _ h5)), rfl, _, rfl, ?_⟩
      rw [List.length_map]
      by_cases cl : i + 1 = ts.length
      · have d1 : decide (V.int ((i : Nat) + 1) = V.int ((ts.length : Nat) : Int)) = true := decide_eq_true (by rw [← cl]; rfl)
        rw [d1]
        refine iteT (iteT ?_)
        have hd : L.drop (i + 1) = [] := by rw [cl, hlen, List.drop_length]
        exact yes (by rw [hd]; rfl) _ _ (Same.refl _) fun _ _ h => h
      · have d1 : decide (V.int ((i : Nat) + 1) = V.int ((ts.length : Nat) : Int)) = false := decide_eq_false (fun q => cl (by injection q with q; omega))
        rw [d1]
        have hi1 : i + 1 < ts.length := by omega
        obtain ⟨x2, y2, exy2, hxy2⟩ := hz' (i + 1) ts[i + 1] (List.getElem?_eq_getElem hi1)
        have hdrop2 : L.drop (i + 1) = (x2, y2) :: L.drop (i + 2) := by
          obtain ⟨hh, e⟩ := List.getElem?_eq_some_iff.mp exy2
          rw [List.drop_eq_getElem_cons hh, e]
        have hE : endP n (x, y) (L.drop (i + 1)) = (decide ((x2, y2) ≠ (x, y)) || decide (x + y ≠ n + 1)) := by rw [hdrop2]; rfl
        refine iteF ?_
        refine ⟨_, rfl, _, rfl, _, _, rfl, rfl, pp, _, _, .ref ts[i + 1], rfl, rfl, SqL.of (sT _ _ h5), at_of (j := i + 1) rfl (by simp [hi1]), _, rfl, _, _, Dp.tup (SqT.of' (sT _ _ hxy2)) (.cons (.int _) (.cons (.int _) .nil)), Dp.tup (SqT.of' hxy') (.cons (.int _) (.cons (.int _) .nil)), shaped_pair _ _, shaped_pair _ _, _, rfl, ?_⟩
        rw [eqv_pair]
        by_cases cp : (x2, y2) = (x, y)
        · obtain ⟨q1, q2⟩ := Prod.mk.inj cp
          subst q1 q2
          have d2 : (!decide (((x2 : Int), (y2 : Int)) = ((x2 : Int), (y2 : Int)))) = false := by simp
          rw [d2]
          refine iteF ?_
          refine ⟨_, rfl, ts[i], _, _, _, rfl, rfl, SqT.of' hxy', at_of (j := 0) rfl rfl, ?_⟩
          refine ⟨_, rfl, ts[i], _, _, _, rfl, rfl, SqT.of' hxy', at_of (j := 1) rfl rfl, ?_⟩
          refine ⟨(by show 2 ≤ sizeLine; decide), fun q hq => ?_⟩
          have s6 : Same (upd H' T (.tup [.int (i : Nat), .ref ts[i]])) (upd (upd H' T (.tup [.int (i : Nat), .ref ts[i]])) q (.lst [.int (x2 : Int), .int (y2 : Int)])) := Same.put (Same.refl _) hq
          refine ⟨q, [(x2 : Int), (y2 : Int)], rfl, SqL.of upd_same, _, rfl, _, _, rfl, rfl, rfl, _, rfl, ?_⟩
          have es : ([(x2 : Int), (y2 : Int)] : List Int).sum = (x2 : Int) + (y2 : Int) := by simp
          rw [es]
          by_cases cs : x2 + y2 = n + 1
          · have d3 : decide (V.int ((x2 : Int) + (y2 : Int)) = V.int ((n : Int) + 1)) = true := decide_eq_true (by congr 1; omega)
            rw [d3]
            refine iteF ?_
            exact no (by rw [hE]; simp [cs]) _ s6
          · have d3 : decide (V.int ((x2 : Int) + (y2 : Int)) = V.int ((n : Int) + 1)) = false := decide_eq_false (fun q => cs (by injection q with q; omega))
            rw [d3]
            refine iteT ?_
            exact yes (by rw [hE]; simp [cs]) _ _ s6 fun _ _ h => h
        · have d2 : (!decide (((x2 : Int), (y2 : Int)) = ((x : Int), (y : Int)))) = true := by
            rw [decide_eq_false]
            · rfl
            · intro q
              obtain ⟨q1, q2⟩ := Prod.mk.inj q
              exact cp (by rw [Int.ofNat.inj q1, Int.ofNat.inj q2])
          rw [d2]
          refine iteT (iteT ?_)
          exact yes (by rw [hE, decide_eq_true cp]; rfl) _ _ (Same.refl _) fun _ _ h => h
    · subst e
      rw [hlen, List.drop_length] at hfo
      refine ⟨_, rfl, k _ pf (sA.trans s) (sA.free n0) ?_⟩
      rw [g, eends, ← hfo]
      have : endsP n ((deps one l).zip (deps one l.reverse).reverse).length [] = [] := rfl
      simp [endsP]
end
end G

end

/-! D5 -/
section
set_option maxHeartbeats 4000000
namespace G
open PySem L2 GK Si M
section
variable {P : Program} {w : World} {K : PySem.W.Frag} {mg : Str → Option Value} {base : Heap}
theorem slA_read {H : Hp} {a : Addr} {xs : List V} {lo hi : Option Int} {Q : VK} (hS : H a = some (.tup xs)) (q : ∀ H6 p, Same H H6 → H6 p = some (.tup (cutV xs lo hi)) → Q (.ref p) H6) : rSlA K (.ref a) lo hi H Q := by
  refine ⟨a, xs, rfl, SqT.of' hS, fun ⟨c1, c2⟩ => q H a (Same.refl H) ?_, fun _ p hp => q _ p (Same.put (Same.refl H) hp) upd_same⟩
  rw [hS]
  unfold cutV
  rw [c1, c2, List.drop_zero, Nat.sub_zero, List.take_length]
theorem cut_nat {l : List Str} {b e : Nat} (h1 : b ≤ e) (h2 : e ≤ l.length) : cutV (l.map V.str) (some (b : Int)) (some (e : Int)) = ((l.drop b).take (e - b)).map V.str := by
  unfold cutV
  rw [HT.sIx_nat, HT.sIx_nat, List.length_map, Nat.min_eq_left h2, Nat.min_eq_left (by omega), List.map_take, List.map_drop]
theorem sc29 : FnScope ["log", "k", "left", "found", "begin", "end", "name"] ["log", "k"] (defScope (top 29)) := ⟨rfl, rfl, rfl, by decide +kernel, rfl, by decide +kernel, by decide +kernel⟩
/-- the names are few -/
def Few (l : List Str) : Prop := ∃ N : List Str, N.length ≤ 60 ∧ ∀ z ∈ l, z ∈ N
def spCanon : Sp := fun vs H Q _ => ∃ (a : Addr) (l : List Str) (n : Nat), vs = [.ref a, .int (n : Int)] ∧ Sq H a l ∧ l.length ≤ 1000 ∧ Few l ∧ ∀ H' p, Same H H' → H' p = some (.tup ((canS n l).map V.str)) → Q (.ref p) H'
theorem red_mem {n : Nat} {l : List Str} {z : Str} (h : z ∈ red n l) : z ∈ l := (red_ok n l.length l (Nat.le_refl _)).2.2.subset h
theorem red_len (n : Nat) (l : List Str) : (red n l).length ≤ l.length := (red_ok n l.length l (Nat.le_refl _)).2.2.length_le
theorem ok_canonOf {f : Addr} {fd : FuncData} (D : Df K mg "canonical_of" (top 29) ["log", "k"] f fd) (B : Bi mg) (N : Have P w K mg base 3 "reduced" ["log", "k"] spReduced) (N2 : Have P w K mg base 2 "stretches_alike" ["log", "k"] spStretches) : FnOk P w K mg base CX0 4 f fd ["log", "k"] spCanon := by
  obtain ⟨f1, fd1, G1, m1, k1, b1⟩ := N
  obtain ⟨f2, fd2, G2, m2, k2, b2⟩ := N2
  refine D.F.ok sc29 (fun vs H Q E h => ?_) (fun cdv A outer s H vs Q E hr h => ?_)
  · obtain ⟨a, l, n, rfl, _⟩ := h
    rfl
  · obtain ⟨a, l, n, rfl, hS, hl, ⟨NN, hNN, hN⟩, k⟩ := h
    refine ⟨_, pss_cons (ps_set (i := 2) sc29.nd rfl (.inl rfl) (pe_call G1 hr (by rfl) m1 k1 b1 .nil pass0 (pa_cons (pv 0) (pa_cons (pv 1) pa_nil))))
      (pss_cons (ps_set (i := 3) sc29.nd rfl (.inl rfl) (pe_lst pa_nil))
      (pss_cons (ps_set (i := 4) sc29.nd rfl (.inl rfl) pe_int)
      (pss_cons (ps_for PassesOwn.never rfl (pi_list (pe_call G2 (hr.mono (by decide)) (by rfl) m2 k2 b2 .nil pass0 (pa_cons (pv 2) (pa_cons (pv 1) pa_nil)))) (pg_name (i := 5) sc29.nd rfl (.inl rfl))
        (pss_cons (ps_expr (pe_bm PySem.F.plainAttrs_list PySem.F.slot_list_extend PySem.F.type_list_extend mt_extend (pv 3) (pa_cons (pe_callB cr_sortedS (by rfl) B.sorted (by decide +kernel) (pa_cons
          (pe_lc (own := [("name", 6)]) (g := gName 6) (tt := tYes) rfl sc29.nd (pi_tup (pe_slice sl_tupA (pv 2) (po_some (pv 4)) (po_some (pv 5)))) (blkOk_by (N := ["log", "k", "left", "found", "begin", "end", "name"]) (sc := defScope (top 29)) (by decide +kernel))
            (fun _ _ _ _ _ => pg_name (i := 6) sc29.nd rfl (.inl rfl)) (fun _ _ _ _ _ => pts_nil) (fun _ _ _ _ _ => pe_callTy SkE.call_str_str (by rfl) B.str (by decide +kernel) (pa_cons (pv 6) pa_nil))) pa_nil)) pa_nil)))
        (pss_one (ps_set (i := 4) sc29.nd rfl (.inl rfl) (pv 5)))))
      (pss_one (ps_ret (pe_callTy call_tuple_of (by rfl) B.tuple (by decide +kernel) (pa_cons (pv 3) pa_nil))))))), ?_⟩
    refine ⟨_, rfl, _, rfl, a, l, n, rfl, hS, hl, fun H1 pl s1 h1 => ?_⟩
    obtain ⟨u, eu⟩ : ∃ u, red n l = u := ⟨_, rfl⟩
    have hul : u.length ≤ 1000 := by rw [← eu]; exact Nat.le_trans (red_len n l) hl
    have huN : ∀ z ∈ u, z ∈ NN := fun z hz => hN z (red_mem (by rw [eu]; exact hz))
    have ecan : canS n l = gath srtS u 0 (ends n u) := by rw [← eu]; exact canon_gath srtS n l
    have hok : Okc u 0 (ends n u) := okc_ends n u
    rw [eu] at h1
    refine ⟨(by show 0 ≤ sizeLine; decide), fun pf hpf => ?_⟩
    have s2 : Same H1 (upd H1 pf (.lst [])) := Same.put (Same.refl _) hpf
    refine ⟨_, rfl, _, rfl, pl, u, n, rfl, s2 _ _ h1, hul, fun H3 pe s3 hpe h3 => ?_⟩
    have npe : pe ≠ pf := fun e => by subst e; rw [upd_same] at hpe; cases hpe
    have s13 : Same H1 H3 := s2.trans s3
    have hpe1 : H1 pe = none := s2.free hpe
    refine ⟨pe, rfl, ⟨_, SqL.of h3⟩, for_list (K := K) (a := pe) (xs := (ends n u).map fun m => V.int ((m : Nat) : Int)) (fun i σ H' => ∃ fo b v5, σ = [some (.ref a), some (.int n), some (.ref pl), some (.ref pf), some (.int ((b : Nat) : Int)), v5, none] ∧ Same H1 H' ∧ H' pe = some (.lst ((ends n u).map fun m => V.int ((m : Nat) : Int))) ∧ H' pf = some (.lst (fo.map V.str)) ∧
        fo ++ gath srtS u b ((ends n u).drop i) = gath srtS u 0 (ends n u) ∧ Okc u b ((ends n u).drop i) ∧ fo.length = b ∧ b ≤ u.length)
      ⟨[], 0, none, rfl, s13, h3, s3 _ _ upd_same, rfl, hok, rfl, Nat.zero_le _⟩ (fun i σ H' _ ⟨_, _, _, _, _, h, _⟩ => SqL.of h) (fun i x σ H' hi ⟨fo, b, v5, e, s, he, g, hfo, hk, hfl, hb⟩ => ?_) (fun σ H' ⟨fo, b, v5, e, s, he, g, hfo, hk, hfl, hb⟩ => ?_)⟩
    · obtain ⟨ee, hee, ex⟩ : ∃ ee : Nat, (ends n u)[i]? = some ee ∧ x = V.int (ee : Int) := by
        rw [List.getElem?_map] at hi
        cases q : (ends n u)[i]? with
        | none => rw [q] at hi; cases hi
        | some m => rw [q] at hi; exact ⟨m, rfl, (Option.some.inj hi).symm⟩
      subst ex e
      have hdrop : (ends n u).drop i = ee :: (ends n u).drop (i + 1) := by
        obtain ⟨hh, e⟩ := List.getElem?_eq_some_iff.mp hee
        rw [List.drop_eq_getElem_cons hh, e]
      rw [hdrop] at hfo hk
      obtain ⟨k1', k2', k3', k4'⟩ := hk
      obtain ⟨cut, ecut⟩ : ∃ cut, (u.drop b).take (ee - b) = cut := ⟨_, rfl⟩
      rw [ecut] at k3'
      have hcl : cut.length = ee - b := by rw [← ecut, List.length_take, List.length_drop]; omega
      have hcN : cut.length ≤ NN.length := nodup_le cut NN k3' fun z hz => huN z (by rw [← ecut] at hz; exact List.drop_subset _ _ (List.take_subset _ _ hz))
      have hfo' : fo ++ (srtS cut ++ gath srtS u ee ((ends n u).drop (i + 1))) = gath srtS u 0 (ends n u) := by rw [← ecut]; exact hfo
      refine ⟨_, rfl, .inl ⟨rfl, _, SqL.of g⟩, ?_⟩
      refine ⟨_, rfl, _, rfl, _, rfl, _, rfl, _, rfl, slA_read (xs := u.map V.str) (s _ _ h1) fun H6 p6 s6 h6 => ?_⟩
      rw [cut_nat k1' k2', ecut] at h6
      refine ⟨p6, rfl, ⟨_, SqT.of' h6⟩, fun D hD => lc_tup (xs := cut.map V.str) (fun j H7 => H7 = upd H6 D (.lst ((cut.take j).map V.str))) (by simp) (fun j H7 _ e => SqT.of' (by rw [e, upd_ne (ne_of_none h6 hD)]; exact h6)) (fun j x H7 hj e => ?_) (fun H7 e => ?_)⟩
      · obtain ⟨hj, ex, et⟩ := map_get hj
        subst ex e
        refine ⟨rfl, yesI ⟨_, rfl, cut[j], rfl, _, upd_same, small1000 (by rw [List.length_map, List.length_take]; omega), ?_⟩⟩
        rw [upd_upd, et, List.map_append]
        rfl
      · subst e
        rw [List.length_map, List.take_length]
        have s7 : Same H' (upd H6 D (.lst (cut.map V.str))) := s6.one hD
        refine ⟨D, cut, rfl, SqL.of upd_same, by omega, fun ys p hp hs hpn => ?_⟩
        have e8 := sorted_is hp hs
        have s8 : Same H' (upd (upd H6 D (.lst (cut.map V.str))) p (.lst (ys.map V.str))) := s7.one hpn
        have npp : pf ≠ p := ne_of_none (s7 _ _ g) hpn
        refine ⟨pf, p, fo.map V.str, ys.map V.str, rfl, rfl, s8 _ _ g, upd_same, ?_, ?_⟩
        · rw [List.length_map, List.length_map, hp.length_eq]
          exact Nat.le_of_lt (small1000 (by omega))
        refine ⟨_, rfl, fo ++ ys, ee, _, rfl, fun b' o e => ?_, ?_, ?_, ?_, k4', ?_, k2'⟩
        · rw [upd_ne (ne_of_none e hpf)]
          exact s8 _ _ (s _ _ e)
        · rw [upd_ne npe]
          exact s8 _ _ he
        · rw [upd_same, List.map_append]
        · rw [List.append_assoc, e8]
          exact hfo'
        · rw [List.length_append, hp.length_eq]
          omega
    · subst e
      rw [List.length_map, List.drop_length] at hfo
      have hfo' : fo = gath srtS u 0 (ends n u) := by rw [← hfo]; exact (List.append_nil fo).symm
      refine ⟨_, rfl, pf, _, rfl, .inl ⟨SqL.of g, fun t ht => k _ t ((s1.trans s).one ht) ?_⟩⟩
      rw [upd_same, ecan, hfo']
end
end G

end

/-! D6 -/
section
set_option maxHeartbeats 4000000
namespace G
open PySem L2 GK Si M
section
variable {P : Program} {w : World} {K : PySem.W.Frag} {mg : Str → Option Value} {base : Heap}
/-- a log as the defs take it -/
structure Lg (H : Hp) (a : Addr) (l : List Str) : Prop where
  sq : Sq H a l
  nm : ∀ z ∈ l, Nm z
  len : l.length ≤ 1000
  few : Few l
theorem Lg.same {H H' : Hp} {a : Addr} {l : List Str} (h : Lg H a l) (e : Same H H') : Lg H' a l := ⟨h.sq.same e, h.nm, h.len, h.few⟩
theorem sc30 : FnScope ["log", "k"] ["log", "k"] (defScope (top 30)) := ⟨rfl, rfl, rfl, by decide +kernel, rfl, by decide +kernel, by decide +kernel⟩
def spCanonical : Sp := fun vs H Q _ => ∃ (a : Addr) (l : List Str) (n : Nat), vs = [.ref a, .int (n : Int)] ∧ Lg H a l ∧ n ≤ 6 ∧ ∀ H' p, Same H H' → H' p = some (.tup ((canS n l).map V.str)) → Q (.ref p) H'
theorem ok_canonical {f : Addr} {fd : FuncData} (D : Df K mg "canonical" (top 30) ["log", "k"] f fd) (N1 : Have P w K mg base 3 "need_log" ["log"] spNeedLog) (N2 : Have P w K mg base 2 "need_k" ["k"] spNeedK) (N3 : Have P w K mg base 4 "canonical_of" ["log", "k"] spCanon) : FnOk P w K mg base CX0 5 f fd ["log", "k"] spCanonical := by
  obtain ⟨f1, fd1, G1, m1, k1, b1⟩ := N1
  obtain ⟨f2, fd2, G2, m2, k2, b2⟩ := N2
  obtain ⟨f3, fd3, G3, m3, k3, b3⟩ := N3
  refine D.F.ok sc30 (fun vs H Q E h => ?_) (fun cdv A outer s H vs Q E hr h => ?_)
  · obtain ⟨a, l, n, rfl, _⟩ := h
    rfl
  · obtain ⟨a, l, n, rfl, hL, hn, k⟩ := h
    refine ⟨_, pss_cons (ps_expr (pe_call G1 (hr.mono (by decide)) (by rfl) m1 k1 b1 .nil pass0 (pa_cons (pv 0) pa_nil)))
      (pss_cons (ps_expr (pe_call G2 (hr.mono (by decide)) (by rfl) m2 k2 b2 .nil pass0 (pa_cons (pv 1) pa_nil)))
      (pss_one (ps_ret (pe_call G3 hr (by rfl) m3 k3 b3 .nil pass0 (pa_cons (pv 0) (pa_cons (pv 1) pa_nil)))))), ?_⟩
    refine ⟨_, rfl, a, l, rfl, hL.sq, hL.nm, fun H1 s1 => ⟨_, rfl, _, rfl, by omega, by omega, ?_⟩⟩
    exact ⟨_, rfl, _, rfl, a, l, n, rfl, (hL.same s1).sq, hL.len, hL.few, fun H2 p s2 h2 => k H2 p (s1.trans s2) h2⟩
theorem sub_first {pre t rest : List Str} {z : Str} (h : z ∉ pre) : (z :: rest).Sublist (pre ++ z :: t) ↔ rest.Sublist t :=
  ⟨fun s => tail_sub (skip_subs s h), fun s => (s.cons_cons z).trans (List.sublist_append_right _ _)⟩
theorem drop_first {l : List Str} {z : Str} {p q : Nat} (hpq : p ≤ q) (hq : l[q]? = some z) (hn : ∀ m, p ≤ m → m < q → l[m]? ≠ some z) : ∃ pre, l.drop p = pre ++ z :: l.drop (q + 1) ∧ z ∉ pre := by
  obtain ⟨hh, e⟩ := List.getElem?_eq_some_iff.mp hq
  refine ⟨(l.drop p).take (q - p), ?_, fun hm => ?_⟩
  · have h1 : l.drop q = z :: l.drop (q + 1) := by rw [List.drop_eq_getElem_cons hh, e]
    have h2 : l.drop q = (l.drop p).drop (q - p) := by rw [List.drop_drop]; congr 1; omega
    rw [← h1, h2, List.take_append_drop]
  · obtain ⟨j, hj, e⟩ := List.mem_iff_getElem.mp hm
    rw [List.length_take, List.length_drop] at hj
    rw [List.getElem_take, List.getElem_drop] at e
    exact hn (p + j) (by omega) (by omega) (by rw [List.getElem?_eq_getElem (by omega), e])
theorem sub_none {l rest : List Str} {z : Str} {p : Nat} (hn : ∀ m, p ≤ m → l[m]? ≠ some z) : ¬ (z :: rest).Sublist (l.drop p) := fun s => by
  have hm : z ∈ l.drop p := s.subset (by simp)
  obtain ⟨j, hj, e⟩ := List.mem_iff_getElem.mp hm
  rw [List.length_drop] at hj
  rw [List.getElem_drop] at e
  exact hn (p + j) (by omega) (by rw [List.getElem?_eq_getElem (by omega), e])
theorem pbh_cases (l : List Str) (z : Str) (i : Int) : (∃ n : Nat, pbh l z i = some n ∧ i < (n : Int) ∧ l[n]? = some z ∧ ∀ m : Nat, m < n → i < (m : Int) → l[m]? ≠ some z) ∨ (pbh l z i = none ∧ ∀ m : Nat, i < (m : Int) → l[m]? ≠ some z) := by
  cases e : pbh l z i with
  | none =>
    refine .inr ⟨rfl, fun m hm q => ?_⟩
    unfold pbh at e
    rw [List.find?_eq_none] at e
    obtain ⟨hh, _⟩ := List.getElem?_eq_some_iff.mp q
    have := e m (List.mem_range.mpr hh)
    simp [hm, q] at this
  | some n =>
    refine .inl ⟨n, rfl, ?_⟩
    unfold pbh at e
    rw [List.find?_range_eq_some] at e
    obtain ⟨h1, _, h3⟩ := e
    rw [Bool.and_eq_true, decide_eq_true_eq, decide_eq_true_eq] at h1
    refine ⟨h1.1, h1.2, fun m hm him q => ?_⟩
    have := h3 m hm
    simp [him, q] at this
theorem sc22 : FnScope ["row", "log", "at", "name"] ["row", "log"] (defScope (top 22)) := ⟨rfl, rfl, rfl, by decide +kernel, rfl, by decide +kernel, by decide +kernel⟩
def spEndIn : Sp := fun vs H Q _ => ∃ (r a : Addr) (row l : List Str), vs = [.ref r, .ref a] ∧ H r = some (.lst (row.map V.str)) ∧ H a = some (.tup (l.map V.str)) ∧ l.length ≤ 1000 ∧ ∀ v : V, (v = .non ↔ ¬ row.Sublist l) → Q v H
theorem ok_endIn {f : Addr} {fd : FuncData} (D : Df K mg "end_in" (top 22) ["row", "log"] f fd) (N : Have P w K mg base 1 "place_behind" ["log", "name", "at"] spPlaceBehind) : FnOk P w K mg base CX0 2 f fd ["row", "log"] spEndIn := by
  obtain ⟨f1, fd1, G1, m1, k1, b1⟩ := N
  refine D.F.ok sc22 (fun vs H Q E h => ?_) (fun cdv A outer s H vs Q E hr h => ?_)
  · obtain ⟨r, a, row, l, rfl, _⟩ := h
    rfl
  · obtain ⟨r, a, row, l, rfl, hR, hS, hl, k⟩ := h
    refine ⟨_, pss_cons (ps_set (i := 2) sc22.nd rfl (.inl rfl) (pe_un un_neg pe_int))
      (pss_cons (ps_for PassesOwn.never rfl (pi_list (pv 0)) (pg_name (i := 3) sc22.nd rfl (.inl rfl))
        (pss_cons (ps_set (i := 2) sc22.nd rfl (.inl rfl) (pe_call G1 hr (by rfl) m1 k1 b1 .nil pass0 (pa_cons (pv 1) (pa_cons (pv 3) (pa_cons (pv 2) pa_nil)))))
        (pss_one (ps_if (pt_cmpR op_isN (pv 2) pe_non (by rfl)) (pss_one (ps_ret pe_non)) pss_nil))))
      (pss_one (ps_ret (pv 2)))), ?_⟩
    refine ⟨_, rfl, ?_⟩
    refine ⟨_, rfl, r, rfl, ⟨_, SqL.of hR⟩, for_list (K := K) (a := r) (xs := row.map V.str) (fun i σ H' => ∃ (p : Int) (v3 : Option V), σ = [some (.ref r), some (.ref a), some (.int p), v3] ∧ H' = H ∧ -1 ≤ p ∧ p < 1000 ∧ (row.Sublist l ↔ (row.drop i).Sublist (l.drop (p + 1).toNat)))
      ⟨-1, none, rfl, rfl, by decide, by decide, Iff.rfl⟩ (fun i σ H' _ ⟨_, _, _, e, _⟩ => by rw [e]; exact SqL.of hR) (fun i x σ H' hi ⟨p, v3, e, e2, h0, h1, hiff⟩ => ?_) (fun σ H' ⟨p, v3, e, e2, h0, h1, hiff⟩ => ?_)⟩
    · obtain ⟨hil, ex, et⟩ := map_get hi
      subst ex e e2
      have hdrop : row.drop i = row[i] :: row.drop (i + 1) := List.drop_eq_getElem_cons hil
      rw [hdrop] at hiff
      refine ⟨_, rfl, _, rfl, _, rfl, a, l, row[i], p, rfl, hS, hl, h0, by omega, ?_⟩
      rcases pbh_cases l row[i] p with ⟨n, e, q1, q2, q3⟩ | ⟨e, q3⟩
      · rw [e]
        obtain ⟨hh, _⟩ := List.getElem?_eq_some_iff.mp q2
        refine ⟨_, rfl, rfl, _, rfl, iteF ?_⟩
        refine ⟨(n : Int), _, rfl, rfl, by omega, by omega, ?_⟩
        obtain ⟨pre, e1, e2⟩ := drop_first (l := l) (z := row[i]) (p := (p + 1).toNat) (q := n) (by omega) q2 (fun m hm1 hm2 => q3 m hm2 (by omega))
        rw [hiff, e1, sub_first e2, show ((n : Int) + 1).toNat = n + 1 by omega]
      · rw [e]
        refine ⟨_, rfl, rfl, _, rfl, iteT (k _ (Iff.intro (fun _ s => ?_) (fun _ => rfl)))⟩
        exact sub_none (fun m hm => q3 m (by omega)) (hiff.mp s)
    · subst e e2
      refine ⟨_, rfl, k _ (Iff.intro (fun z => nomatch z) (fun s => absurd (hiff.mpr ?_) s))⟩
      rw [List.length_map, List.drop_length]
      exact List.nil_sublist _
end
end G

end

/-! C1 -/
section
set_option maxHeartbeats 4000000
namespace G
open PySem L2 GK Si M
theorem putF_same (f : Str) (u v : V) : ∀ fs : List (Str × V), putF f v (putF f u fs) = putF f v fs
  | [] => by
    show (if f = f then [(f, v)] else _) = [(f, v)]
    rw [if_pos rfl]
  | (g, x) :: r => by
    by_cases e : g = f
    · show putF f v (if g = f then (g, u) :: r else (g, x) :: putF f u r) = if g = f then (g, v) :: r else (g, x) :: putF f v r
      rw [if_pos e, if_pos e]
      show (if g = f then (g, v) :: r else _) = _
      rw [if_pos e]
    · show putF f v (if g = f then (g, u) :: r else (g, x) :: putF f u r) = if g = f then (g, v) :: r else (g, x) :: putF f v r
      rw [if_neg e, if_neg e]
      show (if g = f then _ else (g, x) :: putF f v (putF f u r)) = _
      rw [if_neg e, putF_same f u v r]
theorem putF_comm {f g : Str} (u v w : V) (h : ¬ g = f) : ∀ fs : List (Str × V), fs.lookup f = some w → putF f v (putF g u fs) = putF g u (putF f v fs)
  | [], hl => by cases hl
  | (k, x) :: r, hl => by
    have e1 : ∀ (a : Str) (z : V), putF a z ((k, x) :: r) = if k = a then (k, z) :: r else (k, x) :: putF a z r := fun _ _ => rfl
    by_cases ef : k = f
    · have eg : ¬ k = g := fun q => h (q.symm.trans ef)
      rw [e1 g, if_neg eg, e1 f, if_pos ef]
      show (if k = f then (k, v) :: putF g u r else _) = if k = g then _ else (k, v) :: putF g u r
      rw [if_pos ef, if_neg eg]
    · have hl' : r.lookup f = some w := by
        have : (f == k) = false := by
          apply beq_eq_false_iff_ne.mpr
          exact fun q => ef q.symm
        rw [List.lookup_cons, this] at hl
        exact hl
      by_cases eg : k = g
      · rw [e1 g, if_pos eg, e1 f, if_neg ef]
        show (if k = f then _ else (k, u) :: putF f v r) = if k = g then (k, u) :: putF f v r else _
        rw [if_neg ef, if_pos eg]
      · rw [e1 g, if_neg eg, e1 f, if_neg ef]
        show (if k = f then _ else (k, x) :: putF f v (putF g u r)) = if k = g then _ else (k, x) :: putF g u (putF f v r)
        rw [if_neg ef, if_neg eg, putF_comm u v w h r hl']
/-! ### the attributes -/
def sf (n t : V) : List (Str × V) := putF "own_left" t (putF "own_k" n [])
def mf (a s t : V) : List (Str × V) := putF "kept" t (putF "standing" s (putF "ahead" a []))
def bf (a h : V) : List (Str × V) := putF "held" h (putF "around" a [])
def kf (n m b : V) : List (Str × V) := putF "block" b (putF "now" m (putF "own_k" n []))
theorem sf_k (n t : V) : (sf n t).lookup ("own_k" : Str) = some n := by unfold sf; rw [lookup_putF, if_neg (by decide +kernel), lookup_putF, if_pos rfl]
theorem sf_left (n t : V) : (sf n t).lookup ("own_left" : Str) = some t := by unfold sf; rw [lookup_putF, if_pos rfl]
theorem mf_ahead (a s t : V) : (mf a s t).lookup ("ahead" : Str) = some a := by unfold mf; rw [lookup_putF, if_neg (by decide +kernel), lookup_putF, if_neg (by decide +kernel), lookup_putF, if_pos rfl]
theorem mf_standing (a s t : V) : (mf a s t).lookup ("standing" : Str) = some s := by unfold mf; rw [lookup_putF, if_neg (by decide +kernel), lookup_putF, if_pos rfl]
theorem mf_kept (a s t : V) : (mf a s t).lookup ("kept" : Str) = some t := by unfold mf; rw [lookup_putF, if_pos rfl]
theorem bf_around (a h : V) : (bf a h).lookup ("around" : Str) = some a := by unfold bf; rw [lookup_putF, if_neg (by decide +kernel), lookup_putF, if_pos rfl]
theorem bf_held (a h : V) : (bf a h).lookup ("held" : Str) = some h := by unfold bf; rw [lookup_putF, if_pos rfl]
theorem kf_k (n m b : V) : (kf n m b).lookup ("own_k" : Str) = some n := by unfold kf; rw [lookup_putF, if_neg (by decide +kernel), lookup_putF, if_neg (by decide +kernel), lookup_putF, if_pos rfl]
theorem kf_now (n m b : V) : (kf n m b).lookup ("now" : Str) = some m := by unfold kf; rw [lookup_putF, if_neg (by decide +kernel), lookup_putF, if_pos rfl]
theorem kf_block (n m b : V) : (kf n m b).lookup ("block" : Str) = some b := by unfold kf; rw [lookup_putF, if_pos rfl]
theorem kf_no (n m b : V) {x : Str} (h1 : ¬ x = "block") (h2 : ¬ x = "now") (h3 : ¬ x = "own_k") : (kf n m b).lookup x = none := by
  unfold kf; rw [lookup_putF, if_neg h1, lookup_putF, if_neg h2, lookup_putF, if_neg h3]
  all_goals rfl
theorem sf_no (n t : V) {x : Str} (h1 : ¬ x = "own_left") (h3 : ¬ x = "own_k") : (sf n t).lookup x = none := by
  unfold sf; rw [lookup_putF, if_neg h1, lookup_putF, if_neg h3]
  all_goals rfl
theorem kf_putnow (n m b v : V) : putF "now" v (kf n m b) = kf n v b := by
  unfold kf
  rw [putF_comm b v m (by decide +kernel) _ (by rw [lookup_putF, if_pos rfl]), putF_same]
theorem kf_putblock (n m b v : V) : putF "block" v (kf n m b) = kf n m v := by unfold kf; rw [putF_same]
theorem len_putF (f : Str) (v : V) : ∀ fs : List (Str × V), (putF f v fs).length ≤ fs.length + 1
  | [] => Nat.le_refl _
  | (g, x) :: r => by
    have := len_putF f v r
    show (if g = f then (g, v) :: r else (g, x) :: putF f v r).length ≤ r.length + 1 + 1
    split
    · show r.length + 1 ≤ _; omega
    · show (putF f v r).length + 1 ≤ _; omega
theorem kf_len (n m b : V) : (kf n m b).length < 1000 := by
  have h1 := len_putF "own_k" n []
  have h2 := len_putF "now" m (putF "own_k" n [])
  have h3 := len_putF "block" b (putF "now" m (putF "own_k" n []))
  unfold kf
  simp only [List.length_nil] at h1
  omega
/-- a class as the top has made it -/
structure CF (K : PySem.W.Frag) (mg : Str → Option Value) (x : Str) (C : Addr) (as : List Str) : Prop where
  cl : Cls K C
  no : ∀ f ∈ as, NoAttr K C f
  m : mg x = some (.ref C)
section
variable (P : Program) (w : World) (K : PySem.W.Frag) (mg : Str → Option Value) (base : Heap)
def HaveM (k : Nat) (C : Addr) (m : Str) (ps : List Str) (sp : Sp) : Prop := ∃ f fd, FnOk P w K mg base CX0 k f fd ps sp ∧ Meth K C m f ∧ Binds K fd ps []
def HaveP (k : Nat) (C : Addr) (x : Str) (sp : Sp) : Prop := ∃ p g fd, FnOk P w K mg base CX0 k g fd ["self"] sp ∧ PropOf K C x p g ∧ Binds K fd ["self"] []
def HaveK (k : Nat) (x : Str) (C : Addr) (ps : List Str) (sp : Sp) : Prop := ∃ f fd, FnOk P w K mg base CX0 k f fd ps sp ∧ Mk K C f ∧ Binds K fd ps [] ∧ mg x = some (.ref C)
end
/-- a method of a class, as it stands -/
structure Mt (K : PySem.W.Frag) (C : Addr) (m q : Str) (st : Stmt) (ps : List Str) (f : Addr) (fd : FuncData) : Prop where
  F : Fun K m q st f fd
  at_ : PySem.W.findIn K (.ref C) m = some (some (.ref f))
  fn : PySem.W.isFn K (.ref f) = true
  b : Binds K fd ps []
structure Pt (K : PySem.W.Frag) (C : Addr) (m q : Str) (st : Stmt) (p g : Addr) (fd : FuncData) : Prop where
  F : Fun K m q st g fd
  pr : PropOf K C m p g
  b : Binds K fd ["self"] []
theorem Mt.have {P : Program} {w : World} {K : PySem.W.Frag} {mg : Str → Option Value} {base : Heap} {k : Nat} {C : Addr} {m q : Str} {st : Stmt} {ps : List Str} {f : Addr} {fd : FuncData} {sp : Sp} (D : Mt K C m q st ps f fd) (h : FnOk P w K mg base CX0 k f fd ps sp) : HaveM P w K mg base k C m ps sp := ⟨f, fd, h, ⟨D.at_, D.fn, D.F.kp⟩, D.b⟩
theorem Pt.have {P : Program} {w : World} {K : PySem.W.Frag} {mg : Str → Option Value} {base : Heap} {k : Nat} {C : Addr} {m q : Str} {st : Stmt} {p g : Addr} {fd : FuncData} {sp : Sp} (D : Pt K C m q st p g fd) (h : FnOk P w K mg base CX0 k g fd ["self"] sp) : HaveP P w K mg base k C m sp := ⟨p, g, fd, h, D.pr, D.b⟩
theorem Mt.haveK {P : Program} {w : World} {K : PySem.W.Frag} {mg : Str → Option Value} {base : Heap} {k : Nat} {C : Addr} {q x : Str} {st : Stmt} {ps : List Str} {f : Addr} {fd : FuncData} {sp : Sp} (D : Mt K C "__init__" q st ps f fd) (h : FnOk P w K mg base CX0 k f fd ps sp) (hm : PySem.W.makesIn K C = true) (hk : PySem.W.keepIn K (.ref C) = true) (m : mg x = some (.ref C)) : HaveK P w K mg base k x C ps sp := ⟨f, fd, h, ⟨hm, D.at_, D.fn, hk⟩, D.b, m⟩
/-- the classes' statements -/
def inCl (i j : Nat) : Stmt := inClass (top i) j
/-- a summary stands at p -/
structure Sm (C : Addr) (H : Hp) (p : Addr) (n : Nat) (us : List Str) : Prop where
  k6 : n ≤ 6
  ob : ∃ dx t, H p = some (.ins C dx (sf (.int (n : Int)) (.ref t))) ∧ H t = some (.tup (us.map V.str))
  nm : ∀ z ∈ us, Nm z
  len : us.length ≤ 1000
  few : Few us
theorem Sm.fr {C : Addr} {S : List Addr} {H H' : Hp} {p : Addr} {n : Nat} {us : List Str} (h : Sm C H p n us) (e : ∀ b o, H b = some o → b ∉ S → H' b = some o) (hS : ∀ s ∈ S, ∃ D dx fs, H s = some (.ins D dx fs)) (hp : p ∉ S) : Sm C H' p n us := by
  obtain ⟨dx, t, h1, h2⟩ := h.ob
  refine ⟨h.k6, ⟨dx, t, e _ _ h1 hp, e _ _ h2 fun hm => ?_⟩, h.nm, h.len, h.few⟩
  obtain ⟨D, dx', fs, e'⟩ := hS t hm
  rw [e'] at h2
  cases h2
theorem Sm.same {C : Addr} {H H' : Hp} {p : Addr} {n : Nat} {us : List Str} (h : Sm C H p n us) (e : Same H H') : Sm C H' p n us := by
  obtain ⟨dx, t, h1, h2⟩ := h.ob
  exact ⟨h.k6, ⟨dx, t, e _ _ h1, e _ _ h2⟩, h.nm, h.len, h.few⟩
theorem Few.sub {l l' : List Str} (h : Few l) (s : ∀ z ∈ l', z ∈ l) : Few l' := by
  obtain ⟨N, h1, h2⟩ := h
  exact ⟨N, h1, fun z hz => h2 z (s z hz)⟩
theorem Lg.can {H H' : Hp} {a t : Addr} {l : List Str} (h : Lg H a l) (n : Nat) (e : H' t = some (.tup ((canS n l).map V.str))) : Lg H' t (canS n l) :=
  ⟨.inr e, fun z hz => h.nm z (canS_mem hz), Nat.le_trans (canS_len n l) h.len, h.few.sub fun z hz => canS_mem hz⟩
theorem Sm.lg {C : Addr} {H : Hp} {p : Addr} {n : Nat} {us : List Str} (h : Sm C H p n us) : ∃ dx t, H p = some (.ins C dx (sf (.int (n : Int)) (.ref t))) ∧ H t = some (.tup (us.map V.str)) ∧ Lg H t us := by
  obtain ⟨dx, t, h1, h2⟩ := h.ob
  exact ⟨dx, t, h1, h2, .inr h2, h.nm, h.len, h.few⟩
end G

end

/-! D7 -/
section
set_option maxHeartbeats 4000000
namespace G
open PySem L2 GK Si M
section
variable {P : Program} {w : World} {K : PySem.W.Frag} {mg : Str → Option Value} {base : Heap}
/-! ### a getter of one attribute -/
theorem scSelf {st : Stmt} (h : FnScope ["self"] ["self"] (defScope st)) : FnScope ["self"] ["self"] (defScope st) := h
theorem ok_get {C g : Addr} {m q f : Str} {st : Stmt} {fd : FuncData} {p1 p2 p3 : Pos} (F : Fun K m q st g fd) (S : FnScope ["self"] ["self"] (defScope st)) (hb : defBody st = [.Return (some (.Attribute (.Name "self" p1) f p2)) p3]) (c : Cls K C) (n : NoAttr K C f) : FnOk P w K mg base CX0 1 g fd ["self"] (getSp C f) := by
  refine F.ok S (fun vs H Q E h => ?_) (fun cdv A outer s H vs Q E hr h => ?_)
  · obtain ⟨a, dx, fs, v, e, _⟩ := h
    rw [e]
    rfl
  · obtain ⟨a, dx, fs, v, e, ea, l, q⟩ := h
    subst e
    rw [hb]
    refine ⟨_, pss_one (ps_ret (pe_fld (pe_var (i := 0) rfl ((S.par "self" (List.Mem.head _)).elim (fun z => .inl z) (fun z => .inr (.inl z)))) rfl)), ?_⟩
    exact ⟨.ref a, rfl, a, C, dx, fs, v, rfl, ea, c, n, l, q⟩
/-! ### Summary -/
theorem sc32_0 : FnScope ["self", "k", "log"] ["self", "k", "log"] (defScope (inCl 32 0)) := ⟨rfl, rfl, rfl, by decide +kernel, rfl, by decide +kernel, by decide +kernel⟩
theorem sc32_1 : FnScope ["self"] ["self"] (defScope (inCl 32 1)) := ⟨rfl, rfl, rfl, by decide +kernel, rfl, by decide +kernel, by decide +kernel⟩
theorem sc32_2 : FnScope ["self"] ["self"] (defScope (inCl 32 2)) := ⟨rfl, rfl, rfl, by decide +kernel, rfl, by decide +kernel, by decide +kernel⟩
theorem sc32_4 : FnScope ["self", "row"] ["self", "row"] (defScope (inCl 32 4)) := ⟨rfl, rfl, rfl, by decide +kernel, rfl, by decide +kernel, by decide +kernel⟩
theorem sc32_5 : FnScope ["self", "other"] ["self", "other"] (defScope (inCl 32 5)) := ⟨rfl, rfl, rfl, by decide +kernel, rfl, by decide +kernel, by decide +kernel⟩
theorem sc32_6 : FnScope ["self", "other"] ["self", "other"] (defScope (inCl 32 6)) := ⟨rfl, rfl, rfl, by decide +kernel, rfl, by decide +kernel, by decide +kernel⟩
theorem sc32_12 : FnScope ["self", "k"] ["self", "k"] (defScope (inCl 32 12)) := ⟨rfl, rfl, rfl, by decide +kernel, rfl, by decide +kernel, by decide +kernel⟩
def spSumInit (C : Addr) : Sp := fun vs H Q _ => ∃ (x dx a : Addr) (l : List Str) (n : Nat), vs = [.ref x, .int (n : Int), .ref a] ∧ H x = some (.ins C dx []) ∧ Lg H a l ∧ n ≤ 6 ∧ ∀ H', Sm C H' x n (canS n l) → (∀ b o, H b = some o → b ≠ x → H' b = some o) → Q .non H'
theorem ok_sumInit {C f : Addr} {fd : FuncData} (D : Mt K C "__init__" "Summary.__init__" (inCl 32 0) ["self", "k", "log"] f fd) (T : CF K mg "Summary" C ["own_k", "own_left"]) (N1 : Have P w K mg base 3 "need_log" ["log"] spNeedLog) (N2 : Have P w K mg base 2 "need_k" ["k"] spNeedK) (N3 : Have P w K mg base 4 "canonical_of" ["log", "k"] spCanon) : FnOk P w K mg base CX0 5 f fd ["self", "k", "log"] (spSumInit C) := by
  obtain ⟨f1, fd1, G1, m1, k1, b1⟩ := N1
  obtain ⟨f2, fd2, G2, m2, k2, b2⟩ := N2
  obtain ⟨f3, fd3, G3, m3, k3, b3⟩ := N3
  refine D.F.ok sc32_0 (fun vs H Q E h => ?_) (fun cdv A outer s H vs Q E hr h => ?_)
  · obtain ⟨x, dx, a, l, n, rfl, _⟩ := h
    rfl
  · obtain ⟨x, dx, a, l, n, rfl, hx, hL, hn, k⟩ := h
    refine ⟨_, pss_cons (ps_expr (pe_call G2 (hr.mono (by decide)) (by rfl) m2 k2 b2 .nil pass0 (pa_cons (pv 1) pa_nil)))
      (pss_cons (ps_expr (pe_call G1 (hr.mono (by decide)) (by rfl) m1 k1 b1 .nil pass0 (pa_cons (pv 2) pa_nil)))
      (pss_cons (ps_fld (pv 0) (pv 1) rfl)
      (pss_one (ps_fld (pv 0) (pe_call G3 hr (by rfl) m3 k3 b3 .nil pass0 (pa_cons (pv 2) (pa_cons (pv 1) pa_nil))) rfl)))), ?_⟩
    refine ⟨_, rfl, _, rfl, by omega, by omega, _, rfl, a, l, rfl, hL.sq, hL.nm, fun H1 s1 => ?_⟩
    refine ⟨_, rfl, _, rfl, x, C, dx, _, rfl, s1 _ _ hx, T.cl, T.no _ (by simp), (by show 0 < 1000; decide), ?_⟩
    have hL1 : Lg (upd H1 x (.ins C dx (putF "own_k" (.int n) []))) a l := by
      refine ⟨?_, hL.nm, hL.len, hL.few⟩
      rcases (hL.same s1).sq with h | h
      · exact .inl (by rw [upd_ne (ne_of h (s1 _ _ hx) (by intro z; cases z))]; exact h)
      · exact .inr (by rw [upd_ne (ne_of h (s1 _ _ hx) (by intro z; cases z))]; exact h)
    refine ⟨_, rfl, _, rfl, a, l, n, rfl, hL1.sq, hL.len, hL.few, fun H2 t s2 h2 => ?_⟩
    have hx2 := s2 _ _ upd_same
    refine ⟨_, rfl, x, C, dx, _, rfl, hx2, T.cl, T.no _ (by simp), (by show 1 < 1000; decide), ?_⟩
    have ntx : t ≠ x := ne_of h2 hx2 (by intro z; cases z)
    have h2' : upd H2 x (.ins C dx (putF "own_left" (.ref t) (putF "own_k" (.int n) []))) t = some (.tup ((canS n l).map V.str)) := by rw [upd_ne ntx]; exact h2
    have hc := hL.can n h2'
    refine k _ ⟨hn, ⟨dx, t, upd_same, h2'⟩, hc.nm, hc.len, hc.few⟩ fun b o e hb => ?_
    rw [upd_ne hb]
    exact s2 _ _ (by rw [upd_ne hb]; exact s1 _ _ e)
def spSumIn (C : Addr) : Sp := fun vs H Q _ => ∃ (p r : Addr) (n : Nat) (us row : List Str), vs = [.ref p, .ref r] ∧ Sm C H p n us ∧ H r = some (.lst (row.map V.str)) ∧ (∀ z ∈ row, Nm z) ∧ ∀ (b : Bool) H', (b = true ↔ row.length ≤ n ∧ row.Sublist us) → Same H H' → Q (.bl b) H'
theorem ok_sumIn {C f : Addr} {fd : FuncData} (D : Mt K C "__contains__" "Summary.__contains__" (inCl 32 4) ["self", "row"] f fd) (B : Bi mg) (T : CF K mg "Summary" C ["own_k", "own_left"]) (N1 : Have P w K mg base 3 "are_names" ["value"] spAreNames) (N2 : Have P w K mg base 2 "end_in" ["row", "log"] spEndIn) : FnOk P w K mg base CX0 4 f fd ["self", "row"] (spSumIn C) := by
  obtain ⟨f1, fd1, G1, m1, k1, b1⟩ := N1
  obtain ⟨f2, fd2, G2, m2, k2, b2⟩ := N2
  refine D.F.ok sc32_4 (fun vs H Q E h => ?_) (fun cdv A outer s H vs Q E hr h => ?_)
  · obtain ⟨p, r, n, us, row, rfl, _⟩ := h
    rfl
  · obtain ⟨p, r, n, us, row, rfl, hp, hR, hN, k⟩ := h
    obtain ⟨dx, t, h1, h2, hL⟩ := hp.lg
    refine ⟨_, pss_one (ps_ret (pe_and (pe_call G1 hr (by rfl) m1 k1 b1 .nil pass0 (pa_cons (pv 1) pa_nil)) (pe_and (pe_cmpR op_le (pe_callB call_len_seq (by rfl) B.len PySem.boot_len (pa_cons (pv 1) pa_nil)) (pe_fld (pv 0) rfl) (by rfl))
      (pe_one (pe_cmpR op_notN (pe_call G2 (hr.mono (by decide)) (by rfl) m2 k2 b2 .nil pass0 (pa_cons (pv 1) (pa_cons (pe_fld (pv 0) rfl) pa_nil))) pe_non (by rfl)))))), ?_⟩
    refine ⟨_, rfl, r, row, rfl, .inl hR, hN, fun H1 s1 => ⟨_, rfl, iteT ?_⟩⟩
    refine ⟨_, rfl, r, _, rfl, .inl (SqL.of (s1 _ _ hR)), _, rfl, p, C, dx, _, _, rfl, s1 _ _ h1, T.cl, T.no _ (by simp), sf_k _ _, _, _, rfl, rfl, _, rfl, ?_⟩
    rw [List.length_map]
    refine ite2 (fun c => ?_) (fun c => ?_)
    · have c' : row.length ≤ n := by have := of_decide_eq_true c; omega
      refine ⟨_, rfl, _, rfl, p, C, dx, _, _, rfl, s1 _ _ h1, T.cl, T.no _ (by simp), sf_left _ _, r, t, row, us, rfl, s1 _ _ hR, s1 _ _ h2, hp.len, fun v hv => ⟨rfl, k _ _ ?_ s1⟩⟩
      have : (!decide (v = V.non)) = true ↔ ¬ v = V.non := by simp
      rw [this, hv]
      exact ⟨fun q => ⟨c', Classical.byContradiction q⟩, fun q q2 => q2 q.2⟩
    · refine k _ _ ?_ s1
      exact Iff.intro (fun z => nomatch z) (fun q => absurd (decide_eq_true (by have := q.1; omega)) c)
/-- isinstance of an own class -/
structure IsC (K : PySem.W.Frag) (C : Addr) : Prop where
  ha : PySem.W.findIn K (.ref C) "__class__" = some (some (.builtin "object.__class__"))
  hn : PySem.W.specialIn K (.builtin "object.__class__") "__get__" = some (some (.builtin "getset_descriptor.__get__"))
  htk : PySem.W.takesIn K (.builtin "object.__class__") = some true
  hm : PySem.W.mroIn K C (.type "object") = some true
  one : PySem.W.kitOne K (.ref C) (.ref C) = some true
theorem letters_small : ∀ c ∈ letters.cps.toList, c < 0x110000 := by decide +kernel
theorem strOk_nm {z : Str} (h : Nm z) : PyData.strOk z = true := by
  unfold PyData.strOk
  rw [← Array.all_toList, List.all_eq_true]
  intro c hc
  exact decide_eq_true (letters_small c (h.2.2 c hc))
theorem eqv_strs : ∀ us ws : List Str, PyData.eqvAll (us.map PyData.str) (ws.map PyData.str) = decide (us = ws)
  | [], [] => by simp [PyData.eqvAll]
  | [], _ :: _ => by simp [PyData.eqvAll]
  | _ :: _, [] => by simp [PyData.eqvAll]
  | u :: us, z :: ws => by
    show (PyData.eqv (.str u) (.str z) && PyData.eqvAll (us.map PyData.str) (ws.map PyData.str)) = _
    rw [eqv_strs us ws, show PyData.eqv (.str u) (.str z) = (u == z) by simp [PyData.eqv], Bool.eq_iff_iff]
    simp
theorem shaped_strs {us : List Str} (h : ∀ z ∈ us, Nm z) : SeqAt.shaped (.tuple (us.map PyData.str)) = true := by
  have h1 : ∀ l : List Str, (∀ z ∈ l, Nm z) → PyData.canLayAll0 (l.map PyData.str) = true := fun l => by
    induction l with
    | nil => intro _; simp [PyData.canLayAll0]
    | cons z l ih =>
      intro hl
      have e := strOk_nm (hl z (by simp))
      have e2 := ih fun y hy => hl y (by simp [hy])
      simp [PyData.canLayAll0, PyData.canLay0, e, e2]
  have h2 : ∀ l : List Str, PyData.depthAll (l.map PyData.str) = 0 := fun l => by
    induction l with
    | nil => simp [PyData.depthAll]
    | cons z l ih => simp [PyData.depthAll, PyData.depth, ih]
  show (PyData.canLay0 (.tuple (us.map PyData.str)) && decide (PyData.depth (.tuple (us.map PyData.str)) ≤ 64)) = true
  rw [Bool.and_eq_true]
  refine ⟨by simp only [PyData.canLay0]; exact h1 us h, decide_eq_true ?_⟩
  simp only [PyData.depth, h2]
  decide
theorem dp_strs {H : Hp} : ∀ us : List Str, DpAll K H (us.map V.str) (us.map PyData.str)
  | [] => .nil
  | z :: us => .cons (.str z) (dp_strs us)
theorem dp_tup {H : Hp} {t : Addr} {us : List Str} (h : H t = some (.tup (us.map V.str))) : Dp K H (.ref t) (.tuple (us.map PyData.str)) := .tup (SqT.of' h) (dp_strs us)
theorem eqv_tups (us ws : List Str) : PyData.eqv (.tuple (us.map PyData.str)) (.tuple (ws.map PyData.str)) = decide (us = ws) := by
  rw [show PyData.eqv (.tuple (us.map PyData.str)) (.tuple (ws.map PyData.str)) = PyData.eqvAll (us.map PyData.str) (ws.map PyData.str) by simp [PyData.eqv], eqv_strs]
def spSumEq (C : Addr) : Sp := fun vs H Q _ => ∃ (p q : Addr) (n m : Nat) (us ws : List Str), vs = [.ref p, .ref q] ∧ Sm C H p n us ∧ Sm C H q m ws ∧ ∀ b : Bool, (b = true ↔ n = m ∧ us = ws) → Q (.bl b) H
theorem ok_sumEq {C f : Addr} {fd : FuncData} (D : Mt K C "__eq__" "Summary.__eq__" (inCl 32 5) ["self", "other"] f fd) (B : Bi mg) (T : CF K mg "Summary" C ["own_k", "own_left"]) (I : IsC K C) : FnOk P w K mg base CX0 2 f fd ["self", "other"] (spSumEq C) := by
  refine D.F.ok sc32_5 (fun vs H Q E h => ?_) (fun cdv A outer s H vs Q E hr h => ?_)
  · obtain ⟨p, q, n, m, us, ws, rfl, _⟩ := h
    rfl
  · obtain ⟨p, q, n, m, us, ws, rfl, hp, hq, k⟩ := h
    obtain ⟨dx, t, h1, h2, hL⟩ := hp.lg
    obtain ⟨dy, t', g1, g2, hL'⟩ := hq.lg
    have hu64 : (A.deeper (PyProof.Rows.envOfC "Summary.__eq__" (defScope (inCl 32 5)) s.heap.objs.size f cdv)).units + 64 < cLine := hr.units
    refine ⟨_, pss_one (ps_ret (pe_and (pe_callB call_isi (by rfl) B.isin (by decide +kernel) (pa_cons (pv 1) (pa_cons (pe_glob (v := .ref C) (by rfl) T.m rfl) pa_nil))) (pe_and (pe_cmpR op_eq (pe_fld (pv 0) rfl) (pe_fld (pv 1) rfl) (nomark _))
      (pe_one (pe_cmpR (op_eqD hu64) (pe_fld (pv 0) rfl) (pe_fld (pv 1) rfl) (by rfl)))))), ?_⟩
    refine ⟨_, rfl, _, _, _, _, _, rfl, .own C, .base (.ins g1 T.cl I.ha I.hn I.htk I.hm), I.one, _, rfl, iteT ?_⟩
    refine ⟨_, rfl, p, C, dx, _, _, rfl, h1, T.cl, T.no _ (by simp), sf_k _ _, _, rfl, q, C, dy, _, _, rfl, g1, T.cl, T.no _ (by simp), sf_k _ _, rfl, _, rfl, ?_⟩
    refine ite2 (fun c => ?_) (fun c => ?_)
    · have c' : n = m := by
        have := of_decide_eq_true c
        injection this with e
        omega
      refine ⟨_, rfl, p, C, dx, _, _, rfl, h1, T.cl, T.no _ (by simp), sf_left _ _, _, rfl, q, C, dy, _, _, rfl, g1, T.cl, T.no _ (by simp), sf_left _ _, _, _, dp_tup h2, dp_tup g2, shaped_strs hp.nm, shaped_strs hq.nm, ?_⟩
      rw [eqv_tups]
      refine k _ ?_
      rw [decide_eq_true_eq]
      exact ⟨fun e => ⟨c', e⟩, fun e => e.2⟩
    · refine k _ (Iff.intro (fun z => nomatch z) fun e => absurd (decide_eq_true ?_) c)
      rw [e.1]
theorem cat_read {H : Hp} {a b : Addr} {xs ys : List V} {Q : VK} (h1 : H a = some (.tup xs)) (h2 : H b = some (.tup ys)) (hl : xs.length + ys.length ≤ sizeLine) (q : ∀ H6 p, Same H H6 → H6 p = some (.tup (xs ++ ys)) → Q (.ref p) H6) : rCatA K (.ref a) (.ref b) H Q := by
  refine ⟨a, b, xs, ys, rfl, rfl, SqT.of' h1, SqT.of' h2, hl, fun e => ?_, fun _ e => ?_, fun _ _ p hp => q _ p (Same.put (Same.refl H) hp) upd_same⟩
  · exact q H b (Same.refl H) (by rw [h2, e]; rfl)
  · exact q H a (Same.refl H) (by rw [h1, e, List.append_nil])
theorem Sm.made {C x : Addr} {H H1 H2 : Hp} {dx : Addr} (nx : H1 x = none) (nd : H1 dx = none) (s : Same H H1) (k : ∀ b o, (upd (upd H1 dx (.own x)) x (.ins C dx [])) b = some o → b ≠ x → H2 b = some o) : Same H H2 := s.trans (Same.made nx nd k)
def spSumAdd (C : Addr) : Sp := fun vs H Q _ => ∃ (p q : Addr) (n : Nat) (us ws : List Str), vs = [.ref p, .ref q] ∧ Sm C H p n us ∧ Sm C H q n ws ∧ us.length + ws.length ≤ 1000 ∧ Few (us ++ ws) ∧ ∀ H' x, Same H H' → Sm C H' x n (canS n (us ++ ws)) → Q (.ref x) H'
theorem ok_sumAdd {C f : Addr} {fd : FuncData} (D : Mt K C "__add__" "Summary.__add__" (inCl 32 6) ["self", "other"] f fd) (B : Bi mg) (T : CF K mg "Summary" C ["own_k", "own_left"]) (I : IsC K C) (N1 : HaveK P w K mg base 5 "Summary" C ["self", "k", "log"] (spSumInit C)) : FnOk P w K mg base CX0 7 f fd ["self", "other"] (spSumAdd C) := by
  obtain ⟨f1, fd1, G1, M1, b1, m1⟩ := N1
  refine D.F.ok sc32_6 (fun vs H Q E h => ?_) (fun cdv A outer s H vs Q E hr h => ?_)
  · obtain ⟨p, q, n, us, ws, rfl, _⟩ := h
    rfl
  · obtain ⟨p, q, n, us, ws, rfl, hp, hq, hl, hF, k⟩ := h
    obtain ⟨dx, t, h1, h2, hL⟩ := hp.lg
    obtain ⟨dy, t', g1, g2, hL'⟩ := hq.lg
    refine ⟨_, pss_cons (ps_if (pt_not (pt_val (pe_callB call_isi (by rfl) B.isin (by decide +kernel) (pa_cons (pv 1) (pa_cons (pe_glob (v := .ref C) (by rfl) T.m rfl) pa_nil))))) pss_never pss_nil)
      (pss_cons (ps_if (pt_cmpR op_ne (pe_fld (pv 0) rfl) (pe_fld (pv 1) rfl) (nomark _)) pss_never pss_nil)
      (pss_one (ps_ret (pe_make M1 G1 hr (by rfl) m1 b1 .nil pass0 (pa_cons (pe_fld (pv 0) rfl) (pa_cons (pe_op op_catA (pe_fld (pv 0) rfl) (pe_fld (pv 1) rfl)) pa_nil)))))), ?_⟩
    refine ⟨_, rfl, _, _, _, _, _, rfl, .own C, .base (.ins g1 T.cl I.ha I.hn I.htk I.hm), I.one, _, rfl, iteF ?_⟩
    refine ⟨_, rfl, p, C, dx, _, _, rfl, h1, T.cl, T.no _ (by simp), sf_k _ _, _, rfl, q, C, dy, _, _, rfl, g1, T.cl, T.no _ (by simp), sf_k _ _, rfl, _, rfl, iteNS rfl ?_⟩
    refine ⟨_, rfl, p, C, dx, _, _, rfl, h1, T.cl, T.no _ (by simp), sf_k _ _, _, rfl, p, C, dx, _, _, rfl, h1, T.cl, T.no _ (by simp), sf_left _ _, _, rfl, q, C, dy, _, _, rfl, g1, T.cl, T.no _ (by simp), sf_left _ _, ?_⟩
    refine cat_read h2 g2 (by rw [List.length_map, List.length_map]; exact Nat.le_of_lt (small1000 hl)) fun H6 c s6 h6 => ?_
    intro x dx' nx nd ne
    rw [← List.map_append] at h6
    have hs : Same H6 (upd (upd H6 dx' (.own x)) x (.ins C dx' [])) := fun b o e => by
      rw [upd_ne (ne_of_none e nx), upd_ne (ne_of_none e nd)]; exact e
    refine ⟨x, dx', c, us ++ ws, n, rfl, upd_same, ⟨.inr (hs _ _ h6), fun z hz => ?_, by rw [List.length_append]; exact hl, hF⟩, hp.k6, fun H' hSm kk => ⟨rfl, k _ x (Sm.made nx nd s6 kk) hSm⟩⟩
    exact (List.mem_append.mp hz).elim (hp.nm z) (hq.nm z)
def spDown (C : Addr) : Sp := fun vs H Q _ => ∃ (p : Addr) (n j : Nat) (us : List Str), vs = [.ref p, .int (j : Int)] ∧ Sm C H p n us ∧ j ≤ n ∧ ∀ H' x, Same H H' → Sm C H' x j (canS j us) → Q (.ref x) H'
theorem ok_down {C f : Addr} {fd : FuncData} (D : Mt K C "down_to" "Summary.down_to" (inCl 32 12) ["self", "k"] f fd) (T : CF K mg "Summary" C ["own_k", "own_left"]) (N2 : Have P w K mg base 2 "need_k" ["k"] spNeedK) (N1 : HaveK P w K mg base 5 "Summary" C ["self", "k", "log"] (spSumInit C)) : FnOk P w K mg base CX0 7 f fd ["self", "k"] (spDown C) := by
  obtain ⟨f1, fd1, G1, M1, b1, m1⟩ := N1
  obtain ⟨f2, fd2, G2, m2, k2, b2⟩ := N2
  refine D.F.ok sc32_12 (fun vs H Q E h => ?_) (fun cdv A outer s H vs Q E hr h => ?_)
  · obtain ⟨p, n, j, us, rfl, _⟩ := h
    rfl
  · obtain ⟨p, n, j, us, rfl, hp, hj, k⟩ := h
    obtain ⟨dx, t, h1, h2, hL⟩ := hp.lg
    have hk6 := hp.k6
    refine ⟨_, pss_cons (ps_expr (pe_call G2 (hr.mono (by decide)) (by rfl) m2 k2 b2 .nil pass0 (pa_cons (pv 1) pa_nil)))
      (pss_cons (ps_if (pt_cmpR op_gt (pv 1) (pe_fld (pv 0) rfl) (by rfl)) pss_never pss_nil)
      (pss_one (ps_ret (pe_make M1 G1 hr (by rfl) m1 b1 .nil pass0 (pa_cons (pv 1) (pa_cons (pe_fld (pv 0) rfl) pa_nil)))))), ?_⟩
    refine ⟨_, rfl, _, rfl, by omega, by omega, ?_⟩
    refine ⟨_, rfl, _, rfl, p, C, dx, _, _, rfl, h1, T.cl, T.no _ (by simp), sf_k _ _, _, _, rfl, rfl, _, rfl, ?_⟩
    refine ite2 (fun c => ?_) (fun _ => ?_)
    · exact absurd (of_decide_eq_true c) (by omega)
    refine ⟨_, rfl, _, rfl, p, C, dx, _, _, rfl, h1, T.cl, T.no _ (by simp), sf_left _ _, ?_⟩
    intro x dx' nx nd ne
    have hs : Same H (upd (upd H dx' (.own x)) x (.ins C dx' [])) := fun b o e => by
      rw [upd_ne (ne_of_none e nx), upd_ne (ne_of_none e nd)]; exact e
    exact ⟨x, dx', t, us, j, rfl, upd_same, hL.same hs, by omega, fun H' hSm kk => ⟨rfl, k _ x (Sm.made nx nd (Same.refl H) kk) hSm⟩⟩
end
end G

end

/-! D8 -/
section
set_option maxHeartbeats 4000000
namespace G
open PySem L2 GK Si M
/-- an address where nothing of a log stands that is kept: a keeper, a list, a dict .. -/
def Off (H : Hp) (s : Addr) : Prop := ∀ o, H s = some o → (∀ xs, o ≠ .tup xs) ∧ ∀ C dx fs, o = .ins C dx fs → fs.lookup ("now" : Str) ≠ none
theorem mf_now (a s t : V) : (mf a s t).lookup ("now" : Str) = none := by
  unfold mf; rw [lookup_putF, if_neg (by decide +kernel), lookup_putF, if_neg (by decide +kernel), lookup_putF, if_neg (by decide +kernel)]
  all_goals rfl
theorem bf_now (a h : V) : (bf a h).lookup ("now" : Str) = none := by
  unfold bf; rw [lookup_putF, if_neg (by decide +kernel), lookup_putF, if_neg (by decide +kernel)]
  all_goals rfl
/-- the moments of a keeper, the last event first -/
def Mom (CM : Addr) (H : Hp) (n : Nat) : Addr → List Str → Prop
  | a, [] => ∃ dx t, H a = some (.ins CM dx (mf .non (.int 0) (.ref t))) ∧ H t = some (.tup [])
  | a, e :: es => ∃ dx t a', H a = some (.ins CM dx (mf (.ref a') (.int ((es.length : Nat) + 1)) (.ref t))) ∧ H t = some (.tup ((canS n (e :: es).reverse).map V.str)) ∧ Mom CM H n a' es
theorem Mom.get {CM : Addr} {H : Hp} {n : Nat} {a : Addr} {es : List Str} (h : Mom CM H n a es) : ∃ dx t v, H a = some (.ins CM dx (mf v (.int ((es.length : Nat) : Int)) (.ref t))) ∧ H t = some (.tup ((canS n es.reverse).map V.str)) := by
  cases es with
  | nil =>
    obtain ⟨dx, t, h1, h2⟩ := h
    exact ⟨dx, t, _, h1, by rw [List.reverse_nil, canS_nil]; exact h2⟩
  | cons e es =>
    obtain ⟨dx, t, a', h1, h2, _⟩ := h
    exact ⟨dx, t, _, by rw [h1]; rfl, h2⟩
theorem Mom.frN {CM : Addr} {H H' : Hp} {n : Nat} {S : List Addr} (e : FrN S H H') (hS : ∀ s ∈ S, Off H s) : ∀ {es : List Str} {a : Addr}, Mom CM H n a es → Mom CM H' n a es := by
  have kt : ∀ {t : Addr} {xs : List V}, H t = some (.tup xs) → H' t = some (.tup xs) := fun h => e _ _ h (fun _ z => by cases z) fun hm => (hS _ hm _ h).1 _ rfl
  have km : ∀ {a dx : Addr} {x y z : V}, H a = some (.ins CM dx (mf x y z)) → H' a = some (.ins CM dx (mf x y z)) := fun h => e _ _ h (fun _ z => by cases z) fun hm => (hS _ hm _ h).2 _ _ _ rfl (mf_now _ _ _)
  intro es
  induction es with
  | nil =>
    intro a h
    obtain ⟨dx, t, h1, h2⟩ := h
    exact ⟨dx, t, km h1, kt h2⟩
  | cons z es ih =>
    intro a h
    obtain ⟨dx, t, a', h1, h2, h3⟩ := h
    exact ⟨dx, t, a', km h1, kt h2, ih h3⟩
theorem Mom.fr {CM : Addr} {H H' : Hp} {n : Nat} {S : List Addr} (e : Fr S H H') (hS : ∀ s ∈ S, Off H s) {es : List Str} {a : Addr} (h : Mom CM H n a es) : Mom CM H' n a es := Mom.frN e.n hS h
theorem Mom.frN' {CM : Addr} {H H' : Hp} {n : Nat} {S : List Addr} {es : List Str} {a : Addr} (h : Mom CM H n a es) (e : FrN S H H') (hS : ∀ s ∈ S, Off H s) : Mom CM H' n a es := Mom.frN e hS h
theorem Mom.same {CM : Addr} {H H' : Hp} {n : Nat} {es : List Str} {a : Addr} (h : Mom CM H n a es) (e : Same H H') : Mom CM H' n a es := h.fr (S := []) (Fr.of e) (by simp)
/-- a keeper stands at p, its events es, the last first -/
structure Kp (CK CM : Addr) (H : Hp) (p : Addr) (n : Nat) (es : List Str) (blk : V) : Prop where
  k6 : n ≤ 6
  ob : ∃ dx m, H p = some (.ins CK dx (kf (.int (n : Int)) (.ref m) blk)) ∧ Mom CM H n m es
  nm : ∀ z ∈ es, Nm z
  len : es.length ≤ 900
  few : Few es
theorem Kp.off {CK CM : Addr} {H : Hp} {p : Addr} {n : Nat} {es : List Str} {blk : V} (h : Kp CK CM H p n es blk) : Off H p := by
  obtain ⟨dx, m, h1, _⟩ := h.ob
  intro o e
  rw [h1] at e
  cases e
  refine ⟨fun xs z => (by cases z), fun C dx' fs z => ?_⟩
  cases z
  rw [kf_now]
  exact fun z => nomatch z
theorem Kp.frN {CK CM : Addr} {H H' : Hp} {p : Addr} {n : Nat} {es : List Str} {blk : V} {S : List Addr} (h : Kp CK CM H p n es blk) (e : FrN S H H') (hS : ∀ s ∈ S, Off H s) (hp : p ∉ S) : Kp CK CM H' p n es blk := by
  obtain ⟨dx, m, h1, h2⟩ := h.ob
  exact ⟨h.k6, ⟨dx, m, e _ _ h1 (fun _ z => by cases z) hp, h2.frN' e hS⟩, h.nm, h.len, h.few⟩
theorem Kp.fr {CK CM : Addr} {H H' : Hp} {p : Addr} {n : Nat} {es : List Str} {blk : V} {S : List Addr} (h : Kp CK CM H p n es blk) (e : Fr S H H') (hS : ∀ s ∈ S, Off H s) (hp : p ∉ S) : Kp CK CM H' p n es blk := h.frN e.n hS hp
theorem Kp.same {CK CM : Addr} {H H' : Hp} {p : Addr} {n : Nat} {es : List Str} {blk : V} (h : Kp CK CM H p n es blk) (e : Same H H') : Kp CK CM H' p n es blk := h.fr (S := []) (Fr.of e) (by simp) (by simp)
/-- a block of the keeper -/
def Bk (CB CM : Addr) (H : Hp) (b : Addr) (around : V) (n : Nat) (es : List Str) : Prop := ∃ dx m, H b = some (.ins CB dx (bf around (.ref m))) ∧ Mom CM H n m es
theorem Bk.frN {CB CM : Addr} {H H' : Hp} {b : Addr} {n : Nat} {es : List Str} {ar : V} {S : List Addr} (h : Bk CB CM H b ar n es) (e : FrN S H H') (hS : ∀ s ∈ S, Off H s) : Bk CB CM H' b ar n es := by
  obtain ⟨dx, m, h1, h2⟩ := h
  exact ⟨dx, m, e _ _ h1 (fun _ z => by cases z) fun hm => (hS _ hm _ h1).2 _ _ _ rfl (bf_now _ _), h2.frN' e hS⟩
theorem Bk.fr {CB CM : Addr} {H H' : Hp} {b : Addr} {n : Nat} {es : List Str} {ar : V} {S : List Addr} (h : Bk CB CM H b ar n es) (e : Fr S H H') (hS : ∀ s ∈ S, Off H s) : Bk CB CM H' b ar n es := h.frN e.n hS
section
variable {P : Program} {w : World} {K : PySem.W.Frag} {mg : Str → Option Value} {base : Heap}
theorem sc34 : FnScope ["self", "ahead", "standing", "kept"] ["self", "ahead", "standing", "kept"] (defScope (inCl 34 0)) := ⟨rfl, rfl, rfl, by decide +kernel, rfl, by decide +kernel, by decide +kernel⟩
theorem sc35 : FnScope ["self", "around", "held"] ["self", "around", "held"] (defScope (inCl 35 0)) := ⟨rfl, rfl, rfl, by decide +kernel, rfl, by decide +kernel, by decide +kernel⟩
theorem sc36_0 : FnScope ["self", "k"] ["self", "k"] (defScope (inCl 36 0)) := ⟨rfl, rfl, rfl, by decide +kernel, rfl, by decide +kernel, by decide +kernel⟩
theorem sc36_1 : FnScope ["self"] ["self"] (defScope (inCl 36 1)) := ⟨rfl, rfl, rfl, by decide +kernel, rfl, by decide +kernel, by decide +kernel⟩
theorem sc36_2 : FnScope ["self"] ["self"] (defScope (inCl 36 2)) := ⟨rfl, rfl, rfl, by decide +kernel, rfl, by decide +kernel, by decide +kernel⟩
theorem sc36_3 : FnScope ["self"] ["self"] (defScope (inCl 36 3)) := ⟨rfl, rfl, rfl, by decide +kernel, rfl, by decide +kernel, by decide +kernel⟩
theorem sc36_4 : FnScope ["self"] ["self"] (defScope (inCl 36 4)) := ⟨rfl, rfl, rfl, by decide +kernel, rfl, by decide +kernel, by decide +kernel⟩
theorem sc36_5 : FnScope ["self", "name", "now"] ["self", "name"] (defScope (inCl 36 5)) := ⟨rfl, rfl, rfl, by decide +kernel, rfl, by decide +kernel, by decide +kernel⟩
theorem sc36_7 : FnScope ["self", "row"] ["self", "row"] (defScope (inCl 36 7)) := ⟨rfl, rfl, rfl, by decide +kernel, rfl, by decide +kernel, by decide +kernel⟩
theorem sc36_8 : FnScope ["self"] ["self"] (defScope (inCl 36 8)) := ⟨rfl, rfl, rfl, by decide +kernel, rfl, by decide +kernel, by decide +kernel⟩
theorem sc36_9 : FnScope ["self"] ["self"] (defScope (inCl 36 9)) := ⟨rfl, rfl, rfl, by decide +kernel, rfl, by decide +kernel, by decide +kernel⟩
theorem sc36_10 : FnScope ["self", "kind", "value", "trace"] ["self", "kind", "value", "trace"] (defScope (inCl 36 10)) := ⟨rfl, rfl, rfl, by decide +kernel, rfl, by decide +kernel, by decide +kernel⟩
theorem sc36_11 : FnScope ["self", "work"] ["self", "work"] (defScope (inCl 36 11)) := ⟨rfl, rfl, rfl, by decide +kernel, rfl, by decide +kernel, by decide +kernel⟩
/-! ### Moment, Block -/
def spMomInit (C : Addr) : Sp := fun vs H Q _ => ∃ (x dx : Addr) (a s t : V), vs = [.ref x, a, s, t] ∧ H x = some (.ins C dx []) ∧ Q .non (upd (upd (upd H x (.ins C dx (putF "ahead" a []))) x (.ins C dx (putF "standing" s (putF "ahead" a [])))) x (.ins C dx (mf a s t)))
theorem ok_momInit {C f : Addr} {fd : FuncData} (D : Mt K C "__init__" "Moment.__init__" (inCl 34 0) ["self", "ahead", "standing", "kept"] f fd) (T : CF K mg "Moment" C ["ahead", "standing", "kept"]) : FnOk P w K mg base CX0 1 f fd ["self", "ahead", "standing", "kept"] (spMomInit C) := by
  refine D.F.ok sc34 (fun vs H Q E h => ?_) (fun cdv A outer s H vs Q E hr h => ?_)
  · obtain ⟨x, dx, a, s', t, rfl, _⟩ := h
    rfl
  · obtain ⟨x, dx, a, s', t, rfl, hx, k⟩ := h
    refine ⟨_, pss_cons (ps_fld (pv 0) (pv 1) rfl) (pss_cons (ps_fld (pv 0) (pv 2) rfl) (pss_one (ps_fld (pv 0) (pv 3) rfl))), ?_⟩
    refine ⟨_, rfl, _, rfl, x, C, dx, _, rfl, hx, T.cl, T.no _ (by simp), (by show 0 < 1000; decide), ?_⟩
    refine ⟨_, rfl, _, rfl, x, C, dx, _, rfl, upd_same, T.cl, T.no _ (by simp), (by show 1 < 1000; decide), ?_⟩
    refine ⟨_, rfl, _, rfl, x, C, dx, _, rfl, upd_same, T.cl, T.no _ (by simp), Nat.lt_of_le_of_lt (len_putF _ _ _) (by show 2 < 1000; decide), ?_⟩
    exact k
theorem sp_mom {C x dx : Addr} {H1 : Hp} {a s t : V} {R : VK} {E : XK} (nx : H1 x = none) (nd : H1 dx = none) (k : ∀ H', Same H1 H' → H' x = some (.ins C dx (mf a s t)) → R .non H') : spMomInit C (.ref x :: ([a, s, t] ++ [])) (upd (upd H1 dx (.own x)) x (.ins C dx [])) R E := by
  refine ⟨x, dx, a, s, t, rfl, upd_same, k _ (Same.made (C := C) nx nd fun b o e hb => ?_) upd_same⟩
  rw [upd_ne hb, upd_ne hb, upd_ne hb]
  exact e
def spBlkInit (C : Addr) : Sp := fun vs H Q _ => ∃ (x dx : Addr) (a h : V), vs = [.ref x, a, h] ∧ H x = some (.ins C dx []) ∧ Q .non (upd (upd H x (.ins C dx (putF "around" a []))) x (.ins C dx (bf a h)))
theorem ok_blkInit {C f : Addr} {fd : FuncData} (D : Mt K C "__init__" "Block.__init__" (inCl 35 0) ["self", "around", "held"] f fd) (T : CF K mg "Block" C ["around", "held"]) : FnOk P w K mg base CX0 1 f fd ["self", "around", "held"] (spBlkInit C) := by
  refine D.F.ok sc35 (fun vs H Q E h => ?_) (fun cdv A outer s H vs Q E hr h => ?_)
  · obtain ⟨x, dx, a, t, rfl, _⟩ := h
    rfl
  · obtain ⟨x, dx, a, t, rfl, hx, k⟩ := h
    refine ⟨_, pss_cons (ps_fld (pv 0) (pv 1) rfl) (pss_one (ps_fld (pv 0) (pv 2) rfl)), ?_⟩
    refine ⟨_, rfl, _, rfl, x, C, dx, _, rfl, hx, T.cl, T.no _ (by simp), (by show 0 < 1000; decide), ?_⟩
    refine ⟨_, rfl, _, rfl, x, C, dx, _, rfl, upd_same, T.cl, T.no _ (by simp), (by show 1 < 1000; decide), ?_⟩
    exact k
theorem sp_blk {C x dx : Addr} {H1 : Hp} {a h : V} {R : VK} {E : XK} (nx : H1 x = none) (nd : H1 dx = none) (k : ∀ H', Same H1 H' → H' x = some (.ins C dx (bf a h)) → R .non H') : spBlkInit C (.ref x :: ([a, h] ++ [])) (upd (upd H1 dx (.own x)) x (.ins C dx [])) R E := by
  refine ⟨x, dx, a, h, rfl, upd_same, k _ (Same.made (C := C) nx nd fun b o e hb => ?_) upd_same⟩
  rw [upd_ne hb, upd_ne hb]
  exact e
/-! ### Keeper -/
def kas : List Str := ["own_k", "now", "block"]
def spKpInit (CK CM : Addr) : Sp := fun vs H Q _ => ∃ (x dx : Addr) (n : Nat), vs = [.ref x, .int (n : Int)] ∧ H x = some (.ins CK dx []) ∧ n ≤ 6 ∧ ∀ H', Kp CK CM H' x n [] .non → (∀ b o, H b = some o → b ≠ x → H' b = some o) → Q .non H'
theorem ok_kpInit {CK CM f : Addr} {fd : FuncData} (D : Mt K CK "__init__" "Keeper.__init__" (inCl 36 0) ["self", "k"] f fd) (T : CF K mg "Keeper" CK kas) (N2 : Have P w K mg base 2 "need_k" ["k"] spNeedK) (N1 : HaveK P w K mg base 1 "Moment" CM ["self", "ahead", "standing", "kept"] (spMomInit CM)) : FnOk P w K mg base CX0 3 f fd ["self", "k"] (spKpInit CK CM) := by
  obtain ⟨f1, fd1, G1, M1, b1, m1⟩ := N1
  obtain ⟨f2, fd2, G2, m2, k2, b2⟩ := N2
  refine D.F.ok sc36_0 (fun vs H Q E h => ?_) (fun cdv A outer s H vs Q E hr h => ?_)
  · obtain ⟨x, dx, n, rfl, _⟩ := h
    rfl
  · obtain ⟨x, dx, n, rfl, hx, hn, k⟩ := h
    refine ⟨_, pss_cons (ps_expr (pe_call G2 hr (by rfl) m2 k2 b2 .nil pass0 (pa_cons (pv 1) pa_nil)))
      (pss_cons (ps_fld (pv 0) (pv 1) rfl)
      (pss_cons (ps_fld (pv 0) (pe_make M1 G1 hr (by rfl) m1 b1 .nil pass0 (pa_cons pe_non (pa_cons pe_int (pa_cons (pe_tup pa_nil) pa_nil)))) rfl)
      (pss_one (ps_fld (pv 0) pe_non rfl)))), ?_⟩
    refine ⟨_, rfl, _, rfl, by omega, by omega, ?_⟩
    refine ⟨_, rfl, _, rfl, x, CK, dx, _, rfl, hx, T.cl, T.no _ (by simp [kas]), (by show 0 < 1000; decide), ?_⟩
    refine ⟨(by show 0 ≤ sizeLine; decide), fun t ht => ?_⟩
    intro m dm hm0 ndm _
    refine sp_mom hm0 ndm fun H2 s2 hm => ⟨rfl, ?_⟩
    have hx1 : upd H x (.ins CK dx (putF "own_k" (.int n) [])) x = some (.ins CK dx (putF "own_k" (.int n) [])) := upd_same
    have nxt : x ≠ t := ne_of_none hx1 ht
    have hx2 := s2 x _ (by rw [upd_ne nxt]; exact hx1)
    refine ⟨_, rfl, x, CK, dx, _, rfl, hx2, T.cl, T.no _ (by simp [kas]), (by show 1 < 1000; decide), ?_⟩
    refine ⟨_, rfl, x, CK, dx, _, rfl, upd_same, T.cl, T.no _ (by simp [kas]), Nat.lt_of_le_of_lt (len_putF _ _ _) (by show 2 < 1000; decide), ?_⟩
    have hmx : m ≠ x := fun e => by
      subst e
      rw [upd_ne nxt, hx1] at hm0
      cases hm0
    have ht2 := s2 t _ upd_same
    refine k _ ⟨hn, ⟨dx, m, upd_same, dm, t, ?_, ?_⟩, by simp, Nat.zero_le _, [], by simp, by simp⟩ fun b o e hb => ?_
    · rw [upd_ne hmx, upd_ne hmx]; exact hm
    · rw [upd_ne nxt.symm, upd_ne nxt.symm]; exact ht2
    · rw [upd_ne hb, upd_ne hb]
      refine s2 _ _ ?_
      have e' : upd H x (.ins CK dx (putF "own_k" (.int n) [])) b = some o := by rw [upd_ne hb]; exact e
      rw [upd_ne (ne_of_none e' ht)]
      exact e'
def spMany (CK CM : Addr) : Sp := fun vs H Q _ => ∃ (p : Addr) (n : Nat) (es : List Str) (blk : V), vs = [.ref p] ∧ Kp CK CM H p n es blk ∧ Q (.int ((es.length : Nat) : Int)) H
theorem ok_many {CK CM g p : Addr} {fd : FuncData} (D : Pt K CK "many" "Keeper.many" (inCl 36 2) p g fd) (T : CF K mg "Keeper" CK kas) (TM : CF K mg "Moment" CM ["ahead", "standing", "kept"]) : FnOk P w K mg base CX0 1 g fd ["self"] (spMany CK CM) := by
  refine D.F.ok sc36_2 (fun vs H Q E h => ?_) (fun cdv A outer s H vs Q E hr h => ?_)
  · obtain ⟨p, n, es, blk, rfl, _⟩ := h
    rfl
  · obtain ⟨p, n, es, blk, rfl, hp, k⟩ := h
    obtain ⟨dx, m, h1, h2⟩ := hp.ob
    obtain ⟨dm, t, v, h3, h4⟩ := h2.get
    refine ⟨_, pss_one (ps_ret (pe_fld (pe_fld (pv 0) rfl) rfl)), ?_⟩
    exact ⟨_, rfl, p, CK, dx, _, _, rfl, h1, T.cl, T.no _ (by simp [kas]), kf_now _ _ _, m, CM, dm, _, _, rfl, h3, TM.cl, TM.no _ (by simp), mf_standing _ _ _, k⟩
def spLeft (CK CM : Addr) : Sp := fun vs H Q _ => ∃ (p : Addr) (n : Nat) (es : List Str) (blk : V), vs = [.ref p] ∧ Kp CK CM H p n es blk ∧ ∀ t, H t = some (.tup ((canS n es.reverse).map V.str)) → Q (.ref t) H
theorem ok_left {CK CM g p : Addr} {fd : FuncData} (D : Pt K CK "left" "Keeper.left" (inCl 36 3) p g fd) (T : CF K mg "Keeper" CK kas) (TM : CF K mg "Moment" CM ["ahead", "standing", "kept"]) : FnOk P w K mg base CX0 1 g fd ["self"] (spLeft CK CM) := by
  refine D.F.ok sc36_3 (fun vs H Q E h => ?_) (fun cdv A outer s H vs Q E hr h => ?_)
  · obtain ⟨p, n, es, blk, rfl, _⟩ := h
    rfl
  · obtain ⟨p, n, es, blk, rfl, hp, k⟩ := h
    obtain ⟨dx, m, h1, h2⟩ := hp.ob
    obtain ⟨dm, t, v, h3, h4⟩ := h2.get
    refine ⟨_, pss_one (ps_ret (pe_fld (pe_fld (pv 0) rfl) rfl)), ?_⟩
    exact ⟨_, rfl, p, CK, dx, _, _, rfl, h1, T.cl, T.no _ (by simp [kas]), kf_now _ _ _, m, CM, dm, _, _, rfl, h3, TM.cl, TM.no _ (by simp), mf_kept _ _ _, k t h4⟩
theorem canS_rev_ok {es : List Str} {n : Nat} (nm : ∀ z ∈ es, Nm z) (len : es.length ≤ 900) (few : Few es) : (∀ z ∈ canS n es.reverse, Nm z) ∧ (canS n es.reverse).length ≤ 900 ∧ Few (canS n es.reverse) :=
  ⟨fun z hz => nm z (List.mem_reverse.mp (canS_mem hz)), Nat.le_trans (canS_len n _) (by rw [List.length_reverse]; exact len), few.sub fun z hz => List.mem_reverse.mp (canS_mem hz)⟩
def spSummary (CK CM CS : Addr) : Sp := fun vs H Q _ => ∃ (p : Addr) (n : Nat) (es : List Str) (blk : V), vs = [.ref p] ∧ Kp CK CM H p n es blk ∧ ∀ H' x, Same H H' → Sm CS H' x n (canS n es.reverse) → Q (.ref x) H'
theorem ok_summary {CK CM CS g p : Addr} {fd : FuncData} (D : Pt K CK "summary" "Keeper.summary" (inCl 36 4) p g fd) (T : CF K mg "Keeper" CK kas) (TM : CF K mg "Moment" CM ["ahead", "standing", "kept"]) (N1 : HaveK P w K mg base 5 "Summary" CS ["self", "k", "log"] (spSumInit CS)) : FnOk P w K mg base CX0 7 g fd ["self"] (spSummary CK CM CS) := by
  obtain ⟨f1, fd1, G1, M1, b1, m1⟩ := N1
  refine D.F.ok sc36_4 (fun vs H Q E h => ?_) (fun cdv A outer s H vs Q E hr h => ?_)
  · obtain ⟨p, n, es, blk, rfl, _⟩ := h
    rfl
  · obtain ⟨p, n, es, blk, rfl, hp, k⟩ := h
    obtain ⟨dx, m, h1, h2⟩ := hp.ob
    obtain ⟨dm, t, v, h3, h4⟩ := h2.get
    obtain ⟨q1, q2, q3⟩ := canS_rev_ok (n := n) hp.nm hp.len hp.few
    refine ⟨_, pss_one (ps_ret (pe_make M1 G1 hr (by rfl) m1 b1 .nil pass0 (pa_cons (pe_fld (pv 0) rfl) (pa_cons (pe_fld (pe_fld (pv 0) rfl) rfl) pa_nil)))), ?_⟩
    refine ⟨_, rfl, p, CK, dx, _, _, rfl, h1, T.cl, T.no _ (by simp [kas]), kf_k _ _ _, _, rfl, p, CK, dx, _, _, rfl, h1, T.cl, T.no _ (by simp [kas]), kf_now _ _ _, m, CM, dm, _, _, rfl, h3, TM.cl, TM.no _ (by simp), mf_kept _ _ _, ?_⟩
    intro x dx' nx nd ne
    have hs : Same H (upd (upd H dx' (.own x)) x (.ins CS dx' [])) := fun b o e => by
      rw [upd_ne (ne_of_none e nx), upd_ne (ne_of_none e nd)]; exact e
    refine ⟨x, dx', t, _, n, rfl, upd_same, ⟨.inr (hs _ _ h4), q1, by omega, q3⟩, hp.k6, fun H' hSm kk => ⟨rfl, k _ x (Sm.made nx nd (Same.refl H) kk) ?_⟩⟩
    rw [canS_idem] at hSm
    exact hSm
def spCame (CK CM : Addr) : Sp := fun vs H Q _ => ∃ (p : Addr) (n : Nat) (es : List Str) (blk : V) (z : Str), vs = [.ref p, .str z] ∧ Kp CK CM H p n es blk ∧ Nm z ∧ es.length < 900 ∧ Few (z :: es) ∧ ∀ H', Kp CK CM H' p n (z :: es) blk → Fr [p] H H' → Q .non H'
theorem ok_came {CK CM f : Addr} {fd : FuncData} (D : Mt K CK "came" "Keeper.came" (inCl 36 5) ["self", "name"] f fd) (T : CF K mg "Keeper" CK kas) (TM : CF K mg "Moment" CM ["ahead", "standing", "kept"]) (N1 : HaveK P w K mg base 1 "Moment" CM ["self", "ahead", "standing", "kept"] (spMomInit CM))
    (N2 : Have P w K mg base 1 "is_name" ["value"] spIsName) (N3 : Have P w K mg base 4 "canonical_of" ["log", "k"] spCanon) : FnOk P w K mg base CX0 5 f fd ["self", "name"] (spCame CK CM) := by
  obtain ⟨f1, fd1, G1, M1, b1, m1⟩ := N1
  obtain ⟨f2, fd2, G2, m2, k2, b2⟩ := N2
  obtain ⟨f3, fd3, G3, m3, k3, b3⟩ := N3
  refine D.F.ok sc36_5 (fun vs H Q E h => ?_) (fun cdv A outer s H vs Q E hr h => ?_)
  · obtain ⟨p, n, es, blk, z, rfl, _⟩ := h
    rfl
  · obtain ⟨p, n, es, blk, z, rfl, hp, hz, hl, hF, k⟩ := h
    refine ⟨_, pss_cons (ps_if (pt_not (pt_val (pe_call G2 (hr.mono (by decide)) (by rfl) m2 k2 b2 .nil pass0 (pa_cons (pv 1) pa_nil)))) pss_never pss_nil)
      (pss_cons (ps_set (i := 2) sc36_5.nd rfl (.inl rfl) (pe_fld (pv 0) rfl))
      (pss_one (ps_fld (pv 0) (pe_make M1 G1 (hr.mono (by decide)) (by rfl) m1 b1 .nil pass0 (pa_cons (pv 2) (pa_cons (pe_op op_add (pe_fld (pv 2) rfl) pe_int) (pa_cons
        (pe_call G3 hr (by rfl) m3 k3 b3 .nil pass0 (pa_cons (pe_op op_catA (pe_fld (pv 2) rfl) (pe_tup (pa_cons (pv 1) pa_nil))) (pa_cons (pe_fld (pv 0) rfl) pa_nil))) pa_nil)))) rfl))), ?_⟩
    refine ⟨_, rfl, z, rfl, hz, fun H1 s1 => ⟨_, rfl, iteF ?_⟩⟩
    have hp1 := hp.same s1
    obtain ⟨dx, m, h1, h2⟩ := hp1.ob
    obtain ⟨dm, t, v, h3, h4⟩ := h2.get
    obtain ⟨q1, q2, q3⟩ := canS_rev_ok (n := n) hp.nm hp.len hp.few
    refine ⟨_, rfl, p, CK, dx, _, _, rfl, h1, T.cl, T.no _ (by simp [kas]), kf_now _ _ _, ?_⟩
    refine ⟨_, rfl, _, rfl, m, CM, dm, _, _, rfl, h3, TM.cl, TM.no _ (by simp), mf_standing _ _ _, _, _, rfl, rfl, ?_⟩
    refine ⟨_, rfl, m, CM, dm, _, _, rfl, h3, TM.cl, TM.no _ (by simp), mf_kept _ _ _, _, rfl, (by show 1 ≤ sizeLine; decide), fun c hc => ?_⟩
    have s2 : Same H1 (upd H1 c (.tup [.str z])) := Same.put (Same.refl _) hc
    refine cat_read (s2 _ _ h4) upd_same (by rw [List.length_map]; exact Nat.le_of_lt (small1000 (by show _ + 1 ≤ 1000; omega))) fun H3 c3 s3 h3' => ?_
    have s13 : Same H1 H3 := s2.trans s3
    have hcat : H3 c3 = some (.tup ((canS n es.reverse ++ [z]).map V.str)) := by rw [h3', List.map_append]; rfl
    refine ⟨_, rfl, p, CK, dx, _, _, rfl, s13 _ _ h1, T.cl, T.no _ (by simp [kas]), kf_k _ _ _, ?_⟩
    refine ⟨c3, canS n es.reverse ++ [z], n, rfl, .inr hcat, by simp; omega, hF.sub fun y hy => ?_, fun H4 t4 s4 h4' => ?_⟩
    · rcases List.mem_append.mp hy with hy | hy
      · exact List.mem_cons_of_mem _ (List.mem_reverse.mp (canS_mem hy))
      · rw [List.mem_singleton.mp hy]; exact List.mem_cons_self ..
    rw [canS_snoc] at h4'
    have s14 : Same H1 H4 := s13.trans s4
    intro m5 dm5 hm0 ndm _
    refine sp_mom hm0 ndm fun H5 s5 hm5 => ⟨rfl, ?_⟩
    have s15 : Same H1 H5 := s14.trans s5
    refine ⟨_, rfl, p, CK, dx, _, rfl, s15 _ _ h1, T.cl, T.no _ (by simp [kas]), kf_len _ _ _, ?_⟩
    rw [kf_putnow]
    have hfr : Fr [p] H5 (upd H5 p (.ins CK dx (kf (.int n) (.ref m5) blk))) := fun b o e hb => by rw [upd_ne (by simpa using hb)]; exact e
    have hoff : ∀ s ∈ [p], Off H5 s := fun s' hs => by
      rw [List.mem_singleton.mp hs]
      exact (hp1.same s15).off
    refine k _ ⟨hp.k6, ⟨dx, m5, upd_same, ?_⟩, ?_, hl, hF⟩ ((Fr.of (s1.trans s15)).trans hfr)
    · refine Mom.fr hfr hoff (es := z :: es) ⟨dm5, t4, m, hm5, ?_, h2.same s15⟩
      rw [List.reverse_cons]
      exact s5 _ _ h4'
    · intro y hy
      rcases List.mem_cons.mp hy with rfl | hy
      · exact hz
      · exact hp.nm y hy
def spUndo (CK CM : Addr) : Sp := fun vs H Q _ => ∃ (p : Addr) (n : Nat) (es : List Str) (blk : V) (z : Str), vs = [.ref p] ∧ Kp CK CM H p n (z :: es) blk ∧ ∀ H', Kp CK CM H' p n es blk → Fr [p] H H' → Q .non H'
theorem ok_undo {CK CM f : Addr} {fd : FuncData} (D : Mt K CK "undo" "Keeper.undo" (inCl 36 8) ["self"] f fd) (T : CF K mg "Keeper" CK kas) (TM : CF K mg "Moment" CM ["ahead", "standing", "kept"]) : FnOk P w K mg base CX0 1 f fd ["self"] (spUndo CK CM) := by
  refine D.F.ok sc36_8 (fun vs H Q E h => ?_) (fun cdv A outer s H vs Q E hr h => ?_)
  · obtain ⟨p, n, es, blk, z, rfl, _⟩ := h
    rfl
  · obtain ⟨p, n, es, blk, z, rfl, hp, k⟩ := h
    obtain ⟨dx, m, h1, h2⟩ := hp.ob
    obtain ⟨dm, t, m', h3, h4, h5⟩ := h2
    refine ⟨_, pss_cons (ps_if (pt_cmpR op_isN (pe_fld (pe_fld (pv 0) rfl) rfl) pe_non (by rfl)) pss_never pss_nil)
      (pss_one (ps_fld (pv 0) (pe_fld (pe_fld (pv 0) rfl) rfl) rfl)), ?_⟩
    refine ⟨_, rfl, p, CK, dx, _, _, rfl, h1, T.cl, T.no _ (by simp [kas]), kf_now _ _ _, m, CM, dm, _, _, rfl, h3, TM.cl, TM.no _ (by simp), mf_ahead _ _ _, rfl, _, rfl, iteF ?_⟩
    refine ⟨_, rfl, p, CK, dx, _, _, rfl, h1, T.cl, T.no _ (by simp [kas]), kf_now _ _ _, m, CM, dm, _, _, rfl, h3, TM.cl, TM.no _ (by simp), mf_ahead _ _ _, _, rfl, p, CK, dx, _, rfl, h1, T.cl, T.no _ (by simp [kas]), kf_len _ _ _, ?_⟩
    rw [kf_putnow]
    have hfr : Fr [p] H (upd H p (.ins CK dx (kf (.int n) (.ref m') blk))) := fun b o e hb => by rw [upd_ne (by simpa using hb)]; exact e
    have hoff : ∀ s ∈ [p], Off H s := fun s' hs => by rw [List.mem_singleton.mp hs]; exact hp.off
    refine k _ ⟨hp.k6, ⟨dx, m', upd_same, h5.fr hfr hoff⟩, fun y hy => hp.nm y (List.mem_cons_of_mem _ hy), ?_, hp.few.sub fun y hy => List.mem_cons_of_mem _ hy⟩ hfr
    have := hp.len
    simp at this
    omega
def spEnter (CK CM CB : Addr) : Sp := fun vs H Q _ => ∃ (p : Addr) (n : Nat) (es : List Str) (blk : V), vs = [.ref p] ∧ Kp CK CM H p n es blk ∧ ∀ H' b, Kp CK CM H' p n es (.ref b) → Bk CB CM H' b blk n es → Fr [p] H H' → Q (.ref p) H'
theorem ok_enter {CK CM CB f : Addr} {fd : FuncData} (D : Mt K CK "__enter__" "Keeper.__enter__" (inCl 36 9) ["self"] f fd) (T : CF K mg "Keeper" CK kas) (N1 : HaveK P w K mg base 1 "Block" CB ["self", "around", "held"] (spBlkInit CB)) : FnOk P w K mg base CX0 3 f fd ["self"] (spEnter CK CM CB) := by
  obtain ⟨f1, fd1, G1, M1, b1, m1⟩ := N1
  refine D.F.ok sc36_9 (fun vs H Q E h => ?_) (fun cdv A outer s H vs Q E hr h => ?_)
  · obtain ⟨p, n, es, blk, rfl, _⟩ := h
    rfl
  · obtain ⟨p, n, es, blk, rfl, hp, k⟩ := h
    obtain ⟨dx, m, h1, h2⟩ := hp.ob
    refine ⟨_, pss_cons (ps_fld (pv 0) (pe_make M1 G1 hr (by rfl) m1 b1 .nil pass0 (pa_cons (pe_fld (pv 0) rfl) (pa_cons (pe_fld (pv 0) rfl) pa_nil))) rfl)
      (pss_one (ps_ret (pv 0))), ?_⟩
    refine ⟨_, rfl, p, CK, dx, _, _, rfl, h1, T.cl, T.no _ (by simp [kas]), kf_block _ _ _, _, rfl, p, CK, dx, _, _, rfl, h1, T.cl, T.no _ (by simp [kas]), kf_now _ _ _, ?_⟩
    intro b db hb0 ndb _
    refine sp_blk hb0 ndb fun H2 s2 hb => ⟨rfl, ?_⟩
    refine ⟨_, rfl, p, CK, dx, _, rfl, s2 _ _ h1, T.cl, T.no _ (by simp [kas]), kf_len _ _ _, _, rfl, ?_⟩
    rw [kf_putblock]
    have hfr : Fr [p] H2 (upd H2 p (.ins CK dx (kf (.int n) (.ref m) (.ref b)))) := fun c o e hc => by rw [upd_ne (by simpa using hc)]; exact e
    have hoff : ∀ s ∈ [p], Off H2 s := fun s' hs => by rw [List.mem_singleton.mp hs]; exact (hp.same s2).off
    have hbk : Bk CB CM H2 b blk n es := ⟨db, m, hb, h2.same s2⟩
    exact k _ b ⟨hp.k6, ⟨dx, m, upd_same, (h2.same s2).fr hfr hoff⟩, hp.nm, hp.len, hp.few⟩ (hbk.fr hfr hoff) ((Fr.of s2).trans hfr)
def spExit (CK CM CB : Addr) : Sp := fun vs H Q _ => ∃ (p b : Addr) (n : Nat) (es es' : List Str) (ar : V) (T : String) (x t : V), vs = [.ref p, .ty T, x, t] ∧ Kp CK CM H p n es' (.ref b) ∧ Bk CB CM H b ar n es ∧ (∀ z ∈ es, Nm z) ∧ es.length ≤ 900 ∧ Few es ∧ ∀ H', Kp CK CM H' p n es ar → Fr [p] H H' → Q .non H'
theorem ok_exit {CK CM CB f : Addr} {fd : FuncData} (D : Mt K CK "__exit__" "Keeper.__exit__" (inCl 36 10) ["self", "kind", "value", "trace"] f fd) (T : CF K mg "Keeper" CK kas) (TB : CF K mg "Block" CB ["around", "held"]) : FnW P w K mg base 1 f fd ["self", "kind", "value", "trace"] (spExit CK CM CB) := by
  refine Fun.okW D.F sc36_10 (fun vs H Q E h => ?_) (fun cdv A outer s H vs Q hr h => ?_)
  · obtain ⟨p, b, n, es, es', ar, Tn, x, t, rfl, _⟩ := h
    rfl
  · obtain ⟨p, b, n, es, es', ar, Tn, x, t, rfl, hp, hb, q1, q2, q3, k⟩ := h
    obtain ⟨dx, m, h1, h2⟩ := hp.ob
    obtain ⟨db, mh, h3, h4⟩ := hb
    refine ⟨_, pss_cons (ps_if (pt_cmpR op_notN (pv 1) pe_non (by rfl)) (pss_one (ps_fld (pv 0) (pe_fld (pe_fld (pv 0) rfl) rfl) rfl)) pss_nil)
      (pss_one (ps_fld (pv 0) (pe_fld (pe_fld (pv 0) rfl) rfl) rfl)), ?_⟩
    refine ⟨_, rfl, rfl, _, rfl, iteT ?_⟩
    refine ⟨_, rfl, p, CK, dx, _, _, rfl, h1, T.cl, T.no _ (by simp [kas]), kf_block _ _ _, b, CB, db, _, _, rfl, h3, TB.cl, TB.no _ (by simp), bf_held _ _, _, rfl, p, CK, dx, _, rfl, h1, T.cl, T.no _ (by simp [kas]), kf_len _ _ _, ?_⟩
    rw [kf_putnow]
    have hfr : Fr [p] H (upd H p (.ins CK dx (kf (.int n) (.ref mh) (.ref b)))) := fun c o e hc => by rw [upd_ne (by simpa using hc)]; exact e
    have hoff : ∀ s ∈ [p], Off H s := fun s' hs => by rw [List.mem_singleton.mp hs]; exact hp.off
    have npb : b ≠ p := fun e => (hp.off _ (by rw [← e]; exact h3)).2 _ _ _ rfl (bf_now _ _)
    have h3' : upd H p (.ins CK dx (kf (.int n) (.ref mh) (.ref b))) b = some (.ins CB db (bf ar (.ref mh))) := by rw [upd_ne npb]; exact h3
    refine ⟨_, rfl, p, CK, dx, _, _, rfl, upd_same, T.cl, T.no _ (by simp [kas]), kf_block _ _ _, b, CB, db, _, _, rfl, h3', TB.cl, TB.no _ (by simp), bf_around _ _, _, rfl, p, CK, dx, _, rfl, upd_same, T.cl, T.no _ (by simp [kas]), kf_len _ _ _, ?_⟩
    rw [kf_putblock, upd_upd]
    have hfr2 : Fr [p] H (upd H p (.ins CK dx (kf (.int n) (.ref mh) ar))) := fun c o e hc => by rw [upd_ne (by simpa using hc)]; exact e
    exact k _ ⟨hp.k6, ⟨dx, mh, upd_same, h4.fr hfr2 hoff⟩, q1, q2, q3⟩ hfr2
def spKpIn (CK CM : Addr) : Sp := fun vs H Q _ => ∃ (p r : Addr) (n : Nat) (es : List Str) (blk : V) (row : List Str), vs = [.ref p, .ref r] ∧ Kp CK CM H p n es blk ∧ H r = some (.lst (row.map V.str)) ∧ (∀ z ∈ row, Nm z) ∧ ∀ (b : Bool) H', (b = true ↔ row.length ≤ n ∧ row.Sublist es.reverse) → Same H H' → Q (.bl b) H'
theorem ok_kpIn {CK CM f : Addr} {fd : FuncData} (D : Mt K CK "__contains__" "Keeper.__contains__" (inCl 36 7) ["self", "row"] f fd) (B : Bi mg) (T : CF K mg "Keeper" CK kas) (TM : CF K mg "Moment" CM ["ahead", "standing", "kept"]) (N1 : Have P w K mg base 3 "are_names" ["value"] spAreNames) (N2 : Have P w K mg base 2 "end_in" ["row", "log"] spEndIn) : FnOk P w K mg base CX0 4 f fd ["self", "row"] (spKpIn CK CM) := by
  obtain ⟨f1, fd1, G1, m1, k1, b1⟩ := N1
  obtain ⟨f2, fd2, G2, m2, k2, b2⟩ := N2
  refine D.F.ok sc36_7 (fun vs H Q E h => ?_) (fun cdv A outer s H vs Q E hr h => ?_)
  · obtain ⟨p, r, n, es, blk, row, rfl, _⟩ := h
    rfl
  · obtain ⟨p, r, n, es, blk, row, rfl, hp, hR, hN, k⟩ := h
    refine ⟨_, pss_one (ps_ret (pe_and (pe_call G1 hr (by rfl) m1 k1 b1 .nil pass0 (pa_cons (pv 1) pa_nil)) (pe_and (pe_cmpR op_le (pe_callB call_len_seq (by rfl) B.len PySem.boot_len (pa_cons (pv 1) pa_nil)) (pe_fld (pv 0) rfl) (by rfl))
      (pe_one (pe_cmpR op_notN (pe_call G2 (hr.mono (by decide)) (by rfl) m2 k2 b2 .nil pass0 (pa_cons (pv 1) (pa_cons (pe_fld (pe_fld (pv 0) rfl) rfl) pa_nil))) pe_non (by rfl)))))), ?_⟩
    refine ⟨_, rfl, r, row, rfl, .inl hR, hN, fun H1 s1 => ⟨_, rfl, iteT ?_⟩⟩
    have hp1 := hp.same s1
    obtain ⟨dx, m, h1, h2⟩ := hp1.ob
    obtain ⟨dm, t, v, h3, h4⟩ := h2.get
    obtain ⟨q1, q2, q3⟩ := canS_rev_ok (n := n) hp.nm hp.len hp.few
    refine ⟨_, rfl, r, _, rfl, .inl (SqL.of (s1 _ _ hR)), _, rfl, p, CK, dx, _, _, rfl, h1, T.cl, T.no _ (by simp [kas]), kf_k _ _ _, _, _, rfl, rfl, _, rfl, ?_⟩
    rw [List.length_map]
    refine ite2 (fun c => ?_) (fun c => ?_)
    · have c' : row.length ≤ n := by have := of_decide_eq_true c; omega
      refine ⟨_, rfl, _, rfl, p, CK, dx, _, _, rfl, h1, T.cl, T.no _ (by simp [kas]), kf_now _ _ _, m, CM, dm, _, _, rfl, h3, TM.cl, TM.no _ (by simp), mf_kept _ _ _, r, t, row, _, rfl, s1 _ _ hR, h4, by omega, fun v hv => ⟨rfl, k _ _ ?_ s1⟩⟩
      have : (!decide (v = V.non)) = true ↔ ¬ v = V.non := by simp
      rw [this, hv, canS_row c']
      exact ⟨fun q => ⟨c', Classical.byContradiction q⟩, fun q q2 => q2 q.2⟩
    · refine k _ _ ?_ s1
      exact Iff.intro (fun z => nomatch z) (fun q => absurd (decide_eq_true (by have := q.1; omega)) c)
end
end G

end

/-! D9 -/
section
set_option maxHeartbeats 4000000
namespace G
open PySem L2 GK Si M
theorem putK_len {kvs : List (Key × V)} {k : Key} {v u : V} (h : valV kvs k = some v) : (putK kvs k u).length = kvs.length := by
  unfold putK
  rw [valV_any, h]
  simp
theorem putK_le {kvs : List (Key × V)} {k : Key} {u : V} : (putK kvs k u).length ≤ kvs.length + 1 := by
  unfold putK
  split
  · rw [List.length_map]; omega
  · simp
/-- the draw's dict at d, its great cells' list at g, its cells' at c; at most b turns were used -/
structure Dr (d g c : Addr) (b : Nat) (H : Hp) : Prop where
  ob : ∃ (kvs : List (Key × V)) (gs cs : List Int) (r t : Int), H d = some (.dK kvs) ∧ valV kvs (Sum.inr "great") = some (.ref g) ∧ valV kvs (Sum.inr "cells") = some (.ref c) ∧ valV kvs (Sum.inr "rest") = some (.int r) ∧ valV kvs (Sum.inr "turn") = some (.int t) ∧ kvs.length ≤ 10 ∧
    H g = some (.lst (gs.map V.int)) ∧ H c = some (.lst (cs.map V.int)) ∧ c ≠ g ∧ cs.length ≤ 63 ∧ 0 ≤ t ∧ t ≤ b
theorem Dr.mono {d g c : Addr} {b b' : Nat} {H : Hp} (h : Dr d g c b H) (hb : b ≤ b') : Dr d g c b' H := by
  obtain ⟨kvs, gs, cs, r, t, h1, h2, h3, h4, h5, h6, h7, h8, h9, h10, h11, h12⟩ := h.ob
  exact ⟨kvs, gs, cs, r, t, h1, h2, h3, h4, h5, h6, h7, h8, h9, h10, h11, by omega⟩
/-- what a frame's change leaves of the draw -/
theorem Dr.frN {d g c : Addr} {b : Nat} {S : List Addr} {H H' : Hp} (h : Dr d g c b H) (e : FrN S H H') (hd : d ∉ S) (hg : g ∉ S) (hc : c ∉ S) : Dr d g c b H' := by
  obtain ⟨kvs, gs, cs, r, t, h1, h2, h3, h4, h5, h6, h7, h8, h9, h10, h11, h12⟩ := h.ob
  exact ⟨kvs, gs, cs, r, t, e _ _ h1 (fun _ z => by cases z) hd, h2, h3, h4, h5, h6, e _ _ h7 (fun _ z => by cases z) hg, e _ _ h8 (fun _ z => by cases z) hc, h9, h10, h11, h12⟩
theorem Dr.fr {d g c : Addr} {b : Nat} {S : List Addr} {H H' : Hp} (h : Dr d g c b H) (e : Fr S H H') (hd : d ∉ S) (hg : g ∉ S) (hc : c ∉ S) : Dr d g c b H' := h.frN e.n hd hg hc
theorem Dr.same {d g c : Addr} {b : Nat} {H H' : Hp} (h : Dr d g c b H) (e : Same H H') : Dr d g c b H' := h.fr (S := []) (Fr.of e) (by simp) (by simp) (by simp)
theorem Dr.off {d g c : Addr} {b : Nat} {H : Hp} (h : Dr d g c b H) : ∀ s ∈ [d, g], Off H s := by
  obtain ⟨kvs, gs, cs, r, t, h1, h2, h3, h4, h5, h6, h7, h8, h9, h10, h11, h12⟩ := h.ob
  intro s hs o e
  rcases List.mem_cons.mp hs with rfl | hs
  · rw [h1] at e; cases e
    exact ⟨fun xs z => (by cases z), fun C dx fs z => (by cases z)⟩
  · rw [List.mem_singleton.mp hs, h7] at e; cases e
    exact ⟨fun xs z => (by cases z), fun C dx fs z => (by cases z)⟩
theorem Dr.ne {d g c p : Addr} {b : Nat} {H : Hp} (h : Dr d g c b H) (n : ∀ o, H p = some o → (∀ kvs, o ≠ .dK kvs) ∧ ∀ xs, o ≠ .lst xs) : p ≠ d ∧ p ≠ g ∧ p ≠ c := by
  obtain ⟨kvs, gs, cs, r, t, h1, h2, h3, h4, h5, h6, h7, h8, _⟩ := h.ob
  refine ⟨?_, ?_, ?_⟩
  · intro e
    exact (n _ (by rw [e]; exact h1)).1 _ rfl
  · intro e
    exact (n _ (by rw [e]; exact h7)).2 _ rfl
  · intro e
    exact (n _ (by rw [e]; exact h8)).2 _ rfl
theorem Dr.new {d g c p : Addr} {b : Nat} {H : Hp} (h : Dr d g c b H) (n : H p = none) : p ≠ d ∧ p ≠ g ∧ p ≠ c := h.ne fun o e => by
  rw [n] at e
  cases e
theorem Dr.no {d g c p : Addr} {b : Nat} {H : Hp} (h : Dr d g c b H) (n : H p = none) : p ∉ [d, g] := by
  obtain ⟨h1, h2, _⟩ := h.new n
  simp [h1, h2]
theorem Dr.dg {d g c : Addr} {b : Nat} {H : Hp} (h : Dr d g c b H) : d ≠ g := by
  obtain ⟨kvs, gs, cs, r, t, h1, h2, h3, h4, h5, h6, h7, _⟩ := h.ob
  exact ne_of h1 h7 (by intro z; cases z)
/-- a change at one address that is none of the draw's -/
theorem Dr.put {d g c p : Addr} {b : Nat} {H : Hp} {o : HO} (h : Dr d g c b H) (n : p ≠ d ∧ p ≠ g ∧ p ≠ c) : Dr d g c b (upd H p o) :=
  h.fr (S := [p]) (fun b' o' e hb' => by rw [upd_ne (by simpa using hb')]; exact e) (by simp [n.1.symm]) (by simp [n.2.1.symm]) (by simp [n.2.2.symm])
theorem Fr.put {S : List Addr} {H H3 H5 : Hp} {p : Addr} {o : HO} (f : Fr S H H3) (n : H3 p = none) (f5 : Fr S H H5) : Fr S H (upd H5 p o) := fun b' o' e hb' => by
  rw [upd_ne (ne_of_none (f _ _ e hb') n)]
  exact f5 _ _ e hb'
section
variable {P : Program} {w : World} {K : PySem.W.Frag} {mg : Str → Option Value} {base : Heap}
theorem sc38 : FnScope ["_law_script", "_law_cells", "_law_cell"] ["_law_script"] (defScope (top 38)) := ⟨rfl, rfl, rfl, by decide +kernel, rfl, by decide +kernel, by decide +kernel⟩
def spBegun (K : PySem.W.Frag) : Sp := fun vs H Q _ => ∃ (a : Addr) (ns : List Int), vs = [.ref a] ∧ SqL K H a (ns.map V.int) ∧ ns.length ≤ 63 ∧ ∀ H' d g c, Same H H' → H d = none → H g = none → Dr d g c 0 H' → Q (.ref d) H'
theorem ok_begun {f : Addr} {fd : FuncData} (D : Df K mg "_law_begun" (top 38) ["_law_script"] f fd) (B : Bi mg) : FnOk P w K mg base CX0 1 f fd ["_law_script"] (spBegun K) := by
  refine D.F.ok sc38 (fun vs H Q E h => ?_) (fun cdv A outer s H vs Q E hr h => ?_)
  · obtain ⟨a, ns, rfl, _⟩ := h
    rfl
  · obtain ⟨a, ns, rfl, hS, hl, k⟩ := h
    refine ⟨_, pss_cons (ps_setLc (i := 1) (own := [("_law_cell", 2)]) (g := gName 2) (tt := tYes) rfl sc38.nd rfl rfl (sw_true rfl rfl rfl (by decide +kernel)) (pi_list (pv 0)) (blkOk_by (N := ["_law_script", "_law_cells", "_law_cell"]) (sc := defScope (top 38)) (by decide +kernel))
        (fun _ _ _ _ _ => pg_name (i := 2) sc38.nd rfl (.inl rfl)) (fun _ _ _ _ _ => pts_nil) (fun _ _ _ _ _ => pe_callB call_abs (by rfl) B.abs (by decide +kernel) (pa_cons (pv 2) pa_nil)))
      (pss_one (ps_ret (pe_disp (pps_cons pe_str (pe_lc (own := [("_law_cell", 2)]) (g := gName 2) rfl sc38.nd (pi_list (pv 1)) (blkOk_by (N := ["_law_script", "_law_cells", "_law_cell"]) (sc := defScope (top 38)) (by decide +kernel))
          (fun _ _ _ _ _ => pg_name (i := 2) sc38.nd rfl (.inl rfl)) (fun _ _ _ _ _ => pts_one (pt_cmpR op_ge (pv 2) (pe_op op_pow pe_int pe_int) (by rfl))) (fun _ _ _ _ _ => pe_op op_sub (pv 2) (pe_op op_pow pe_int pe_int)))
        (pps_cons pe_str (pv 1) (pps_cons pe_str pe_int (pps_cons pe_str pe_int pps_nil)))) (by rfl) (by rfl) (by simp) (by decide)))), ?_⟩
    refine ⟨_, rfl, a, rfl, ⟨_, hS⟩, fun C hC => ?_⟩
    have sC : ∀ xs, Same H (upd H C (.lst xs)) := fun xs => Same.put (Same.refl H) hC
    refine lc_list (xs := ns.map V.int) (fun i H' => ∃ zs : List Int, H' = upd H C (.lst (zs.map V.int)) ∧ zs.length = i) ⟨[], rfl, rfl⟩ (fun i H' _ ⟨zs, e, _⟩ => by rw [e]; exact (sC _).seq hS) (fun i x H' hi ⟨zs, e, hz⟩ => ?_) (fun H' ⟨cs, e, hz⟩ => ?_)
    · subst e
      obtain ⟨v, hv, ex⟩ : ∃ v : Int, ns[i]? = some v ∧ x = V.int v := by
        rw [List.getElem?_map] at hi
        cases q : ns[i]? with
        | none => rw [q] at hi; cases hi
        | some m => rw [q] at hi; exact ⟨m, rfl, (Option.some.inj hi).symm⟩
      subst ex
      have hi' := (List.getElem?_eq_some_iff.mp hv).1
      refine ⟨rfl, yesI ⟨_, rfl, v, rfl, _, upd_same, small1000 (by rw [List.length_map]; omega), zs ++ [if v < 0 then -v else v], ?_, ?_⟩⟩
      · rw [upd_upd, List.map_append]
        rfl
      · simp [hz]
    · subst e
      rw [List.length_map] at hz
      intro d hd
      have hcd : C ≠ d := ne_of_none upd_same hd
      have hd0 : H d = none := (sC _).free hd
      have s1 : Same H (upd (upd H C (.lst (cs.map V.int))) d (.dK [])) := (sC _).put hd0
      have hC1 : upd (upd H C (.lst (cs.map V.int))) d (.dK []) C = some (.lst (cs.map V.int)) := by rw [upd_ne hcd, upd_same]
      refine ⟨_, rfl, C, rfl, ⟨_, SqL.of hC1⟩, fun g hg => ?_⟩
      have hgC : C ≠ g := ne_of_none hC1 hg
      have hgd : d ≠ g := ne_of_none upd_same hg
      have hg0 : H g = none := s1.free hg
      refine lc_list (xs := cs.map V.int) (fun i H' => ∃ zs : List Int, H' = upd (upd (upd H C (.lst (cs.map V.int))) d (.dK [])) g (.lst (zs.map V.int)) ∧ zs.length ≤ i) ⟨[], rfl, Nat.le_refl _⟩ (fun i H' _ ⟨zs, e, _⟩ => SqL.of (by rw [e, upd_ne hgC]; exact hC1)) (fun i x H' hi ⟨zs, e, hzl⟩ => ?_) (fun H' ⟨gs, e, _⟩ => ?_)
      · subst e
        obtain ⟨v, hv, ex⟩ : ∃ v : Int, cs[i]? = some v ∧ x = V.int v := by
          rw [List.getElem?_map] at hi
          cases q : cs[i]? with
          | none => rw [q] at hi; cases hi
          | some m => rw [q] at hi; exact ⟨m, rfl, (Option.some.inj hi).symm⟩
        subst ex
        have hi' := (List.getElem?_eq_some_iff.mp hv).1
        refine ⟨rfl, _, rfl, _, _, rfl, rfl, ⟨by decide, by decide, by decide⟩, _, _, rfl, rfl, _, rfl, ?_⟩
        refine ite2 (fun c => ?_) (fun c => ?_)
        · refine ⟨_, rfl, _, _, rfl, rfl, ⟨by decide, by decide, by decide⟩, _, _, rfl, rfl, _, upd_same, small1000 (by rw [List.length_map]; omega), zs ++ [v - (10 : Int) ^ (18 : Int).toNat], ?_, ?_⟩
          · rw [upd_upd, List.map_append]
            rfl
          · simp; omega
        · exact ⟨zs, rfl, by omega⟩
      · subst e
        refine ⟨_, rfl, ?_⟩
        have hd1 : upd (upd (upd H C (.lst (cs.map V.int))) d (.dK [])) g (.lst (gs.map V.int)) d = some (.dK []) := by rw [upd_ne hgd, upd_same]
        refine ⟨hd1, [(Sum.inr "great", .ref g), (Sum.inr "cells", .ref C), (Sum.inr "rest", .int 0), (Sum.inr "turn", .int 0)], rfl, (by show 4 ≤ 15; decide), ?_⟩
        have s2 : Same H (upd (upd (upd (upd H C (.lst (cs.map V.int))) d (.dK [])) g (.lst (gs.map V.int))) d (.dK (mergeK [] [(Sum.inr "great", .ref g), (Sum.inr "cells", .ref C), (Sum.inr "rest", .int 0), (Sum.inr "turn", .int 0)]))) := (s1.put hg0).put hd0
        refine k _ d g C s2 hd0 hg0 ⟨_, gs, cs, 0, 0, upd_same, ?_, ?_, ?_, ?_, ?_, ?_, ?_, hgC, by omega, by decide, by decide⟩
        · unfold mergeK
          simp only [List.foldl_cons, List.foldl_nil]
          rw [valV_put, if_neg (by decide +kernel), valV_put, if_neg (by decide +kernel), valV_put, if_neg (by decide +kernel), valV_put, if_pos rfl]
        · unfold mergeK
          simp only [List.foldl_cons, List.foldl_nil]
          rw [valV_put, if_neg (by decide +kernel), valV_put, if_neg (by decide +kernel), valV_put, if_pos rfl]
        · unfold mergeK
          simp only [List.foldl_cons, List.foldl_nil]
          rw [valV_put, if_neg (by decide +kernel), valV_put, if_pos rfl]
        · unfold mergeK
          simp only [List.foldl_cons, List.foldl_nil]
          rw [valV_put, if_pos rfl]
        · unfold mergeK
          simp only [List.foldl_cons, List.foldl_nil]
          have h1 := putK_le (kvs := ([] : List (Key × V))) (k := (Sum.inr "great" : Key)) (u := V.ref g)
          have h2 := putK_le (kvs := putK ([] : List (Key × V)) ((Sum.inr "great" : Key)) (V.ref g)) (k := (Sum.inr "cells" : Key)) (u := V.ref C)
          have h3 := putK_le (kvs := putK (putK ([] : List (Key × V)) ((Sum.inr "great" : Key)) (V.ref g)) ((Sum.inr "cells" : Key)) (V.ref C)) (k := (Sum.inr "rest" : Key)) (u := V.int 0)
          have h4 := putK_le (kvs := putK (putK (putK ([] : List (Key × V)) ((Sum.inr "great" : Key)) (V.ref g)) ((Sum.inr "cells" : Key)) (V.ref C)) ((Sum.inr "rest" : Key)) (V.int 0)) (k := (Sum.inr "turn" : Key)) (u := V.int 0)
          simp only [List.length_nil] at h1
          omega
        · rw [upd_ne hgd.symm, upd_same]
        · rw [upd_ne hcd, upd_ne hgC]; exact hC1
end
end G

end

/-! D10 -/
section
set_option maxHeartbeats 4000000
namespace G
open PySem L2 GK Si M
section
variable {P : Program} {w : World} {K : PySem.W.Frag} {mg : Str → Option Value} {base : Heap}
theorem eqv_ints_nil : ∀ gs : List Int, PyData.eqv (.list (gs.map PyData.int)) (.list []) = gs.isEmpty
  | [] => by simp [PyData.eqv, PyData.eqvAll]
  | _ :: _ => by simp [PyData.eqv, PyData.eqvAll]
theorem dp_ints {H : Hp} : ∀ gs : List Int, DpAll K H (gs.map V.int) (gs.map PyData.int)
  | [] => .nil
  | z :: gs => .cons (.int z) (dp_ints gs)
theorem shaped_nil : SeqAt.shaped (.list []) = true := PySem.W.shaped_ints []
def spTake : Sp := fun vs H Q _ => ∃ (d g c : Addr) (b m : Nat), vs = [.ref d, .int (m : Int)] ∧ Dr d g c b H ∧ b ≤ 1000000 ∧ 0 < m ∧ m ≤ 1000000 ∧ ∀ (r : Nat) H', r < m → Dr d g c (b + 1) H' → Fr [d, g] H H' → Q (.int (r : Int)) H'
theorem sc39 : FnScope ["_law_draw", "_law_size", "_law_mix", "_law_cell", "_law_turn", "_law_found"] ["_law_draw", "_law_size"] (defScope (top 39)) := ⟨rfl, rfl, rfl, by decide +kernel, rfl, by decide +kernel, by decide +kernel⟩
/-- the draw's dict, its parts named -/
structure Dd (d g c : Addr) (cs : List Int) (r t : Int) (H : Hp) : Prop where
  ob : ∃ (kvs : List (Key × V)) (gs : List Int), H d = some (.dK kvs) ∧ valV kvs (Sum.inr "great") = some (.ref g) ∧ valV kvs (Sum.inr "cells") = some (.ref c) ∧ valV kvs (Sum.inr "rest") = some (.int r) ∧ valV kvs (Sum.inr "turn") = some (.int t) ∧ kvs.length ≤ 10 ∧
    H g = some (.lst (gs.map V.int)) ∧ H c = some (.lst (cs.map V.int)) ∧ c ≠ g
theorem Dd.rest {d g c : Addr} {cs : List Int} {r t r' : Int} {H : Hp} (h : Dd d g c cs r t H) : ∃ kvs, H d = some (.dK kvs) ∧ kvs.length < sizeLine ∧ Dd d g c cs r' t (upd H d (.dK (putK kvs (Sum.inr "rest") (.int r')))) ∧ Fr [d, g] H (upd H d (.dK (putK kvs (Sum.inr "rest") (.int r')))) := by
  obtain ⟨kvs, gs, h1, h2, h3, h4, h5, h6, h7, h8, h9⟩ := h.ob
  refine ⟨kvs, h1, small1000 (by omega), ⟨_, gs, upd_same, ?_, ?_, ?_, ?_, ?_, ?_, ?_, h9⟩, fun b o e hb => ?_⟩
  · rw [valV_put, if_neg (by decide +kernel)]; exact h2
  · rw [valV_put, if_neg (by decide +kernel)]; exact h3
  · rw [valV_put, if_pos rfl]
  · rw [valV_put, if_neg (by decide +kernel)]; exact h5
  · rw [putK_len h4]; exact h6
  · rw [upd_ne (ne_of h7 h1 (by intro z; cases z))]; exact h7
  · rw [upd_ne (ne_of h8 h1 (by intro z; cases z))]; exact h8
  · rw [upd_ne (fun q => hb (by rw [q]; simp))]; exact e
theorem Dd.turn {d g c : Addr} {cs : List Int} {r t t' : Int} {H : Hp} (h : Dd d g c cs r t H) : ∃ kvs, H d = some (.dK kvs) ∧ kvs.length < sizeLine ∧ Dd d g c cs r t' (upd H d (.dK (putK kvs (Sum.inr "turn") (.int t')))) ∧ Fr [d, g] H (upd H d (.dK (putK kvs (Sum.inr "turn") (.int t')))) := by
  obtain ⟨kvs, gs, h1, h2, h3, h4, h5, h6, h7, h8, h9⟩ := h.ob
  refine ⟨kvs, h1, small1000 (by omega), ⟨_, gs, upd_same, ?_, ?_, ?_, ?_, ?_, ?_, ?_, h9⟩, fun b o e hb => ?_⟩
  · rw [valV_put, if_neg (by decide +kernel)]; exact h2
  · rw [valV_put, if_neg (by decide +kernel)]; exact h3
  · rw [valV_put, if_neg (by decide +kernel)]; exact h4
  · rw [valV_put, if_pos rfl]
  · rw [putK_len h5]; exact h6
  · rw [upd_ne (ne_of h7 h1 (by intro z; cases z))]; exact h7
  · rw [upd_ne (ne_of h8 h1 (by intro z; cases z))]; exact h8
  · rw [upd_ne (fun q => hb (by rw [q]; simp))]; exact e
theorem get_k {H : Hp} {d : Addr} {kvs : List (Key × V)} {x : Str} {v : V} (h : H d = some (.dK kvs)) (e : valV kvs (Sum.inr x) = some v) : DGet H d (.str x) (some v) := .inl ⟨kvs, Sum.inr x, .inl h, rfl, e.symm⟩
theorem Dd.rd {d g c : Addr} {cs : List Int} {r t : Int} {H : Hp} (h : Dd d g c cs r t H) : DGet H d (.str "great") (some (.ref g)) ∧ DGet H d (.str "cells") (some (.ref c)) ∧ DGet H d (.str "rest") (some (.int r)) ∧ DGet H d (.str "turn") (some (.int t)) := by
  obtain ⟨kvs, gs, h1, h2, h3, h4, h5, h6, h7, h8, h9⟩ := h.ob
  exact ⟨get_k h1 h2, get_k h1 h3, get_k h1 h4, get_k h1 h5⟩
theorem Dd.same {d g c : Addr} {cs : List Int} {r t : Int} {H H' : Hp} (h : Dd d g c cs r t H) (e : Same H H') : Dd d g c cs r t H' := by
  obtain ⟨kvs, gs, h1, h2, h3, h4, h5, h6, h7, h8, h9⟩ := h.ob
  exact ⟨kvs, gs, e _ _ h1, h2, h3, h4, h5, h6, e _ _ h7, e _ _ h8, h9⟩
theorem ok_take {f : Addr} {fd : FuncData} (D : Df K mg "_law_take" (top 39) ["_law_draw", "_law_size"] f fd) (B : Bi mg) : FnOk P w K mg base CX0 1 f fd ["_law_draw", "_law_size"] spTake := by
  refine D.F.ok sc39 (fun vs H Q E h => ?_) (fun cdv A outer s H vs Q E hr h => ?_)
  · obtain ⟨d, g, c, b, m, rfl, _⟩ := h
    rfl
  · obtain ⟨d, g, c, b, m, rfl, hD, hb, hm0, hm, k⟩ := h
    obtain ⟨kvs, gs, cs, r, t, h1, h2, h3, h4, h5, h6, h7, h8, h9, h10, h11, h12⟩ := hD.ob
    have hd : Dd d g c cs r t H := ⟨kvs, gs, h1, h2, h3, h4, h5, h6, h7, h8, h9⟩
    have hu := hu_of hr
    have hu64 : (A.deeper (PyProof.Rows.envOfC "_law_take" (defScope (top 39)) s.heap.objs.size f cdv)).units + 64 < cLine := by
      have := hr.units
      exact this
    refine ⟨_, pss_cons (ps_if (pw_and (pt_cmpR op_eq (pe_dget hu (pv 0) pe_str (fun _ _ => rfl)) pe_int (nomark _)) (pw_and1 (pt_cmpR (op_neD hu64) (pe_dget hu (pv 0) pe_str (fun _ _ => rfl)) (pe_lst pa_nil) (by rfl)))).pt
        (pss_one (ps_dput hu (pv 0) pe_str (pe_bm PySem.F.plainAttrs_list PySem.F.slot_list_pop PySem.F.type_list_pop mt_popAt (pe_dget hu (pv 0) pe_str (fun _ _ => rfl)) (pa_cons pe_int pa_nil)) rfl)) pss_nil)
      (pss_cons (ps_if (pt_cmpR op_eq (pe_dget hu (pv 0) pe_str (fun _ _ => rfl)) pe_int (nomark _))
        (pss_cons (ps_dput hu (pv 0) pe_str (pe_op op_add (pe_dget hu (pv 0) pe_str (fun _ _ => rfl)) pe_int) rfl)
        (pss_cons (ps_set (i := 2) sc39.nd rfl (.inl rfl) (pe_op op_add (pe_op op_mul pe_int (pe_dget hu (pv 0) pe_str (fun _ _ => rfl))) (pe_callB call_len_seq (by rfl) B.len PySem.boot_len (pa_cons (pe_dget hu (pv 0) pe_str (fun _ _ => rfl)) pa_nil))))
        (pss_cons (ps_for PassesOwn.never rfl (pi_list (pe_dget hu (pv 0) pe_str (fun _ _ => rfl))) (pg_name (i := 3) sc39.nd rfl (.inl rfl))
          (pss_one (ps_set (i := 2) sc39.nd rfl (.inl rfl) (pe_op op_mod (pe_callTy call_int1 (by rfl) B.int PyProof.Rows.boot_int (pa_cons (pe_op op_add (pe_op op_add (pe_op op_mul (pv 2) pe_int) (pv 3)) pe_int) pa_nil)) pe_int))))
        (pss_cons (ps_for PassesOwn.never rfl (pi_range1 (by rfl) B.range (pa_cons pe_int pa_nil)) (pg_name (i := 4) sc39.nd rfl (.inl rfl))
          (pss_one (ps_set (i := 2) sc39.nd rfl (.inl rfl) (pe_op op_mod (pe_callTy call_int1 (by rfl) B.int PyProof.Rows.boot_int (pa_cons (pe_op op_add (pe_op op_add (pe_op op_mul (pv 2) (pv 2)) (pe_op op_mul pe_int (pv 2))) pe_int) pa_nil)) pe_int))))
        (pss_one (ps_dput hu (pv 0) pe_str (pv 2) rfl)))))) pss_nil)
      (pss_cons (ps_set (i := 5) sc39.nd rfl (.inl rfl) (pe_op op_mod (pe_callTy call_int1 (by rfl) B.int PyProof.Rows.boot_int (pa_cons (pe_dget hu (pv 0) pe_str (fun _ _ => rfl)) pa_nil)) (pv 1)))
      (pss_cons (ps_dput hu (pv 0) pe_str (pe_op op_fdivN (pe_dget hu (pv 0) pe_str (fun _ _ => rfl)) (pv 1)) rfl)
      (pss_one (ps_ret (pv 5)))))), ?_⟩
    refine cutAt (fun σ' H' => ∃ r' : Int, σ' = [some (.ref d), some (.int m), none, none, none, none] ∧ Dd d g c cs r' t H' ∧ Fr [d, g] H H') (fun N hN => ?_) (fun σ' H' ⟨r', e, hd', fr'⟩ => ?_)
    · refine ⟨_, rfl, d, _, rfl, hd.rd.2.2.1, rfl, _, rfl, ?_⟩
      refine ite2 (fun cz => ?_) (fun cz => iteF (hN _ _ ⟨r, rfl, hd, Fr.refl _ _⟩))
      refine ⟨_, rfl, d, _, rfl, hd.rd.1, (by show 0 ≤ sizeLine; decide), fun p hp => ?_⟩
      have s1 : Same H (upd H p (.lst [])) := Same.put (Same.refl H) hp
      refine ⟨_, _, Dp.lst (SqL.of (s1 _ _ h7)) (dp_ints gs), Dp.lst (SqL.of upd_same) .nil, PySem.W.shaped_ints gs, shaped_nil, _, rfl, ?_⟩
      rw [eqv_ints_nil]
      have hd1 := hd.same s1
      cases gs with
      | nil => exact iteF (hN _ _ ⟨r, rfl, hd1, Fr.of s1⟩)
      | cons y gs =>
        refine iteT ?_
        refine ⟨_, rfl, d, _, rfl, hd1.rd.1, .inl ⟨rfl, _, SqL.of (s1 _ _ h7)⟩, g, _, 0, 0, V.int y, rfl, rfl, s1 _ _ h7, by decide, by decide, ?_, rfl, ?_⟩
        · exact PySem.seqIndex_of (by decide) (by rw [List.length_map]; simp)
        have hd2 : Dd d g c cs r t (upd (upd H p (.lst [])) g (.lst (((y :: gs).map V.int).eraseIdx 0))) := by
          refine ⟨kvs, gs, ?_, h2, h3, h4, h5, h6, ?_, ?_, h9⟩
          · rw [upd_ne hD.dg]; exact s1 _ _ h1
          · rw [upd_same]; rfl
          · rw [upd_ne h9]; exact s1 _ _ h8
        obtain ⟨kv2, e1, e2, e3, e4⟩ := hd2.rest (r' := y)
        refine ⟨_, rfl, d, _, rfl, .inl ⟨kv2, Sum.inr "rest", e1, rfl, e2, rfl⟩, hN _ _ ⟨y, rfl, e3, ?_⟩⟩
        refine (Fr.of s1).trans (Fr.trans (fun b' o q hb' => ?_) e4)
        rw [upd_ne (fun q2 => hb' (by rw [q2]; simp))]
        exact q
    · subst e
      refine cutAt (fun σ' H' => ∃ (r3 t3 : Int) (v2 v3 v4 : Option V), σ' = [some (.ref d), some (.int m), v2, v3, v4, none] ∧ Dd d g c cs r3 t3 H' ∧ 0 ≤ t3 ∧ t3 ≤ b + 1 ∧ Fr [d, g] H H') (fun N hN => ?_) (fun σ2 H2 ⟨r3, t3, v2, v3, v4, e, hd3, ht0, ht1, fr3⟩ => ?_)
      · refine ⟨_, rfl, d, _, rfl, hd'.rd.2.2.1, rfl, _, rfl, ?_⟩
        refine ite2 (fun cz => ?_) (fun cz => hN _ _ ⟨r', t, none, none, none, rfl, hd', h11, by omega, fr'⟩)
        obtain ⟨kv2, e1, e2, hd2, fr2⟩ := hd'.turn (t' := t + 1)
        refine ⟨_, rfl, d, _, rfl, hd'.rd.2.2.2, _, _, rfl, rfl, _, rfl, d, _, rfl, .inl ⟨kv2, Sum.inr "turn", e1, rfl, e2, rfl⟩, ?_⟩
        obtain ⟨H5, eH5⟩ : ∃ H5, upd H' d (.dK (putK kv2 (Sum.inr "turn") (.int (t + 1)))) = H5 := ⟨_, rfl⟩
        rw [eH5] at hd2 fr2
        have hc5 : H5 c = some (.lst (cs.map V.int)) := by
          obtain ⟨_, _, _, _, _, _, _, _, _, q, _⟩ := hd2.ob
          exact q
        dsimp only
        rw [eH5]
        refine ⟨_, rfl, d, _, rfl, hd2.rd.2.2.2, _, _, rfl, rfl, .inl ⟨by decide, by decide⟩, _, rfl, d, _, rfl, hd2.rd.2.1, c, _, rfl, .inl (SqL.of hc5), _, _, rfl, rfl, ?_⟩
        rw [List.length_map]
        refine ⟨_, rfl, d, _, rfl, hd2.rd.2.1, c, rfl, ⟨_, SqL.of hc5⟩, for_list (K := K) (a := c) (xs := cs.map V.int) (fun i σ6 H6 => ∃ (z : Int) (v3 : Option V), σ6 = [some (.ref d), some (.int m), some (.int z), v3, none, none] ∧ H6 = H5 ∧ 0 ≤ z ∧ z < 4611686018427387904)
          ⟨_, none, rfl, rfl, by omega, by omega⟩ (fun i σ6 H6 _ ⟨_, _, _, e, _⟩ => by rw [e]; exact SqL.of hc5) (fun i x σ6 H6 hi ⟨z, v3, e, eh, z0, z1⟩ => ?_) (fun σ6 H6 ⟨z, v3, e, eh, z0, z1⟩ => ?_)⟩
        · obtain ⟨v, hv, ex⟩ : ∃ v : Int, cs[i]? = some v ∧ x = V.int v := by
            rw [List.getElem?_map] at hi
            cases q : cs[i]? with
            | none => rw [q] at hi; cases hi
            | some m => rw [q] at hi; exact ⟨m, rfl, (Option.some.inj hi).symm⟩
          have eh' := eh.symm
          subst ex e eh'
          refine ⟨_, rfl, _, _, rfl, rfl, .inr ⟨by decide, by decide⟩, _, rfl, _, _, rfl, rfl, _, _, rfl, rfl, .inl ⟨_, rfl, _, _, rfl, rfl, (by show (0 : Int) < 2147483647; decide), _, _, rfl, rfl, by omega, by omega⟩⟩
        · have eh' := eh.symm
          subst e eh'
          refine ⟨3, rfl, by decide, by decide, for_range (n := 3) (fun i σ6 H6 => ∃ (z : Int) (v3 v4 : Option V), σ6 = [some (.ref d), some (.int m), some (.int z), v3, v4, none] ∧ H6 = H5 ∧ 0 ≤ z ∧ z < 4611686018427387904)
            ⟨z, v3, none, rfl, rfl, z0, z1⟩ (fun i σ6 H6 hi ⟨z, v3, v4, e, eh, z0, z1⟩ => ?_) (fun σ6 H6 ⟨z, v3, v4, e, eh, z0, z1⟩ => ?_)⟩
          · have eh' := eh.symm
            subst e eh'
            refine ⟨_, rfl, _, rfl, _, _, rfl, rfl, .inl ⟨by omega, by omega⟩, _, rfl, _, _, rfl, rfl, .inl ⟨by decide, by decide⟩, _, _, rfl, rfl, _, _, rfl, rfl, .inl ⟨_, rfl, _, _, rfl, rfl, (by show (0 : Int) < 2305843009213693951; decide), _, _, _, rfl, rfl, by omega, by omega⟩⟩
          · have eh' := eh.symm
            subst e eh'
            obtain ⟨kv4, e5, e6, hd4, fr4⟩ := hd2.rest (r' := z)
            refine ⟨_, rfl, _, rfl, d, _, rfl, .inl ⟨kv4, Sum.inr "rest", e5, rfl, e6, rfl⟩, hN _ _ ⟨z, t + 1, _, _, _, rfl, hd4, by omega, by omega, (fr'.trans fr2).trans fr4⟩⟩
      · subst e
        have hm' : (0 : Int) < (m : Int) := by omega
        have p0 := Int.emod_nonneg r3 (show (m : Int) ≠ 0 by omega)
        have p1 := Int.emod_lt_of_pos r3 hm'
        refine ⟨_, rfl, d, _, rfl, hd3.rd.2.2.1, .inl ⟨_, rfl, _, rfl, _, _, rfl, rfl, hm', ?_⟩⟩
        obtain ⟨kv4, e5, e6, hd4, fr4⟩ := hd3.rest (r' := r3.fdiv m)
        refine ⟨_, rfl, d, _, rfl, hd3.rd.2.2.1, _, rfl, _, _, rfl, rfl, ⟨by omega, by omega⟩, _, rfl, d, _, rfl, .inl ⟨kv4, Sum.inr "rest", e5, rfl, e6, rfl⟩, ?_⟩
        obtain ⟨rn, ern⟩ : ∃ rn : Nat, r3 % (m : Int) = (rn : Int) := ⟨(r3 % (m : Int)).toNat, by omega⟩
        refine ⟨_, rfl, ?_⟩
        show Q (.int (r3 % (m : Int))) _
        rw [ern]
        obtain ⟨kv5, gs5, q1, q2, q3, q4, q5, q6, q7, q8, q9⟩ := hd4.ob
        exact k rn _ (by omega) ⟨kv5, gs5, cs, _, t3, q1, q2, q3, q4, q5, q6, q7, q8, q9, h10, ht0, by omega⟩ (fr3.trans fr4)
end
end G

end

/-! D11 -/
section
set_option maxHeartbeats 4000000
namespace G
open PySem L2 GK Si M
section
variable {X : Cx}
theorem ix_or {r r' : R2} (h : IxR X r) (h' : IxR X r') : IxR X (fun x y H Q => r x y H Q ∨ r' x y H Q) := by
  intro a b pins s σ H x y v u Q I rx ry q hs
  rcases q with q | q
  · exact h a b pins s σ H x y v u Q I rx ry q hs
  · exact h' a b pins s σ H x y v u Q I rx ry q hs
end
section
variable {P : Program} {w : World} {K : PySem.W.Frag} {mg : Str → Option Value} {base : Heap}
def PickOf (d g c : Addr) (b : Nat) (x : V) (H : Hp) (Q : VK) : Prop :=
  (∃ a xs, x = .ref a ∧ H a = some (.lst xs) ∧ a ≠ g ∧ xs ≠ [] ∧ xs.length ≤ 1000 ∧ ∀ v H', v ∈ xs → Dr d g c (b + 1) H' → Fr [d, g] H H' → Q v H') ∨
  (∃ z : Str, x = .str z ∧ 1 ≤ z.length ∧ z.length ≤ 1000 ∧ ∀ (y : Nat) H', y ∈ z.cps.toList → Dr d g c (b + 1) H' → Fr [d, g] H H' → Q (.str ⟨#[y]⟩) H')
def spPick : Sp := fun vs H Q _ => ∃ (d g c : Addr) (b : Nat) (x : V), vs = [.ref d, x] ∧ Dr d g c b H ∧ b ≤ 1000000 ∧ PickOf d g c b x H Q
theorem sc40 : FnScope ["_law_draw", "_law_some"] ["_law_draw", "_law_some"] (defScope (top 40)) := ⟨rfl, rfl, rfl, by decide +kernel, rfl, by decide +kernel, by decide +kernel⟩
theorem ok_pick {f : Addr} {fd : FuncData} (D : Df K mg "_law_pick" (top 40) ["_law_draw", "_law_some"] f fd) (B : Bi mg) (N : Have P w K mg base 1 "_law_take" ["_law_draw", "_law_size"] spTake) : FnOk P w K mg base CX0 2 f fd ["_law_draw", "_law_some"] spPick := by
  obtain ⟨f1, fd1, G1, m1, k1, b1⟩ := N
  refine D.F.ok sc40 (fun vs H Q E h => ?_) (fun cdv A outer s H vs Q E hr h => ?_)
  · obtain ⟨d, g, c, b, x, rfl, _⟩ := h
    rfl
  · obtain ⟨d, g, c, b, x, rfl, hD, hb, h⟩ := h
    refine ⟨_, pss_one (ps_ret (pe_ix (ix_or ix_list ix_str) (pv 1) (pe_call G1 hr (by rfl) m1 k1 b1 .nil pass0 (pa_cons (pv 0) (pa_cons (pe_callB call_len (by rfl) B.len PySem.boot_len (pa_cons (pv 1) pa_nil)) pa_nil))) (fun _ _ => rfl))), ?_⟩
    rcases h with ⟨a, xs, rfl, ha, nag, hne, hl, k⟩ | ⟨z, rfl, hz1, hz2, k⟩
    · have hpos : 0 < xs.length := List.length_pos_iff.mpr hne
      have hdK : ∃ kvs, H d = some (.dK kvs) := by
        obtain ⟨kvs, _, _, _, _, h1, _⟩ := hD.ob
        exact ⟨kvs, h1⟩
      obtain ⟨kvs, hd⟩ := hdK
      have nad : a ≠ d := ne_of ha hd (by intro z; cases z)
      refine ⟨_, rfl, _, rfl, _, rfl, _, xs.length, rfl, .inl ⟨xs, SqL.of ha, rfl⟩, d, g, c, b, xs.length, rfl, hD, hb, hpos, by omega, fun r H' hr' hD' hF => .inl ?_⟩
      exact ⟨a, xs, _, xs[r], rfl, rfl, SqL.of (hF _ _ ha (by simp [nad, nag])), at_of (j := r) rfl (List.getElem?_eq_getElem hr'), k _ _ (List.getElem_mem hr') hD' hF⟩
    · refine ⟨_, rfl, _, rfl, _, rfl, _, z.length, rfl, ⟨Nat.le_of_lt (small1000 hz2), rfl⟩, d, g, c, b, z.length, rfl, hD, hb, hz1, by omega, fun r H' hr' hD' hF => .inr ?_⟩
      have hr2 : r < z.cps.toList.length := by rw [Array.length_toList]; exact hr'
      exact ⟨z, _, z.cps.toList[r], rfl, rfl, Nat.le_of_lt (small1000 hz2), atI_nat (List.getElem?_eq_getElem hr2), k _ _ (List.getElem_mem hr2) hD' hF⟩
end
end G

end

/-! D12 -/
section
set_option maxHeartbeats 4000000
namespace G
open PySem L2 GK Si M
/-! ### names made of others -/
theorem join_signs (cs : List Nat) : Txt.join "" (cs.map fun c => (⟨#[c]⟩ : Str)) = ⟨cs.toArray⟩ := by
  show Builtin.Str.glued "" (cs.map fun c => (⟨#[c]⟩ : Str)) = _
  have h := PyProof.Rows.join_nil_signs ⟨cs.toArray⟩
  unfold PyProof.Rows.signs at h
  rw [PySem.StrLaws.glued_eq_join]
  exact h
theorem nm_signs {cs : List Nat} (h1 : 1 ≤ cs.length) (h6 : cs.length ≤ 6) (h : ∀ c ∈ cs, c ∈ letters.cps.toList) : Nm ⟨cs.toArray⟩ := ⟨by show 1 ≤ cs.toArray.size; simpa using h1, by show cs.toArray.size ≤ 6; simpa using h6, fun c hc => h c (by simpa using hc)⟩
theorem nm_cut {x : Str} (h1 : 1 ≤ x.length) (hl : ∀ c ∈ x.cps.toList, c ∈ letters.cps.toList) : Nm (cutS x none (some 6)) := by
  unfold cutS
  rw [HT.sIx_none, show (6 : Int) = ((6 : Nat) : Int) from rfl, HT.sIx_nat]
  have hx : x.cps.toList.length = x.length := by rw [Array.length_toList]; rfl
  refine nm_signs ?_ ?_ fun c hc => hl c (List.take_subset _ _ (by rw [List.drop_zero] at hc; exact hc))
  · rw [List.drop_zero, List.length_take]; omega
  · rw [List.drop_zero, List.length_take]; omega
/-- a name cut to five, a letter behind it -/
def near (x : Str) (c : Nat) : Str := cutS x none (some 5) ++ (⟨#[c]⟩ : Str)
theorem near_list (x : Str) (c : Nat) : (near x c).cps.toList = x.cps.toList.take 5 ++ [c] := by
  have hx : x.cps.toList.length = x.length := by rw [Array.length_toList]; rfl
  show ((cutS x none (some 5)).cps ++ #[c]).toList = _
  unfold cutS
  rw [HT.sIx_none, show (5 : Int) = ((5 : Nat) : Int) from rfl, HT.sIx_nat]
  simp
  have h2 : x.length = x.cps.size := rfl
  omega
theorem nm_near {x : Str} (hx : Nm x) {c : Nat} (hc : c ∈ letters.cps.toList) : Nm (near x c) := by
  have e := near_list x c
  have hl : (near x c).length = (near x c).cps.toList.length := by rw [Array.length_toList]; rfl
  refine ⟨?_, ?_, fun y hy => ?_⟩
  · rw [hl, e, List.length_append]; simp
  · rw [hl, e, List.length_append, List.length_take]; simp; omega
  · rw [e] at hy
    rcases List.mem_append.mp hy with hy | hy
    · exact hx.2.2 y (List.take_subset _ _ hy)
    · rw [List.mem_singleton.mp hy]; exact hc
theorem near_inj {x : Str} {c c' : Nat} (h : near x c = near x c') : c = c' := by
  have e := congrArg (fun z : Str => z.cps.toList) h
  simp only [near_list] at e
  have := List.append_cancel_left e
  simpa using this
theorem letters_nodup : letters.cps.toList.Nodup := by decide +kernel
theorem letters_26 : letters.cps.toList.length = 26 := by decide +kernel
theorem nears_new (x : Str) {ws : List Str} (hw : ws.length ≤ 20) : (letters.cps.toList.map (near x)).filter (fun z => decide (z ∉ ws)) ≠ [] := fun h => by
  have nd : (letters.cps.toList.map (near x)).Nodup := by
    have h1 : ∀ l : List Nat, l.Nodup → (l.map (near x)).Nodup := fun l => by
      induction l with
      | nil => intro _; exact List.nodup_nil
      | cons a l ih =>
        intro hl
        obtain ⟨q1, q2⟩ := List.nodup_cons.mp hl
        refine List.nodup_cons.mpr ⟨fun hm => ?_, ih q2⟩
        obtain ⟨b, hb, e⟩ := List.mem_map.mp hm
        exact q1 (by rw [← near_inj e]; exact hb)
    exact h1 _ letters_nodup
  have hs : ∀ z ∈ letters.cps.toList.map (near x), z ∈ ws := fun z hz => by
    rw [List.filter_eq_nil_iff] at h
    have := h z hz
    simpa using this
  have := nodup_le _ ws nd hs
  rw [List.length_map, letters_26] at this
  omega
theorem inV_strs (z : Str) (ws : List Str) : inV (.str z) (ws.map V.str) = decide (z ∈ ws) := by
  unfold inV
  rw [List.any_map, Bool.eq_iff_iff, List.any_eq_true, decide_eq_true_eq]
  constructor
  · rintro ⟨y, hy, e⟩
    have : (y == z) = true := e
    rw [← beq_iff_eq.mp this]; exact hy
  · intro h
    exact ⟨z, h, (beq_iff_eq.mpr rfl : (z == z) = true)⟩
theorem flat_strs (ws : List Str) : (ws.map V.str).all flatV = true := by
  rw [List.all_map, List.all_eq_true]
  intro x _
  rfl
theorem eqv_strs_nil : ∀ gs : List Str, PyData.eqv (.list (gs.map PyData.str)) (.list []) = gs.isEmpty
  | [] => by simp [PyData.eqv, PyData.eqvAll]
  | _ :: _ => by simp [PyData.eqv, PyData.eqvAll]
theorem shaped_strsL {us : List Str} (h : ∀ z ∈ us, Nm z) : SeqAt.shaped (.list (us.map PyData.str)) = true := by
  have e := shaped_strs h
  have e' : (PyData.canLay0 (.tuple (us.map PyData.str)) && decide (PyData.depth (.tuple (us.map PyData.str)) ≤ 64)) = true := e
  show (PyData.canLay0 (.list (us.map PyData.str)) && decide (PyData.depth (.list (us.map PyData.str)) ≤ 64)) = true
  simpa [PyData.canLay0, PyData.depth] using e'
section
variable {P : Program} {w : World} {K : PySem.W.Frag} {mg : Str → Option Value} {base : Heap}
def nWords : List Str := ["_law_draw", "_law_size", "_law_letters", "_law_found", "_law_turn", "_law_long", "_law_word", "_law_way", "_law_sign", "_law_letter", "_law_near"]
theorem sc41 : FnScope nWords ["_law_draw", "_law_size"] (defScope (top 41)) := ⟨rfl, rfl, rfl, by decide +kernel, rfl, by decide +kernel, by decide +kernel⟩
def spWords : Sp := fun vs H Q _ => ∃ (d g c : Addr) (b m : Nat), vs = [.ref d, .int (m : Int)] ∧ Dr d g c b H ∧ b ≤ 900000 ∧ 1 ≤ m ∧ m ≤ 5 ∧ ∀ (a : Addr) (ws : List Str) H', ws.length = m → (∀ z ∈ ws, Nm z) → H a = none → H' a = some (.lst (ws.map V.str)) → Dr d g c (b + 200) H' → Fr [d, g] H H' → Q (.ref a) H'
theorem ok_words {f : Addr} {fd : FuncData} (D : Df K mg "_law_words" (top 41) ["_law_draw", "_law_size"] f fd) (B : Bi mg) (N1 : Have P w K mg base 1 "_law_take" ["_law_draw", "_law_size"] spTake) (N2 : Have P w K mg base 2 "_law_pick" ["_law_draw", "_law_some"] spPick) : FnOk P w K mg base CX0 3 f fd ["_law_draw", "_law_size"] spWords := by
  obtain ⟨f1, fd1, G1, m1, k1, b1⟩ := N1
  obtain ⟨f2, fd2, G2, m2, k2, b2⟩ := N2
  refine D.F.ok sc41 (fun vs H Q E h => ?_) (fun cdv A outer s H vs Q E hr h => ?_)
  · obtain ⟨d, g, c, b, m, rfl, _⟩ := h
    rfl
  · obtain ⟨d, g, c, b, m, rfl, hD, hb, hm1, hm5, k⟩ := h
    have hr1 : Room 1 _ := hr.mono (by decide)
    refine ⟨_, pss_cons (ps_asg (pe_tup (pa_cons pe_str (pa_cons (pe_lst pa_nil) pa_nil))) (pg_tup rfl (pgs_cons (pg_name (i := 2) sc41.nd rfl (.inr rfl)) (pgs_cons (pg_name (i := 3) sc41.nd rfl (.inr rfl)) pgs_nil))))
      (pss_cons (ps_for PassesOwn.never rfl (pi_range1 (by rfl) B.range (pa_cons (pv 1) pa_nil)) (pg_name (i := 4) sc41.nd rfl (.inl rfl))
        (pss_cons (ps_set (i := 5) sc41.nd rfl (.inl rfl) (pe_op op_add pe_int (pe_call G1 hr1 (by rfl) m1 k1 b1 .nil pass0 (pa_cons (pv 0) (pa_cons (pe_call G2 hr (by rfl) m2 k2 b2 .nil pass0 (pa_cons (pv 0) (pa_cons (pe_lst (pa_cons pe_int (pa_cons pe_int (pa_cons pe_int (pa_cons pe_int pa_nil))))) pa_nil))) pa_nil)))))
        (pss_cons (ps_set (i := 6) sc41.nd rfl (.inr rfl) (pe_bm PySem.F.plainAttrs_str PySem.F.slot_str_join PySem.F.type_str_join mt_join pe_str (pa_cons
            (pe_lc (own := [("_law_sign", 8)]) (g := gName 8) (tt := tYes) rfl sc41.nd (pi_range1 (by rfl) B.range (pa_cons (pv 5) pa_nil)) (blkOk_by (N := nWords) (sc := defScope (top 41)) (by decide +kernel))
              (fun _ _ _ _ _ => pg_name (i := 8) sc41.nd rfl (.inl rfl)) (fun _ _ _ _ _ => pts_nil) (fun _ _ _ _ _ => pe_call G2 hr (by rfl) m2 k2 b2 .nil pass0 (pa_cons (pv 0) (pa_cons (pv 2) pa_nil)))) pa_nil)))
        (pss_cons (ps_set (i := 7) sc41.nd rfl (.inl rfl) (pe_call G1 hr1 (by rfl) m1 k1 b1 .nil pass0 (pa_cons (pv 0) (pa_cons pe_int pa_nil))))
        (pss_cons (ps_if (pt_cmpR op_eq (pv 7) pe_int (nomark _)) (pss_one (ps_set (i := 6) sc41.nd rfl (.inr rfl) (pe_call G2 hr (by rfl) m2 k2 b2 .nil pass0 (pa_cons (pv 0) (pa_cons (pe_lst (pa_cons pe_str (pa_cons pe_str (pa_cons pe_str (pa_cons pe_str (pa_cons pe_str (pa_cons pe_str (pa_cons pe_str (pa_cons pe_str (pa_cons pe_str (pa_cons pe_str (pa_cons pe_str pa_nil)))))))))))) pa_nil))))) pss_nil)
        (pss_cons (ps_if (pw_and (pt_cmpR op_lt (pv 7) pe_int (by rfl)) (pw_and1 (pt_cmpR (op_neD hr.units) (pv 3) (pe_lst pa_nil) (by rfl)))).pt
          (pss_one (ps_set (i := 6) sc41.nd rfl (.inr rfl) (pe_slice sl_str (pe_op op_add_str (pe_call G2 hr (by rfl) m2 k2 b2 .nil pass0 (pa_cons (pv 0) (pa_cons (pv 3) pa_nil))) (pe_call G2 hr (by rfl) m2 k2 b2 .nil pass0 (pa_cons (pv 0) (pa_cons (pv 3) pa_nil)))) po_none (po_some pe_int)))) pss_nil)
        (pss_cons (ps_if (pt_cmpR op_in_seq (pv 6) (pv 3) (by rfl))
          (pss_one (ps_set (i := 6) sc41.nd rfl (.inr rfl) (pe_ix ix_list (pe_lc (own := [("_law_near", 10)]) (g := gName 10) rfl sc41.nd
            (pi_list (pe_lc (own := [("_law_letter", 9)]) (g := gName 9) (tt := tYes) rfl sc41.nd (pi_str (pv 2)) (blkOk_by (N := nWords) (sc := defScope (top 41)) (by decide +kernel))
              (fun _ _ _ _ _ => pg_name (i := 9) sc41.nd rfl (.inl rfl)) (fun _ _ _ _ _ => pts_nil) (fun _ _ _ _ _ => pe_op op_add_str (pe_slice sl_str (pv 6) po_none (po_some pe_int)) (pv 9))))
            (blkOk_by (N := nWords) (sc := defScope (top 41)) (by decide +kernel))
            (fun _ _ _ _ _ => pg_name (i := 10) sc41.nd rfl (.inl rfl)) (fun _ _ _ _ _ => pts_one (pt_cmpR (r := rIn K true) op_notIn_seq (pv 10) (pv 3) (by rfl))) (fun _ _ _ _ _ => pv 10)) pe_int (fun _ _ => rfl)))) pss_nil)
        (pss_one (ps_expr (pe_bm PySem.F.plainAttrs_list PySem.F.slot_list_append PySem.F.type_list_append mt_append (pv 3) (pa_cons (pv 6) pa_nil)))))))))))
      (pss_one (ps_ret (pv 3)))), ?_⟩
    refine ⟨(by show 0 ≤ sizeLine; decide), fun p hp => ⟨(by show 2 ≤ sizeLine; decide), fun tp htp => ?_⟩⟩
    have s1 : Same H (upd H p (.lst [])) := Same.put (Same.refl H) hp
    have s2 : Same H (upd (upd H p (.lst [])) tp (.tup [.str letters, .ref p])) := s1.one htp
    have npt : p ≠ tp := ne_of_none upd_same htp
    refine ⟨tp, _, rfl, SqT.of' upd_same, rfl, _, _, rfl, _, _, rfl, rfl, ?_⟩
    have npdg := hD.no hp
    refine ⟨_, rfl, _, rfl, by omega, by omega, ?_⟩
    rw [show ((m : Int)).toNat = m by omega]
    refine for_range (n := m) (fun i σ H' => ∃ (ws : List Str) (v4 v5 v6 v7 : Option V), σ = [some (.ref d), some (.int m), some (.str letters), some (.ref p), v4, v5, v6, v7, none, none, none] ∧ H' p = some (.lst (ws.map V.str)) ∧ ws.length = i ∧ (∀ z ∈ ws, Nm z) ∧ Dr d g c (b + 20 * i) H' ∧ Fr [d, g] H H')
      ⟨[], none, none, none, none, rfl, by rw [upd_ne npt, upd_same]; rfl, rfl, by simp, hD.same s2, Fr.of s2⟩ (fun i σ H1 hi ⟨ws, v4, v5, v6, v7, e, hp1, hwl, hN', hD1, hF1⟩ => ?_) (fun σ H1 ⟨ws, v4, v5, v6, v7, e, hp1, hwl, hN', hD1, hF1⟩ => ?_)
    · subst e
      -- long
      refine ⟨_, rfl, _, rfl, (by show 4 ≤ sizeLine; decide), fun l hl => ?_⟩
      have sl : Same H1 (upd H1 l (.lst [.int 1, .int 1, .int 2, .int 6])) := Same.put (Same.refl _) hl
      refine ⟨d, g, c, _, .ref l, rfl, hD1.same sl, by omega, .inl ⟨l, _, rfl, upd_same, (hD1.new hl).2.1, by simp, (by show 4 ≤ 1000; decide), fun v H2 hv hD2 hF2 => ?_⟩⟩
      obtain ⟨mm, ev, hm1', hm6⟩ : ∃ mm : Nat, v = .int (mm : Int) ∧ 1 ≤ mm ∧ mm ≤ 6 := by
        simp at hv
        rcases hv with h | h | h
        · exact ⟨1, h, by decide, by decide⟩
        · exact ⟨2, h, by decide, by decide⟩
        · exact ⟨6, h, by decide, by decide⟩
      subst ev
      refine ⟨d, g, c, _, mm, rfl, hD2, by omega, by omega, by omega, fun r H3 hr3 hD3 hF3 => ⟨_, _, rfl, rfl, ?_⟩⟩
      have F3 : Fr [d, g] H1 H3 := ((Fr.of sl).trans hF2).trans hF3
      have hp3 : H3 p = some (.lst (ws.map V.str)) := F3 _ _ hp1 npdg
      -- word
      refine ⟨rfl, _, rfl, _, rfl, by omega, by omega, fun C hC => ?_⟩
      have nC := hD3.no hC
      have nC3 := hD3.new hC
      have nCp : p ≠ C := ne_of_none hp3 hC
      rw [show ((1 : Int) + (r : Int)).toNat = r + 1 by omega]
      refine lc_range (fun j H' => ∃ cs : List Nat, H' C = some (.lst ((cs.map fun c => (⟨#[c]⟩ : Str)).map V.str)) ∧ cs.length = j ∧ (∀ c ∈ cs, c ∈ letters.cps.toList) ∧ H' p = some (.lst (ws.map V.str)) ∧ Dr d g c (b + 20 * i + 2 + j) H' ∧ Fr [d, g] H H')
        ⟨[], upd_same, rfl, by simp, by rw [upd_ne nCp]; exact hp3, (hD3.same (Same.put (Same.refl _) hC)).mono (by omega), (hF1.trans F3).trans (Fr.of (Same.put (Same.refl _) hC))⟩ (fun j H4 hj ⟨cs, hC4, hcl, hcN, hp4, hD4, hF4⟩ => ?_) (fun H4 ⟨cs, hC4, hcl, hcN, hp4, hD4, hF4⟩ => ?_)
      · refine ⟨rfl, yesI ⟨_, rfl, _, rfl, d, g, c, _, .str letters, rfl, hD4, by omega, .inr ⟨letters, rfl, by decide +kernel, by decide +kernel, fun y H5 hc hD5 hF5 => ?_⟩⟩⟩
        refine ⟨_, hF5 _ _ hC4 nC, small1000 (by rw [List.length_map, List.length_map]; omega), cs ++ [y], ?_, by simp; omega, fun y' hy => ?_, ?_, ?_, ?_⟩
        · rw [upd_same, List.map_append, List.map_append]
          rfl
        · rcases List.mem_append.mp hy with hy | hy
          · exact hcN y' hy
          · rw [List.mem_singleton.mp hy]; exact hc
        · rw [upd_ne nCp]; exact hF5 _ _ hp4 npdg
        · exact (hD5.put nC3).mono (by omega)
        · exact Fr.put (hF1.trans F3) hC (hF4.trans hF5)
      · obtain ⟨wd, ewd⟩ : ∃ wd : Str, (⟨cs.toArray⟩ : Str) = wd := ⟨_, rfl⟩
        have hwd : Nm wd := by rw [← ewd]; exact nm_signs (by omega) (by omega) hcN
        refine ⟨"", C, _, rfl, rfl, .inl (SqL.of hC4), ?_, ?_⟩
        · have e1 : ((cs.map fun c => (⟨#[c]⟩ : Str)).map (·.length)).sum = cs.length := by
            rw [List.map_map]
            have : ∀ l : List Nat, (l.map ((fun x : Str => x.length) ∘ fun c => (⟨#[c]⟩ : Str))).sum = l.length := fun l => by
              induction l with
              | nil => rfl
              | cons a l ih =>
                rw [List.map_cons, List.sum_cons, ih]
                show 1 + l.length = l.length + 1
                omega
            exact this cs
          rw [e1, show (("" : Str)).length = 0 from rfl]
          omega
        rw [join_signs, ewd]
        -- way
        refine ⟨_, rfl, d, g, c, _, 8, rfl, hD4, by omega, by decide, by decide, fun way H5 hway hD5 hF5 => ?_⟩
        have hp5 : H5 p = some (.lst (ws.map V.str)) := hF5 _ _ hp4 npdg
        have F5 := hF4.trans hF5
        dsimp only [gName]
        refine cutAt (fun σ' H' => ∃ wd : Str, σ' = [some (.ref d), some (.int m), some (.str letters), some (.ref p), some (.int (0 + (i : Int))), some (.int (1 + (r : Int))), some (.str wd), some (.int (way : Int)), none, none, none] ∧ Nm wd ∧ H' p = some (.lst (ws.map V.str)) ∧ Dr d g c (b + 20 * i + 11) H' ∧ Fr [d, g] H H') (fun N hN => ?_) (fun σ6 H6 ⟨wd, e, hwd, hp6, hD6, hF6⟩ => ?_)
        · refine ⟨_, rfl, rfl, _, rfl, ?_⟩
          refine ite2 (fun cz => ?_) (fun cz => hN _ _ ⟨wd, rfl, hwd, hp5, hD5.mono (by omega), F5⟩)
          refine ⟨_, rfl, (by show 11 ≤ sizeLine; decide), fun l2 hl2 => ?_⟩
          have sl2 : Same H5 (upd H5 l2 (.lst [.str "has", .str "left", .str "many", .str "yes", .str "no", .str "ok", .str "came", .str "what", .str "undo", .str "like", .str "full"])) := Same.put (Same.refl _) hl2
          refine ⟨d, g, c, _, .ref l2, rfl, hD5.same sl2, by omega, .inl ⟨l2, _, rfl, upd_same, (hD5.new hl2).2.1, by simp, (by show 11 ≤ 1000; decide), fun v H6 hv hD6 hF6 => ?_⟩⟩
          obtain ⟨z, ez, hz⟩ : ∃ z : Str, v = .str z ∧ Nm z := by
            have hall : ∀ z ∈ (["has", "left", "many", "yes", "no", "ok", "came", "what", "undo", "like", "full"] : List Str), 1 ≤ z.length ∧ z.length ≤ 6 ∧ ∀ c ∈ z.cps.toList, c ∈ letters.cps.toList := by decide +kernel
            have hv' : v ∈ (["has", "left", "many", "yes", "no", "ok", "came", "what", "undo", "like", "full"] : List Str).map V.str := hv
            obtain ⟨z, hz, e⟩ := List.mem_map.mp hv'
            exact ⟨z, e.symm, hall z hz⟩
          subst ez
          have f6 := (Fr.of sl2).trans hF6
          exact hN _ _ ⟨z, rfl, hz, f6 _ _ hp5 npdg, hD6.mono (by omega), F5.trans f6⟩
        · subst e
          refine cutAt (fun σ' H' => ∃ wd : Str, σ' = [some (.ref d), some (.int m), some (.str letters), some (.ref p), some (.int (0 + (i : Int))), some (.int (1 + (r : Int))), some (.str wd), some (.int (way : Int)), none, none, none] ∧ Nm wd ∧ H' p = some (.lst (ws.map V.str)) ∧ Dr d g c (b + 20 * i + 13) H' ∧ Fr [d, g] H H') (fun N hN => ?_) (fun σ7 H7 ⟨wd, e, hwd, hp7, hD7, hF7⟩ => ?_)
          · refine ⟨_, rfl, _, _, rfl, rfl, _, rfl, ?_⟩
            refine ite2 (fun cz => ?_) (fun cz => iteF (hN _ _ ⟨wd, rfl, hwd, hp6, hD6.mono (by omega), hF6⟩))
            refine ⟨_, rfl, (by show 0 ≤ sizeLine; decide), fun q hq => ?_⟩
            have sq : Same H6 (upd H6 q (.lst [])) := Same.put (Same.refl _) hq
            refine ⟨_, _, Dp.lst (SqL.of (sq _ _ hp6)) (dp_strs ws), Dp.lst (SqL.of upd_same) .nil, ?_, shaped_nil, _, rfl, ?_⟩
            · exact shaped_strsL hN'
            rw [eqv_strs_nil]
            cases hws : ws.isEmpty with
            | true => exact iteF (hN _ _ ⟨wd, rfl, hwd, sq _ _ hp6, (hD6.same sq).mono (by omega), hF6.trans (Fr.of sq)⟩)
            | false =>
              have hne : ws ≠ [] := fun e => by rw [e] at hws; cases hws
              refine iteT ?_
              have npg : p ≠ g := fun e => npdg (by rw [e]; simp)
              have get : ∀ v : V, v ∈ ws.map V.str → ∃ z : Str, v = .str z ∧ Nm z := fun v hv => by
                obtain ⟨z, hz, e⟩ := List.mem_map.mp hv
                exact ⟨z, e.symm, hN' z hz⟩
              refine ⟨_, rfl, _, rfl, d, g, c, _, .ref p, rfl, hD6.same sq, by omega, .inl ⟨p, _, rfl, sq _ _ hp6, npg, by simpa using hne, by rw [List.length_map]; omega, fun v1 H8 hv1 hD8 hF8 => ?_⟩⟩
              obtain ⟨z1, rfl, hz1⟩ := get v1 hv1
              have hp8 := hF8 _ _ (sq _ _ hp6) npdg
              refine ⟨_, rfl, _, rfl, d, g, c, _, .ref p, rfl, hD8, by omega, .inl ⟨p, _, rfl, hp8, npg, by simpa using hne, by rw [List.length_map]; omega, fun v2 H9 hv2 hD9 hF9 => ?_⟩⟩
              obtain ⟨z2, rfl, hz2⟩ := get v2 hv2
              have hl12 : (z1 ++ z2).length = z1.length + z2.length := Array.size_append ..
              refine ⟨z1, z2, rfl, rfl, by have := hz1.2.1; have := hz2.2.1; exact Nat.le_of_lt (small1000 (by omega)), _, rfl, z1 ++ z2, rfl, by have := hz1.2.1; have := hz2.2.1; exact Nat.le_of_lt (small1000 (by omega)), ?_⟩
              refine hN _ _ ⟨_, rfl, nm_cut (by rw [hl12]; have := hz1.1; omega) fun y hy => ?_, hF9 _ _ hp8 npdg, hD9.mono (by omega), ((hF6.trans (Fr.of sq)).trans hF8).trans hF9⟩
              have hy' : y ∈ (z1.cps ++ z2.cps).toList := hy
              rw [Array.toList_append] at hy'
              rcases List.mem_append.mp hy' with h | h
              · exact hz1.2.2 y h
              · exact hz2.2.2 y h
          · subst e
            refine cutAt (fun σ' H' => ∃ wd : Str, σ' = [some (.ref d), some (.int m), some (.str letters), some (.ref p), some (.int (0 + (i : Int))), some (.int (1 + (r : Int))), some (.str wd), some (.int (way : Int)), none, none, none] ∧ Nm wd ∧ H' p = some (.lst (ws.map V.str)) ∧ Dr d g c (b + 20 * i + 13) H' ∧ Fr [d, g] H H') (fun N hN => ?_) (fun σ8 H8 ⟨wd, e, hwd, hp8, hD8, hF8⟩ => ?_)
            · refine ⟨_, rfl, _, rfl, p, _, rfl, .inl (SqL.of hp7), rfl, flat_strs ws, _, rfl, ?_⟩
              rw [inV_strs]
              refine ite2 (fun cz => ?_) (fun cz => hN _ _ ⟨wd, rfl, hwd, hp7, hD7, hF7⟩)
              have hwl5 : wd.length ≤ sizeLine := Nat.le_of_lt (small1000 (by have := hwd.2.1; omega))
              refine ⟨_, rfl, letters, rfl, fun D1 hD1 => ?_⟩
              have n1p : p ≠ D1 := ne_of_none hp7 hD1
              refine lc_gen letters.cps.size (fun j H' => H' = upd H7 D1 (.lst (((letters.cps.toList.take j).map (near wd)).map V.str))) rfl (fun j H' hj _ => hj) (fun H' _ => Nat.le_refl _) (fun j x H9 H10 hj e y => ?_) (fun H9 e => ?_)
              · obtain ⟨e2, y, hy, rfl⟩ := y
                subst e2 e
                have hyl : letters.cps.toList[j]? = some y := by rw [Array.getElem?_toList]; exact hy
                have tk : letters.cps.toList.take (j + 1) = letters.cps.toList.take j ++ [y] := by rw [List.take_succ, hyl]; rfl
                have hcl : (cutS wd none (some 5)).length ≤ 900 := by
                  have e1 : (near wd y).length ≤ 6 := (nm_near hwd (List.mem_of_getElem? hyl)).2.1
                  have e2 : (near wd y).length = (cutS wd none (some 5)).length + 1 := Array.size_append ..
                  omega
                refine ⟨rfl, yesI ⟨_, rfl, _, rfl, wd, rfl, hwl5, _, rfl, _, _, rfl, rfl, Nat.le_of_lt (small1000 (by show _ + 1 ≤ 1000; omega)), _, upd_same, small1000 ?_, ?_⟩⟩
                · rw [List.length_map, List.length_map, List.length_take]
                  have : letters.cps.toList.length = 26 := letters_26
                  omega
                · rw [upd_upd, tk, List.map_append, List.map_append]
                  rfl
              · subst e
                have hall : letters.cps.toList.take letters.cps.size = letters.cps.toList := List.take_of_length_le (by rw [Array.length_toList]; exact Nat.le_refl _)
                rw [hall]
                obtain ⟨nears, enr⟩ : ∃ nears, letters.cps.toList.map (near wd) = nears := ⟨_, rfl⟩
                rw [enr]
                have hnl : nears.length = 26 := by rw [← enr, List.length_map]; exact letters_26
                have hnew : nears.filter (fun z => decide (z ∉ ws)) ≠ [] := by rw [← enr]; exact nears_new wd (by omega)
                have hnN : ∀ z ∈ nears, Nm z := fun z hz => by
                  rw [← enr] at hz
                  obtain ⟨y, hy, e⟩ := List.mem_map.mp hz
                  rw [← e]; exact nm_near hwd hy
                refine ⟨D1, rfl, ⟨_, SqL.of upd_same⟩, fun D2 hD2 => ?_⟩
                have n12 : D1 ≠ D2 := ne_of_none upd_same hD2
                have n2p : p ≠ D2 := ne_of_none (show upd H7 D1 (.lst (nears.map V.str)) p = _ by rw [upd_ne n1p]; exact hp7) hD2
                refine lc_list (xs := nears.map V.str) (fun j H' => H' = upd (upd H7 D1 (.lst (nears.map V.str))) D2 (.lst (((nears.take j).filter fun z => decide (z ∉ ws)).map V.str))) rfl (fun j H' _ e => SqL.of (by rw [e, upd_ne n12, upd_same])) (fun j x H9 hj e => ?_) (fun H9 e => ?_)
                · obtain ⟨hj, ex, et⟩ := map_get hj
                  subst ex e
                  refine ⟨rfl, _, rfl, _, rfl, p, _, rfl, .inl (SqL.of (by rw [upd_ne n2p, upd_ne n1p]; exact hp7)), rfl, flat_strs ws, _, rfl, ?_⟩
                  rw [inV_strs, if_pos rfl, et, List.filter_append]
                  by_cases cm : nears[j] ∈ ws
                  · rw [decide_eq_true cm]
                    refine iteF ?_
                    rw [show [nears[j]].filter (fun z => decide (z ∉ ws)) = [] by simp [cm], List.append_nil]
                  · rw [decide_eq_false cm]
                    refine iteT ⟨_, rfl, _, upd_same, small1000 ?_, ?_⟩
                    · rw [List.length_map]
                      have := List.length_filter_le (fun z => decide (z ∉ ws)) (nears.take j)
                      rw [List.length_take] at this
                      omega
                    · rw [upd_upd, show [nears[j]].filter (fun z => decide (z ∉ ws)) = [nears[j]] by simp [cm], List.map_append]
                      rfl
                · subst e
                  rw [List.length_map, List.take_length]
                  obtain ⟨y0, l0, el⟩ : ∃ y0 l0, nears.filter (fun z => decide (z ∉ ws)) = y0 :: l0 := by
                    cases q : nears.filter (fun z => decide (z ∉ ws)) with
                    | nil => exact absurd q hnew
                    | cons y0 l0 => exact ⟨y0, l0, rfl⟩
                  have hy0 : y0 ∈ nears := (List.mem_filter.mp (show y0 ∈ nears.filter (fun z => decide (z ∉ ws)) by rw [el]; simp)).1
                  rw [el]
                  refine ⟨D2, _, 0, .str y0, rfl, rfl, SqL.of upd_same, at_of (j := 0) rfl rfl, hN _ _ ⟨y0, rfl, hnN y0 hy0, by rw [upd_ne n2p, upd_ne n1p]; exact hp7, ?_, ?_⟩⟩
                  · exact (hD7.put (hD7.new hD1)).put ((hD7.put (hD7.new hD1)).new hD2)
                  · exact hF7.trans (Fr.of ((Same.put (Same.refl _) hD1).trans (Same.put (Same.refl _) hD2)))
            · subst e
              refine ⟨_, rfl, .inl ⟨rfl, _, SqL.of hp8⟩, _, rfl, p, _, _, rfl, rfl, hp8, small1000 (by rw [List.length_map]; omega), ?_⟩
              have npc : p ≠ d ∧ p ≠ g ∧ p ≠ c := hD.new hp
              refine ⟨ws ++ [wd], _, _, _, _, rfl, by rw [upd_same, List.map_append]; rfl, by simp [hwl], fun z hz => ?_, (hD8.put npc).mono (by omega), Fr.put (Fr.refl [d, g] H) hp hF8⟩
              rcases List.mem_append.mp hz with hz | hz
              · exact hN' z hz
              · rw [List.mem_singleton.mp hz]; exact hwd
    · subst e
      exact ⟨_, rfl, k p ws H1 hwl hN' hp hp1 (hD1.mono (by omega)) hF1⟩
end
end G

end

/-! D13 -/
section
set_option maxHeartbeats 4000000
namespace G
open PySem L2 GK Si M
section
variable {P : Program} {w : World} {K : PySem.W.Frag} {mg : Str → Option Value} {base : Heap}
theorem sc43 : FnScope ["_law_line", "_law_events_here", "_law_at", "_law_event"] ["_law_line", "_law_events_here"] (defScope (top 43)) := ⟨rfl, rfl, rfl, by decide +kernel, rfl, by decide +kernel, by decide +kernel⟩
def spOccurs : Sp := fun vs H Q _ => ∃ (r a : Addr) (row l : List Str), vs = [.ref r, .ref a] ∧ H r = some (.lst (row.map V.str)) ∧ H a = some (.lst (l.map V.str)) ∧ ∀ b : Bool, (b = true ↔ row.Sublist l) → Q (.bl b) H
theorem ok_occurs {f : Addr} {fd : FuncData} (D : Df K mg "_law_occurs" (top 43) ["_law_line", "_law_events_here"] f fd) (B : Bi mg) : FnOk P w K mg base CX0 1 f fd ["_law_line", "_law_events_here"] spOccurs := by
  refine D.F.ok sc43 (fun vs H Q E h => ?_) (fun cdv A outer s H vs Q E hr h => ?_)
  · obtain ⟨r, a, row, l, rfl, _⟩ := h
    rfl
  · obtain ⟨r, a, row, l, rfl, hR, hS, k⟩ := h
    refine ⟨_, pss_cons (ps_set (i := 2) sc43.nd rfl (.inl rfl) pe_int)
      (pss_cons (ps_for PassesOwn.never rfl (pi_list (pv 1)) (pg_name (i := 3) sc43.nd rfl (.inl rfl))
        (pss_one (ps_if (pw_and (pt_cmpR op_lt (pv 2) (pe_callB call_len_seq (by rfl) B.len PySem.boot_len (pa_cons (pv 0) pa_nil)) (by rfl)) (pw_and1 (pt_cmpR op_eq (pe_ix ix_list (pv 0) (pv 2) (fun _ _ => rfl)) (pv 3) (by rfl)))).pt
          (pss_one (ps_set (i := 2) sc43.nd rfl (.inl rfl) (pe_op op_add (pv 2) pe_int))) pss_nil)))
      (pss_one (ps_ret (pe_cmpR op_eq (pv 2) (pe_callB call_len_seq (by rfl) B.len PySem.boot_len (pa_cons (pv 0) pa_nil)) (by rfl))))), ?_⟩
    refine ⟨_, rfl, a, rfl, ⟨_, SqL.of hS⟩, for_list (K := K) (a := a) (xs := l.map V.str) (fun i σ H' => ∃ (n : Nat) (v3 : Option V), σ = [some (.ref r), some (.ref a), some (.int (n : Int)), v3] ∧ H' = H ∧ n ≤ row.length ∧ (row.Sublist l ↔ (row.drop n).Sublist (l.drop i)))
      ⟨0, none, rfl, rfl, Nat.zero_le _, Iff.rfl⟩ (fun i σ H' _ ⟨_, _, _, e, _⟩ => by rw [e]; exact SqL.of hS) (fun i x σ H' hi ⟨n, v3, e, e2, hn, hiff⟩ => ?_) (fun σ H' ⟨n, v3, e, e2, hn, hiff⟩ => ?_)⟩
    · obtain ⟨hil, ex, et⟩ := map_get hi
      subst ex e e2
      have hdrop : l.drop i = l[i] :: l.drop (i + 1) := List.drop_eq_getElem_cons hil
      rw [hdrop] at hiff
      refine ⟨_, rfl, _, rfl, r, _, rfl, .inl (SqL.of hR), _, _, rfl, rfl, _, rfl, ?_⟩
      rw [List.length_map]
      refine ite2 (fun c => ?_) (fun c => ?_)
      · have c' : n < row.length := by have := of_decide_eq_true c; omega
        have hrow : row.drop n = row[n] :: row.drop (n + 1) := List.drop_eq_getElem_cons c'
        rw [hrow] at hiff
        refine ⟨_, rfl, _, rfl, r, _, _, .str row[n], rfl, rfl, SqL.of hR, at_of (j := n) rfl (by simp [c']), _, rfl, rfl, _, rfl, ?_⟩
        refine ite2 (fun c2 => ?_) (fun c2 => ?_)
        · have e : row[n] = l[i] := by
            have := of_decide_eq_true c2
            injection this
          refine ⟨_, rfl, _, _, rfl, rfl, n + 1, _, rfl, rfl, by omega, ?_⟩
          rw [hiff, e]
          exact ⟨fun s => tail_sub s, fun s => s.cons_cons _⟩
        · have e : row[n] ≠ l[i] := fun q => c2 (decide_eq_true (by rw [q]))
          refine ⟨n, _, rfl, rfl, hn, ?_⟩
          rw [hiff, hrow]
          exact ⟨fun s => skip_sub s e, fun s => s.cons _⟩
      · have c' : n = row.length := by
          have : ¬ ((n : Int) < (row.length : Int)) := fun q => c (decide_eq_true q)
          omega
        refine iteF ⟨n, _, rfl, rfl, hn, ?_⟩
        rw [hiff, c', List.drop_length]
        exact ⟨fun _ => List.nil_sublist _, fun _ => List.nil_sublist _⟩
    · subst e e2
      rw [List.length_map, List.drop_length] at hiff
      refine ⟨_, rfl, _, rfl, r, _, rfl, .inl (SqL.of hR), rfl, k _ ?_⟩
      rw [List.length_map, decide_eq_true_eq, hiff, List.sublist_nil]
      constructor
      · intro e
        injection e with e
        rw [show n = row.length by omega, List.drop_length]
      · intro e
        have := congrArg List.length e
        rw [List.length_drop] at this
        simp at this
        congr 1
        omega
theorem sc42 : FnScope ["_law_draw", "_law_words_here", "_law_most", "_law_found", "_law_size", "_law_begin"] ["_law_draw", "_law_words_here", "_law_most"] (defScope (top 42)) := ⟨rfl, rfl, rfl, by decide +kernel, rfl, by decide +kernel, by decide +kernel⟩
/-- the words stand at a -/
structure Wd (H : Hp) (a : Addr) (ws : List Str) : Prop where
  at_ : H a = some (.lst (ws.map V.str))
  nm : ∀ z ∈ ws, Nm z
  len : ws.length ≤ 5
  pos : ws ≠ []
theorem Wd.fr {S : List Addr} {H H' : Hp} {a : Addr} {ws : List Str} (h : Wd H a ws) (e : Fr S H H') (n : a ∉ S) : Wd H' a ws := ⟨e _ _ h.at_ n, h.nm, h.len, h.pos⟩
theorem Wd.frN {S : List Addr} {H H' : Hp} {a : Addr} {ws : List Str} (h : Wd H a ws) (e : FrN S H H') (n : a ∉ S) : Wd H' a ws := ⟨e _ _ h.at_ (fun _ z => by cases z) n, h.nm, h.len, h.pos⟩
theorem Wd.pick {H : Hp} {a d g c : Addr} {b : Nat} {ws : List Str} {Q : VK} (h : Wd H a ws) (n : a ≠ g) (q : ∀ z H', z ∈ ws → Dr d g c (b + 1) H' → Fr [d, g] H H' → Q (.str z) H') : PickOf d g c b (.ref a) H Q := by
  refine .inl ⟨a, _, rfl, h.at_, n, by simpa using h.pos, by rw [List.length_map]; have := h.len; omega, fun v H' hv hD hF => ?_⟩
  obtain ⟨z, hz, e⟩ := List.mem_map.mp hv
  subst e
  exact q z H' hz hD hF
def lenL (H : Hp) : Option (Option V) → Nat
  | some (some (.ref p)) => match H p with | some (.lst xs) => xs.length | _ => 0
  | _ => 0
theorem lenL_of {H : Hp} {p : Addr} {xs : List V} (h : H p = some (.lst xs)) : lenL H (some (some (.ref p))) = xs.length := by
  show (match H p with | some (HO.lst xs) => xs.length | _ => 0) = _
  rw [h]
def spEvents : Sp := fun vs H Q _ => ∃ (d g c : Addr) (b : Nat) (a : Addr) (ws : List Str) (m : Nat), vs = [.ref d, .ref a, .int (m : Int)] ∧ Dr d g c b H ∧ b ≤ 800000 ∧ Wd H a ws ∧ a ≠ g ∧ m ≤ 120 ∧
  ∀ (p : Addr) (es : List Str) H', es.length ≤ 120 → (∀ z ∈ es, z ∈ ws) → H p = none → H' p = some (.lst (es.map V.str)) → Dr d g c (b + 1000) H' → Fr [d, g] H H' → Q (.ref p) H'
theorem ok_events {f : Addr} {fd : FuncData} (D : Df K mg "_law_events" (top 42) ["_law_draw", "_law_words_here", "_law_most"] f fd) (B : Bi mg) (N1 : Have P w K mg base 1 "_law_take" ["_law_draw", "_law_size"] spTake) (N2 : Have P w K mg base 2 "_law_pick" ["_law_draw", "_law_some"] spPick) : FnOk P w K mg base CX0 3 f fd ["_law_draw", "_law_words_here", "_law_most"] spEvents := by
  obtain ⟨f1, fd1, G1, m1, k1, b1⟩ := N1
  obtain ⟨f2, fd2, G2, m2, k2, b2⟩ := N2
  refine D.F.ok sc42 (fun vs H Q E h => ?_) (fun cdv A outer s H vs Q E hr h => ?_)
  · obtain ⟨d, g, c, b, a, ws, m, rfl, _⟩ := h
    rfl
  · obtain ⟨d, g, c, b, a, ws, m, rfl, hD, hb, hW, nag, hm, k⟩ := h
    have hr1 : Room 1 _ := hr.mono (by decide)
    refine ⟨_, pss_cons (ps_par (i := 3) (j := 4) rfl sc42.nd rfl rfl (by decide) rfl rfl (pa_cons (pe_lst pa_nil) (pa_cons (pe_call G1 hr1 (by rfl) m1 k1 b1 .nil pass0 (pa_cons (pv 0) (pa_cons (pe_op op_add (pv 2) pe_int) pa_nil))) pa_nil)) (by rfl))
      (pss_cons (ps_while PassesOwn.never (pt_cmpR op_lt (pe_callB call_len_seq (by rfl) B.len PySem.boot_len (pa_cons (pv 3) pa_nil)) (pv 4) (by rfl))
        (pss_one (ps_if (pw_and (pt_cmpR op_eq (pe_call G1 hr1 (by rfl) m1 k1 b1 .nil pass0 (pa_cons (pv 0) (pa_cons pe_int pa_nil))) pe_int (nomark _)) (pw_and1 (pt_cmpR (op_neD hr.units) (pv 3) (pe_lst pa_nil) (by rfl)))).pt
          (pss_cons (ps_set (i := 5) sc42.nd rfl (.inl rfl) (pe_call G1 hr1 (by rfl) m1 k1 b1 .nil pass0 (pa_cons (pv 0) (pa_cons (pe_callB call_len_seq (by rfl) B.len PySem.boot_len (pa_cons (pv 3) pa_nil)) pa_nil))))
          (pss_one (ps_set (i := 3) sc42.nd rfl (.inl rfl) (pe_op op_cat (pv 3) (pe_slice sl_list (pv 3) (po_some (pv 5)) (po_some (pe_op op_add (pe_op op_add (pv 5) pe_int) (pe_call G1 hr1 (by rfl) m1 k1 b1 .nil pass0 (pa_cons (pv 0) (pa_cons pe_int pa_nil))))))))))
          (pss_one (ps_expr (pe_bm PySem.F.plainAttrs_list PySem.F.slot_list_append PySem.F.type_list_append mt_append (pv 3) (pa_cons (pe_call G2 hr (by rfl) m2 k2 b2 .nil pass0 (pa_cons (pv 0) (pa_cons (pv 1) pa_nil))) pa_nil)))))))
      (pss_one (ps_ret (pe_slice sl_list (pv 3) po_none (po_some (pv 4)))))), ?_⟩
    refine ⟨(by show 0 ≤ sizeLine; decide), fun q0 hq0 => ?_⟩
    have s0 : Same H (upd H q0 (.lst [])) := Same.put (Same.refl _) hq0
    have hwN : ∀ z ∈ ws, Nm z := hW.nm
    have hwl : ws.length ≤ 5 := hW.len
    have nad : a ∉ [d, g] := by
      have := hD.ob
      obtain ⟨kvs, _, _, _, _, h1, _⟩ := this
      have nad : a ≠ d := ne_of hW.at_ h1 (by intro z; cases z)
      simp [nad, nag]
    refine ⟨_, rfl, _, rfl, _, _, rfl, rfl, d, g, c, b, m + 1, rfl, hD.same s0, by omega, by omega, by omega, fun size H1 hsz hD1 hF1 => ⟨_, _, rfl, ?_⟩⟩
    have nq0 := hD.new hq0
    have F1 : Fr [d, g] H H1 := (Fr.of s0).trans hF1
    refine while_by (fun σ H' => ∃ (q : Addr) (fs : List Str) (v5 : Option V), σ = [some (.ref d), some (.ref a), some (.int (m : Int)), some (.ref q), some (.int (size : Int)), v5] ∧ H' q = some (.lst (fs.map V.str)) ∧ (∀ z ∈ fs, z ∈ ws) ∧ fs.length ≤ 130 ∧ Dr d g c (b + 1 + 3 * fs.length) H' ∧ Fr [d, g] H H' ∧ H q = none)
      (fun σ H' => size - lenL H' σ[3]?) ⟨q0, [], none, rfl, hF1 _ _ upd_same (by simp [nq0]), by simp, Nat.zero_le _, hD1, F1, hq0⟩ (fun σ H2 ⟨q, fs, v5, e, hq2, hfs, hfl, hD2, hF2, hqn⟩ => ?_) (fun σ H' Q1 Q2 hq h => ?_)
    · subst e
      have nq := hD.new hqn
      have nql : q ∉ [d, g] := by simp [nq]
      refine ⟨_, rfl, q, _, rfl, .inl (SqL.of hq2), _, rfl, _, _, rfl, rfl, _, rfl, ?_⟩
      rw [List.length_map]
      refine ite2 (fun cl => ?_) (fun cl => ?_)
      · have cl' : fs.length < size := by have := of_decide_eq_true cl; omega
        have mes : size - lenL H2 (some (some (.ref q))) = size - fs.length := by rw [lenL_of hq2, List.length_map]
        -- one word more
        have els : ∀ (H3 : Hp) (D' : Ends), H3 q = some (.lst (fs.map V.str)) → Dr d g c (b + 1 + 3 * fs.length + 1) H3 → Fr [d, g] H H3 →
            (∀ σ' H', (∃ (q : Addr) (fs : List Str) (v5 : Option V), σ' = [some (.ref d), some (.ref a), some (.int (m : Int)), some (.ref q), some (.int (size : Int)), v5] ∧ H' q = some (.lst (fs.map V.str)) ∧ (∀ z ∈ fs, z ∈ ws) ∧ fs.length ≤ 130 ∧ Dr d g c (b + 1 + 3 * fs.length) H' ∧ Fr [d, g] H H' ∧ H q = none) ∧ size - lenL H' σ'[3]? < size - lenL H2 (some (some (.ref q))) → D'.nx σ' H') →
            tDrop (tBM K "list" rAppend (tVar 3) (tCons (tCall spPick [] E0 (tCons (tVar 0) (tCons (tVar 1) tNil))) tNil)) D' [some (.ref d), some (.ref a), some (.int (m : Int)), some (.ref q), some (.int (size : Int)), v5] H3 := fun H3 D' hq3 hD3 hF3 hN => by
          refine ⟨_, rfl, .inl ⟨rfl, _, SqL.of hq3⟩, _, rfl, _, rfl, d, g, c, _, .ref a, rfl, hD3, by omega, (hW.fr hF3 nad).pick nag fun z H4 hz hD4 hF4 => ?_⟩
          refine ⟨q, _, _, rfl, rfl, hF4 _ _ hq3 nql, small1000 (by rw [List.length_map]; omega), hN _ _ ⟨⟨q, fs ++ [z], v5, rfl, by rw [upd_same, List.map_append]; rfl, fun y hy => ?_, by simp; omega, (hD4.put nq).mono (by simp; omega), Fr.put (Fr.refl [d, g] H) hqn (hF3.trans hF4), hqn⟩, ?_⟩⟩
          · rcases List.mem_append.mp hy with hy | hy
            · exact hfs y hy
            · rw [List.mem_singleton.mp hy]; exact hz
          · rw [mes]
            show size - lenL _ (some (some (.ref q))) < _
            rw [lenL_of (upd_same), List.length_append, List.length_map]
            simp
            omega
        refine ⟨_, rfl, d, g, c, _, 4, rfl, hD2, by omega, by decide, by decide, fun r4 H3 hr4 hD3 hF3 => ⟨rfl, _, rfl, ?_⟩⟩
        have hq3 := hF3 _ _ hq2 nql
        refine ite2 (fun cz => ?_) (fun cz => iteF (els H3 _ hq3 hD3 (hF2.trans hF3) fun _ _ h => h))
        refine ⟨_, rfl, (by show 0 ≤ sizeLine; decide), fun q5 hq5 => ?_⟩
        have sq : Same H3 (upd H3 q5 (.lst [])) := Same.put (Same.refl _) hq5
        refine ⟨_, _, Dp.lst (SqL.of (sq _ _ hq3)) (dp_strs fs), Dp.lst (SqL.of upd_same) .nil, shaped_strsL fun z hz => hwN z (hfs z hz), shaped_nil, _, rfl, ?_⟩
        rw [eqv_strs_nil]
        cases hfe : fs.isEmpty with
        | true => exact iteF (els _ _ (sq _ _ hq3) (hD3.same sq) ((hF2.trans hF3).trans (Fr.of sq)) fun _ _ h => h)
        | false =>
          have hpos : 0 < fs.length := by
            cases fs with
            | nil => cases hfe
            | cons _ _ => simp
          refine iteT ?_
          have hq5' := sq _ _ hq3
          refine ⟨_, rfl, _, rfl, q, _, rfl, .inl (SqL.of hq5'), d, g, c, _, fs.length, by rw [List.length_map]; rfl, hD3.same sq, by omega, hpos, by omega, fun beg H6 hbeg hD6 hF6 => ?_⟩
          have hq6 := hF6 _ _ hq5' nql
          refine ⟨_, rfl, _, rfl, _, rfl, _, rfl, _, rfl, _, _, rfl, rfl, _, rfl, d, g, c, _, 4, rfl, hD6, by omega, by decide, by decide, fun more H7 hmore hD7 hF7 => ?_⟩
          have hq7 := hF7 _ _ hq6 nql
          have F7 : Fr [d, g] H H7 := (((hF2.trans hF3).trans (Fr.of sq)).trans hF6).trans hF7
          refine ⟨_, _, rfl, rfl, _, rfl, q, _, rfl, SqL.of hq7, fun p8 hp8 => ?_⟩
          obtain ⟨cut, ecut⟩ : ∃ cut, (fs.drop beg).take (min (beg + 1 + more) fs.length - beg) = cut := ⟨_, rfl⟩
          have ecutV : cutV (fs.map V.str) (some (beg : Int)) (some ((beg : Int) + 1 + (more : Int))) = cut.map V.str := by
            unfold cutV
            rw [show ((beg : Int) + 1 + (more : Int)) = ((beg + 1 + more : Nat) : Int) by omega, HT.sIx_nat, HT.sIx_nat, List.length_map, Nat.min_eq_left (show beg ≤ fs.length by omega), ← List.map_drop, ← List.map_take, ecut]
          have hcl : 1 ≤ cut.length ∧ cut.length ≤ 4 := by
            rw [← ecut, List.length_take, List.length_drop]
            omega
          have hcs : ∀ z ∈ cut, z ∈ fs := fun z hz => by
            rw [← ecut] at hz
            exact List.drop_subset _ _ (List.take_subset _ _ hz)
          have s8 : Same H7 (upd H7 p8 (.lst (cut.map V.str))) := Same.put (Same.refl _) hp8
          refine ⟨q, p8, fs.map V.str, cut.map V.str, rfl, rfl, ?_, ?_, ?_, fun p9 hp9 => ?_⟩
          · rw [ecutV]; exact s8 _ _ hq7
          · rw [ecutV]; exact upd_same
          · rw [List.length_map, List.length_map]; exact Nat.le_of_lt (small1000 (by omega))
          · rw [ecutV] at hp9
            rw [ecutV]
            have s9 : Same H7 (upd (upd H7 p8 (.lst (cut.map V.str))) p9 (.lst (fs.map V.str ++ cut.map V.str))) := s8.one hp9
            have h9 : upd (upd H7 p8 (.lst (cut.map V.str))) p9 (.lst (fs.map V.str ++ cut.map V.str)) p9 = some (.lst ((fs ++ cut).map V.str)) := by rw [upd_same, List.map_append]
            have hn9 : H p9 = none := F7.free (s8.free hp9) ((hD7.same s8).no hp9)
            refine ⟨⟨p9, fs ++ cut, _, rfl, h9, fun z hz => ?_, by rw [List.length_append]; omega, (hD7.same s9).mono (by rw [List.length_append]; omega), F7.trans (Fr.of s9), hn9⟩, ?_⟩
            · rcases List.mem_append.mp hz with hz | hz
              · exact hfs z hz
              · exact hfs z (hcs z hz)
            · show size - lenL _ (some (some (.ref p9))) < size - lenL H2 (some (some (.ref q)))
              rw [mes, lenL_of h9, List.length_map, List.length_append]
              omega
      · refine ⟨_, rfl, _, rfl, _, rfl, q, _, rfl, SqL.of hq2, fun p3 hp3 => ?_⟩
        have s3 : Same H2 (upd H2 p3 (.lst (cutV (fs.map V.str) none (some (size : Int))))) := Same.put (Same.refl _) hp3
        have ecutV : cutV (fs.map V.str) none (some (size : Int)) = (fs.take (min size fs.length)).map V.str := by
          unfold cutV
          rw [HT.sIx_none, HT.sIx_nat, List.length_map, List.drop_zero, Nat.sub_zero, List.map_take]
        refine k p3 (fs.take (min size fs.length)) _ ?_ (fun z hz => hfs z (List.take_subset _ _ hz)) (hF2.free hp3 (hD2.no hp3)) ?_ ((hD2.same s3).mono (by omega)) (hF2.trans (Fr.of s3))
        · rw [List.length_take]; omega
        · rw [ecutV, upd_same]
    · obtain ⟨v, e1, p, ys, e2, e3, v2, e4, i, j, e7, e8, b', e9, q⟩ := h
      exact ⟨v, e1, p, ys, e2, e3, v2, e4, i, j, e7, e8, b', e9, hq _ _ q⟩
end
end G

end

/-! D14 -/
section
set_option maxHeartbeats 4000000
namespace G
open PySem L2 GK Si M
/-- how many events stand, read off the heap -/
def kpLen (H : Hp) (p : Addr) : Nat := match H p with
  | some (.ins _ _ fs) => match fs.lookup ("now" : Str) with
    | some (.ref m) => match H m with
      | some (.ins _ _ gs) => match gs.lookup ("standing" : Str) with
        | some (.int i) => i.toNat
        | _ => 0
      | _ => 0
    | _ => 0
  | _ => 0
theorem kpLen_of {CK CM : Addr} {H : Hp} {p : Addr} {n : Nat} {es : List Str} {blk : V} (h : Kp CK CM H p n es blk) : kpLen H p = es.length := by
  obtain ⟨dx, m, h1, h2⟩ := h.ob
  obtain ⟨dm, t, v, h3, h4⟩ := h2.get
  unfold kpLen
  rw [h1]
  simp only [kf_now]
  rw [h3]
  simp only [mf_standing]
  rfl
theorem ps_nox {X : Cx} {st : Stmt} {t : TS} (h : PS X.nox st t) : PS X st t := ⟨fun pins s σ H D I hw =>
  PySem.wpAny_mono (h.run pins s σ H D (I.wish _) hw) (fun _ _ q => q.unwish) fun _ _ z => False.elim z⟩
section
variable {P : Program} {w : World} {K : PySem.W.Frag} {mg : Str → Option Value} {base : Heap}
/-- a def that may raise, and how it is reached -/
def HaveX (P : Program) (w : World) (K : PySem.W.Frag) (mg : Str → Option Value) (base : Heap) (k : Nat) (x : Str) (ps : List Str) (sp : Sp) : Prop :=
  ∃ f fd, FnOk P w K mg base (L2.CX P w) k f fd ps sp ∧ mg x = some (.ref f) ∧ PySem.W.keepIn K (.ref f) = true ∧ Binds K fd ps []
theorem sc46 : FnScope ["_law_same", "_law_words_here", "_law_word"] ["_law_same", "_law_words_here"] (defScope (top 46)) := ⟨rfl, rfl, rfl, by decide +kernel, rfl, by decide +kernel, by decide +kernel⟩
def spLost (CK CM : Addr) : Sp := fun vs H _ E => ∃ (p : Addr) (n : Nat) (es : List Str) (blk : V) (a : Addr) (ws : List Str), vs = [.ref p, .ref a] ∧ Kp CK CM H p n es blk ∧ Wd H a ws ∧ es.length ≤ 800 ∧ Few (ws ++ es) ∧ ∀ H' dd, Kp CK CM H' p n [] blk → Fr [p] H H' → E (.type "KeyError") dd H'
theorem ok_lost {CK CM f : Addr} {fd : FuncData} (D : Df K mg "_law_lost" (top 46) ["_law_same", "_law_words_here"] f fd) (T : CF K mg "Keeper" CK kas) (N1 : HaveM P w K mg base 5 CK "came" ["self", "name"] (spCame CK CM)) (N2 : HaveM P w K mg base 1 CK "undo" ["self"] (spUndo CK CM)) (N3 : HaveP P w K mg base 1 CK "many" (spMany CK CM)) :
    FnOk P w K mg base (L2.CX P w) 6 f fd ["_law_same", "_law_words_here"] (spLost CK CM) := by
  obtain ⟨f1, fd1, G1, M1, b1⟩ := N1
  obtain ⟨f2, fd2, G2, M2, b2⟩ := N2
  obtain ⟨p3, f3, fd3, G3, M3, b3⟩ := N3
  refine D.F.okX sc46 (fun vs H Q E h => ?_) (fun cdv A outer s H vs Q E hr h => ?_)
  · obtain ⟨p, n, es, blk, a, ws, rfl, _⟩ := h
    rfl
  · obtain ⟨p, n, es, blk, a, ws, rfl, hp, hW, hl, hF, k⟩ := h
    have hu := hu_of hr
    refine ⟨_, pss_cons (ps_nox (ps_for PassesOwn.never rfl (pi_list (pv 1)) (pg_name (i := 2) sc46.nd rfl (.inl rfl))
        (pss_one (ps_expr (pe_meth (pv 0) T.cl M1 G1 hr b1 .nil pass0 (pa_cons (pv 2) pa_nil))))))
      (pss_cons (ps_nox (ps_while PassesOwn.never (pt_cmpR op_gt (pe_prop (pv 0) T.cl M3 G3 (hr.mono (by decide)) b3 .nil pass0 rfl) pe_int (by rfl))
        (pss_one (ps_expr (pe_meth0 (pv 0) T.cl M2 G2 (hr.mono (by decide)) b2 .nil pass0)))))
      (pss_one (ps_ret (pe_dgetX rfl hu (takes_of rfl rfl rfl rfl) pe_dnewK pe_int (fun _ _ => rfl))))), ?_⟩
    have hap : a ∉ [p] := by
      obtain ⟨dx, m, h1, _⟩ := hp.ob
      have : a ≠ p := ne_of hW.at_ h1 (by intro z; cases z)
      simpa using this
    have noK : ∀ (n m b : V) (x : Str), x = "came" ∨ x = "undo" → (kf n m b).lookup x = none := fun n m b x hx => by
      rcases hx with rfl | rfl
      · exact kf_no _ _ _ (by decide +kernel) (by decide +kernel) (by decide +kernel)
      · exact kf_no _ _ _ (by decide +kernel) (by decide +kernel) (by decide +kernel)
    have hwl := hW.len
    refine ⟨_, rfl, a, rfl, ⟨_, SqL.of hW.at_⟩, for_list (K := K) (a := a) (xs := ws.map V.str) (fun i σ H' => ∃ v2, σ = [some (.ref p), some (.ref a), v2] ∧ Kp CK CM H' p n ((ws.take i).reverse ++ es) blk ∧ Fr [p] H H')
      ⟨none, rfl, by simpa using hp, Fr.refl _ _⟩ (fun i σ H' _ ⟨_, _, _, fr⟩ => SqL.of (hW.fr fr hap).at_) (fun i x σ H' hi ⟨v2, e, hk, fr⟩ => ?_) (fun σ H' ⟨v2, e, hk, fr⟩ => ?_)⟩
    · obtain ⟨hil, ex, et⟩ := map_get hi
      subst ex e
      obtain ⟨dx, m, h1, h2⟩ := hk.ob
      refine ⟨_, rfl, p, dx, _, rfl, h1, noK _ _ _ _ (.inl rfl), _, rfl, p, n, _, blk, ws[i], rfl, hk, hW.nm _ (List.getElem_mem hil), by simp; omega, hF.sub fun y hy => ?_, fun H2 hk2 fr2 => ⟨_, rfl, ?_, fr.trans fr2⟩⟩
      · rcases List.mem_cons.mp hy with rfl | hy
        · exact List.mem_append.mpr (.inl (List.getElem_mem hil))
        · rcases List.mem_append.mp hy with hy | hy
          · exact List.mem_append.mpr (.inl (List.take_subset _ _ (List.mem_reverse.mp hy)))
          · exact List.mem_append.mpr (.inr hy)
      · rw [et, List.reverse_append]
        exact hk2
    · subst e
      refine while_by (fun σ H' => σ = [some (.ref p), some (.ref a), v2] ∧ (∃ es', Kp CK CM H' p n es' blk) ∧ Fr [p] H H') (fun σ H' => kpLen H' p) ⟨rfl, ⟨_, hk⟩, fr⟩ (fun σ H2 ⟨e, ⟨es', hk2⟩, fr2⟩ => ?_) (fun σ H' Q1 Q2 hq h => ?_)
      · subst e
        obtain ⟨dx, m, h1, h2⟩ := hk2.ob
        refine ⟨_, rfl, p, dx, _, rfl, h1, p, n, es', blk, rfl, hk2, _, _, rfl, rfl, _, rfl, ?_⟩
        refine ite2 (fun c => ?_) (fun c => ?_)
        · have c' := of_decide_eq_true c
          cases es' with
          | nil => exact absurd c' (by simp)
          | cons z es' =>
            refine ⟨_, rfl, p, dx, _, rfl, h1, noK _ _ _ _ (.inr rfl), p, n, es', blk, z, rfl, hk2, fun H3 hk3 fr3 => ⟨⟨rfl, ⟨_, hk3⟩, fr2.trans fr3⟩, ?_⟩⟩
            rw [kpLen_of hk3, kpLen_of hk2]
            simp
        · have c' : es' = [] := by
            cases es' with
            | nil => rfl
            | cons z es' => exact absurd (decide_eq_true (by simp)) c
          subst c'
          intro dd hdd
          refine ⟨dd, none, rfl, DGet.k (k := Sum.inl 0) upd_same, (fun v z => nomatch z), fun _ d2 => ?_⟩
          have s3 : Same H2 (upd H2 dd (.dK [])) := Same.put (Same.refl _) hdd
          exact k _ d2 (hk2.same s3) (fr2.trans (Fr.of s3))
      · obtain ⟨v, e1, a', dx, fs, e2, e3, p', n', es', blk', e4, e5, i, j, e6, e7, b, e8, q⟩ := h
        exact ⟨v, e1, a', dx, fs, e2, e3, p', n', es', blk', e4, e5, i, j, e6, e7, b, e8, hq _ _ q⟩
end
end G

end

/-! D15 -/
section
set_option maxHeartbeats 4000000
namespace G
open PySem L2 GK Si M
/-- a def whose code object is named -/
structure FunC (K : PySem.W.Frag) (x qual : Str) (st : Stmt) (f : Addr) (fd : FuncData) (cdv : Value) : Prop where
  ex : ∃ (oc : Value) (od : Option Addr) (kV doc pm : Value) (an : Option Addr) (ct : Value) (osl : Array (Option Value)),
    fd = PySem.W.fnOf x qual (defArgs st) (defBody st) (defScope st) .none kV doc pm an cdv ct ∧ K.lookup f = some ⟨oc, od, .func fd, osl⟩ ∧ PySem.W.codeIn K cdv qual = true
  kp : PySem.W.keepIn K (.ref f) = true
theorem FunC.ok {P : Program} {w : World} {K : PySem.W.Frag} {mg : Str → Option Value} {base : Heap} {x qual : Str} {st : Stmt} {f : Addr} {fd : FuncData} {cdv : Value} {N ps : List Str} {k : Nat} {sp : Sp} (F : FunC K x qual st f fd cdv) (S : FnScope N ps (defScope st)) (len : ∀ vs H Q E, sp vs H Q E → vs.length = ps.length)
    (hbody : ∀ (A : Around) (outer : List Env) (s : Shared) (H : Hp) (vs : List V) (Q : VK) (E : XK), Room k (A.deeper (PyProof.Rows.envOfC qual (defScope st) s.heap.objs.size f cdv)) → sp vs H Q E →
      ∃ t, PSs (cxOf CX0 P w K mg base N qual (defScope st) f cdv A outer s H E).nox (defBody st) t ∧ t { nx := fun _ H' => Q .non H', rt := Q } (L2.start N vs) H) : FnOk P w K mg base CX0 (k + 1) f fd ps sp := by
  obtain ⟨oc, od, kV, doc, pm, an, ct, osl, rfl, lk, hcd⟩ := F.ex
  refine fn_of lk hcd S len fun A outer s H vs Q E hr hsp => ?_
  obtain ⟨t, h, q⟩ := hbody A outer s H vs Q E hr hsp
  exact ⟨t, h.nox, q⟩
def lamNames : List (Str × NameKind) := [("_law_same", .local), ("_law_words_here", .free), ("_law_lost", .globalImplicit)]
def qLam : Str := ("_law_failed" ++ ".<locals>." : Str) ++ ("<lambda>" : Str)
theorem tabs_fr {T : List (Addr × Str)} {S : List Addr} {H H' : Hp} (t : LamX.Tabs T H) (e : Fr S H H') (hS : ∀ s ∈ S, ∀ o, H s = some o → (∀ ps, o ≠ .tbl ps) ∧ ∀ c q, o ≠ LamX.CodeO c q) : LamX.Tabs T H' := fun p hp => by
  obtain ⟨ps, h1, h2, h3⟩ := t p hp
  refine ⟨ps, e _ _ h1 fun hm => (hS _ hm _ h1).1 _ rfl, h2, fun pos cv hc => ?_⟩
  obtain ⟨c, e1, e2⟩ := h3 pos cv hc
  exact ⟨c, e1, e _ _ e2 fun hm => (hS _ hm _ e2).2 _ _ rfl⟩
theorem Kp.notab {CK CM : Addr} {H : Hp} {p : Addr} {n : Nat} {es : List Str} {blk : V} (h : Kp CK CM H p n es blk) : ∀ s ∈ [p], ∀ o, H s = some o → (∀ ps, o ≠ .tbl ps) ∧ ∀ c q, o ≠ LamX.CodeO c q := fun s hs o e => by
  obtain ⟨dx, m, h1, _⟩ := h.ob
  rw [List.mem_singleton.mp hs, h1] at e
  cases e
  exact ⟨fun _ z => (by cases z), fun _ _ z => (by cases z)⟩
section
variable {P : Program} {w : World} {K : PySem.W.Frag} {mg : Str → Option Value} {base : Heap}
theorem sc45 : FnScope ["_law_box", "_law_words_here", "_law_has_failed"] ["_law_box", "_law_words_here"] (defScope (top 45)) := ⟨rfl, rfl, rfl, by decide +kernel, rfl, by decide +kernel, by decide +kernel⟩
def spFailed (CK CM : Addr) (T : List (Addr × Str)) : Sp := fun vs H Q _ => ∃ (p : Addr) (n : Nat) (es : List Str) (blk : V) (a : Addr) (ws : List Str), vs = [.ref p, .ref a] ∧ Kp CK CM H p n es blk ∧ Wd H a ws ∧ es.length ≤ 800 ∧ Few (ws ++ es) ∧ LamX.Tabs T H ∧ ∀ v H', Kp CK CM H' p n es blk → FrN [p] H H' → LamX.Tabs T H' → Q v H'
theorem ok_failed {CK CM CB cF PT f gA fE fX : Addr} {fd fdA fdE fdX : FuncData} (F : FunC K "_law_failed" "_law_failed" (top 45) f fd (.ref cF)) (T : CF K mg "Keeper" CK kas) (FA : Mt K CK "attempt" "Keeper.attempt" (inCl 36 11) ["self", "work"] gA fdA)
    (DE : Mt K CK "__enter__" "Keeper.__enter__" (inCl 36 9) ["self"] fE fdE) (FE : FnOk P w K mg base CX0 3 fE fdE ["self"] (spEnter CK CM CB))
    (DX : Mt K CK "__exit__" "Keeper.__exit__" (inCl 36 10) ["self", "kind", "value", "trace"] fX fdX) (FX : FnW P w K mg base 1 fX fdX ["self", "kind", "value", "trace"] (spExit CK CM CB))
    (NL : HaveX P w K mg base 6 "_law_lost" ["_law_same", "_law_words_here"] (spLost CK CM)) (mE : mg "KeyError" = none) (TB : LamX.TabB base mg cF PT) :
    FnOk P w K mg base CX0 14 f fd ["_law_box", "_law_words_here"] (spFailed CK CM [(PT, qLam)]) := by
  obtain ⟨fL, fdL, GL, mL, kL, bL⟩ := NL
  refine F.ok sc45 (fun vs H Q E h => ?_) (fun A outer s H vs Q E hr h => ?_)
  · obtain ⟨p, n, es, blk, a, ws, rfl, _⟩ := h
    rfl
  · obtain ⟨p, n, es, blk, a, ws, rfl, hp, hW, hl, hF, hT, k⟩ := h
    refine ⟨_, pss_cons (ps_set (i := 2) sc45.nd rfl (.inl rfl) pe_bl)
      (pss_cons (ps_try_only (c := .type "KeyError") rfl rfl ⟨by rfl, by decide, .inr ⟨mE, by decide +kernel, by decide⟩⟩ L2.takes0 (fun W pn xe tk _ => pss_one (ps_expr
          (pe_attempt (C := CK) (spE := spEnter CK CM CB) (spX := spExit CK CM CB) (spL := spLost CK CM) (T := [(PT, qLam)]) (Wout := W) (jw := 1) (wN := "_law_words_here") (pS := "_law_same")
            (pv 0) T.cl ⟨FA.at_, FA.fn, FA.F.kp⟩ FA.F sc36_11 rfl rfl rfl FA.b FE DE.b DE.at_ DE.fn FX DX.b DX.at_ DX.fn GL (by rfl) mL kL bL TB rfl (by show (PT, _) ∈ [(PT, qLam)]; exact List.mem_singleton.mpr rfl) (by intro q hq _; rw [List.mem_singleton.mp hq]; rfl) rfl
            (NdefX.nscope_by (by decide +kernel)) (by show ∀ y ∈ lamNames, y.2 = .free → (defScope (top 45)).names.lookup y.1 = some .cell ∨ (defScope (top 45)).names.lookup y.1 = some .free; decide +kernel) (by decide +kernel) rfl (fun _ => rfl) (fun _ _ _ _ _ _ => rfl)
            (fun vs H Q Q' hq ⟨p, n, es, blk, e, hp, k⟩ => ⟨p, n, es, blk, e, hp, fun H' b a1 a2 a3 => hq _ _ (k H' b a1 a2 a3)⟩) hr tk rfl)))
        (fun a oe cls d pn _ _ => pss_one (ps_set (i := 2) sc45.nd rfl (.inl rfl) pe_bl)))
      (pss_one (ps_ret (pv 2)))), ?_⟩
    obtain ⟨dx, m, h1, h2⟩ := hp.ob
    have hap : ∀ {H' : Hp} {n' : Nat} {es' : List Str} {blk' : V}, Kp CK CM H' p n' es' blk' → Wd H' a ws → a ∉ [p] := fun hk hw => by
      obtain ⟨dx, m, q1, _⟩ := hk.ob
      have : a ≠ p := ne_of hw.at_ q1 (by intro z; cases z)
      simpa using this
    refine ⟨_, rfl, p, dx, _, .ref a, rfl, h1, kf_no _ _ _ (by decide +kernel) (by decide +kernel) (by decide +kernel), rfl, hT, fun H2 eN T2 => ?_⟩
    have f2 : FrN [] H H2 := FrN.ext eN
    have hp2 : Kp CK CM H2 p n es blk := hp.frN f2 (by simp) (by simp)
    have hW2 : Wd H2 a ws := hW.frN f2 (by simp)
    refine ⟨p, n, es, blk, rfl, hp2, fun H3 b hk3 hb3 fr3 => ⟨fun c q e => ?_, p, n, es, .ref b, a, ws, rfl, hk3, hW2.fr fr3 (hap hp2 hW2), hl, hF, fun H4 dd hk4 fr4 => ⟨"KeyError", rfl, fun x t => ?_⟩⟩⟩
    · obtain ⟨dx2, m2, q1, _⟩ := hp2.ob
      refine fr3 _ _ e ?_
      have : c ≠ p := ne_of e q1 (by intro z; cases z)
      simpa using this
    · have hoff : ∀ s ∈ [p], Off H3 s := fun s' hs => by rw [List.mem_singleton.mp hs]; exact hk3.off
      have hb4 : Bk CB CM H4 b blk n es := hb3.fr fr4 hoff
      refine ⟨p, b, n, es, [], blk, "KeyError", x, t, rfl, hk4, hb4, hp.nm, hp.len, hp.few, fun H5 hk5 fr5 => ⟨rfl, true, ?_, fun _ a' ha' => ?_, fun z => nomatch z⟩⟩
      · exact exm_KE
      · refine ⟨_, rfl, k _ H5 hk5 ?_ ?_⟩
        · exact (((f2.mono (by simp)).trans fr3.n).trans fr4.n).trans fr5.n
        · exact tabs_fr (tabs_fr (tabs_fr T2 fr3 hp2.notab) fr4 hk3.notab) fr5 hk4.notab
end
end G

end

/-! D16 -/
section
set_option maxHeartbeats 4000000
namespace G
open PySem L2 GK Si M
theorem Dr.notab {d g c : Addr} {b : Nat} {H : Hp} (h : Dr d g c b H) : ∀ s ∈ [d, g], ∀ o, H s = some o → (∀ ps, o ≠ .tbl ps) ∧ ∀ c q, o ≠ LamX.CodeO c q := by
  obtain ⟨kvs, gs, cs, r, t, h1, h2, h3, h4, h5, h6, h7, h8, _⟩ := h.ob
  intro s hs o e
  rcases List.mem_cons.mp hs with rfl | hs
  · rw [h1] at e; cases e
    exact ⟨fun _ z => (by cases z), fun _ _ z => (by cases z)⟩
  · rw [List.mem_singleton.mp hs, h7] at e; cases e
    exact ⟨fun _ z => (by cases z), fun _ _ z => (by cases z)⟩
theorem Dr.kp {CK CM d g c p : Addr} {b n : Nat} {es : List Str} {blk : V} {H : Hp} (h : Dr d g c b H) (k : Kp CK CM H p n es blk) : p ≠ d ∧ p ≠ g ∧ p ≠ c := h.ne fun o e => by
  obtain ⟨dx, m, h1, _⟩ := k.ob
  rw [h1] at e; cases e
  exact ⟨fun _ z => (by cases z), fun _ z => (by cases z)⟩
/-- the state while a keeper is fed -/
structure Fs (CK CM : Addr) (T : List (Addr × Str)) (d g c : Addr) (b : Nat) (p : Addr) (n : Nat) (es : List Str) (blk : V) (H0 H : Hp) : Prop where
  kp : Kp CK CM H p n es blk
  dr : Dr d g c b H
  fr : FrN [d, g, p] H0 H
  tb : LamX.Tabs T H
section
variable {CK CM : Addr} {T : List (Addr × Str)} {d g c p : Addr} {b n : Nat} {es : List Str} {blk : V} {H0 H H' : Hp}
theorem Fs.draw {b' : Nat} (h : Fs CK CM T d g c b p n es blk H0 H) (hD : Dr d g c b' H') (e : Fr [d, g] H H') : Fs CK CM T d g c b' p n es blk H0 H' := by
  obtain ⟨q1, q2, q3⟩ := h.dr.kp h.kp
  exact ⟨h.kp.fr e h.dr.off (by simp [q1, q2]), hD, h.fr.trans ((e.mono (by simp)).n), tabs_fr h.tb e h.dr.notab⟩
theorem Fs.failed (h : Fs CK CM T d g c b p n es blk H0 H) {es' : List Str} {blk' : V} (hk : Kp CK CM H' p n es' blk') (e : FrN [p] H H') (ht : LamX.Tabs T H') : Fs CK CM T d g c b p n es' blk' H0 H' := by
  obtain ⟨q1, q2, q3⟩ := h.dr.kp h.kp
  exact ⟨hk, h.dr.frN e (by simp [q1.symm]) (by simp [q2.symm]) (by simp [q3.symm]), h.fr.trans (e.mono (by simp)), ht⟩
theorem Fs.box (h : Fs CK CM T d g c b p n es blk H0 H) {es' : List Str} {blk' : V} (hk : Kp CK CM H' p n es' blk') (e : Fr [p] H H') : Fs CK CM T d g c b p n es' blk' H0 H' := h.failed hk e.n (tabs_fr h.tb e h.kp.notab)
theorem Fs.same (h : Fs CK CM T d g c b p n es blk H0 H) (e : Same H H') : Fs CK CM T d g c b p n es blk H0 H' := ⟨h.kp.same e, h.dr.same e, h.fr.trans (FrN.of e), LamX.Tabs.ext h.tb e⟩
theorem Fs.mono {b' : Nat} (h : Fs CK CM T d g c b p n es blk H0 H) (hb : b ≤ b') : Fs CK CM T d g c b' p n es blk H0 H := ⟨h.kp, h.dr.mono hb, h.fr, h.tb⟩
end
theorem lst_out {CK CM d g c p a : Addr} {b n : Nat} {es : List Str} {blk : V} {H : Hp} {xs : List V} (h : Dr d g c b H) (k : Kp CK CM H p n es blk) (ha : H a = some (.lst xs)) (n : a ≠ g) : a ∉ [d, g, p] := by
  obtain ⟨kvs, _, _, _, _, h1, _⟩ := h.ob
  obtain ⟨dx, m, h2, _⟩ := k.ob
  have e1 : a ≠ d := ne_of ha h1 (by intro z; cases z)
  have e2 : a ≠ p := ne_of ha h2 (by intro z; cases z)
  simp [e1, e2, n]
section
variable {P : Program} {w : World} {K : PySem.W.Frag} {mg : Str → Option Value} {base : Heap}
theorem sc44 : FnScope ["_law_draw", "_law_words_here", "_law_box", "_law_events_here", "_law_word", "_law_way"] ["_law_draw", "_law_words_here", "_law_box", "_law_events_here"] (defScope (top 44)) := ⟨rfl, rfl, rfl, by decide +kernel, rfl, by decide +kernel, by decide +kernel⟩
def spFed (CK CM : Addr) (T : List (Addr × Str)) : Sp := fun vs H Q _ => ∃ (d g c : Addr) (b : Nat) (aw : Addr) (ws : List Str) (p : Addr) (n : Nat) (es : List Str) (blk : V) (ae : Addr) (l : List Str), vs = [.ref d, .ref aw, .ref p, .ref ae] ∧ Fs CK CM T d g c b p n es blk H H ∧ b ≤ 800000 ∧ Wd H aw ws ∧ aw ≠ g ∧
  H ae = some (.lst (l.map V.str)) ∧ ae ≠ g ∧ (∀ z ∈ l, z ∈ ws) ∧ (∀ z ∈ es, z ∈ ws) ∧ es.length + l.length ≤ 700 ∧ ∀ H', Fs CK CM T d g c (b + 2 * l.length) p n (l.reverse ++ es) blk H H' → Q .non H'
theorem ok_fed {CK CM f : Addr} {fd : FuncData} {TT : List (Addr × Str)} (D : Df K mg "_law_fed" (top 44) ["_law_draw", "_law_words_here", "_law_box", "_law_events_here"] f fd) (T : CF K mg "Keeper" CK kas)
    (N1 : Have P w K mg base 1 "_law_take" ["_law_draw", "_law_size"] spTake) (N2 : Have P w K mg base 2 "_law_pick" ["_law_draw", "_law_some"] spPick) (N3 : HaveM P w K mg base 5 CK "came" ["self", "name"] (spCame CK CM)) (N4 : HaveM P w K mg base 1 CK "undo" ["self"] (spUndo CK CM))
    (N5 : Have P w K mg base 14 "_law_failed" ["_law_box", "_law_words_here"] (spFailed CK CM TT)) : FnOk P w K mg base CX0 15 f fd ["_law_draw", "_law_words_here", "_law_box", "_law_events_here"] (spFed CK CM TT) := by
  obtain ⟨f1, fd1, G1, m1, k1, b1⟩ := N1
  obtain ⟨f2, fd2, G2, m2, k2, b2⟩ := N2
  obtain ⟨f3, fd3, G3, M3, b3⟩ := N3
  obtain ⟨f4, fd4, G4, M4, b4⟩ := N4
  obtain ⟨f5, fd5, G5, m5, k5, b5⟩ := N5
  refine D.F.ok sc44 (fun vs H Q E h => ?_) (fun cdv A outer s H vs Q E hr h => ?_)
  · obtain ⟨d, g, c, b, aw, ws, p, n, es, blk, ae, l, rfl, _⟩ := h
    rfl
  · obtain ⟨d, g, c, b, aw, ws, p, n, es, blk, ae, l, rfl, h0, hb, hW, nwg, hE, neg, hlw, hew, hlen, k⟩ := h
    have hr1 : Room 1 _ := hr.mono (by decide)
    have hr2 : Room 2 _ := hr.mono (by decide)
    have hr5 : Room 5 _ := hr.mono (by decide)
    have few : ∀ l' : List Str, (∀ z ∈ l', z ∈ ws) → Few l' := fun l' h => ⟨ws, by have := hW.len; omega, h⟩
    have noK : ∀ (n m b : V) (x : Str), x = "came" ∨ x = "undo" → (kf n m b).lookup x = none := fun n m b x hx => by
      rcases hx with rfl | rfl
      · exact kf_no _ _ _ (by decide +kernel) (by decide +kernel) (by decide +kernel)
      · exact kf_no _ _ _ (by decide +kernel) (by decide +kernel) (by decide +kernel)
    have nw := lst_out h0.dr h0.kp hW.at_ nwg
    have ne := lst_out h0.dr h0.kp hE neg
    refine ⟨_, pss_one (ps_for PassesOwn.never rfl (pi_list (pv 3)) (pg_name (i := 4) sc44.nd rfl (.inl rfl))
      (pss_cons (ps_set (i := 5) sc44.nd rfl (.inl rfl) (pe_call G1 hr1 (by rfl) m1 k1 b1 .nil pass0 (pa_cons (pv 0) (pa_cons pe_int pa_nil))))
      (pss_cons (ps_if (pt_cmpR op_eq (pv 5) pe_int (nomark _))
        (pss_cons (ps_expr (pe_meth (pv 2) T.cl M3 G3 hr5 b3 .nil pass0 (pa_cons (pe_call G2 hr2 (by rfl) m2 k2 b2 .nil pass0 (pa_cons (pv 0) (pa_cons (pv 1) pa_nil))) pa_nil)))
        (pss_cons (ps_expr (pe_meth (pv 2) T.cl M3 G3 hr5 b3 .nil pass0 (pa_cons (pv 4) pa_nil)))
        (pss_cons (ps_expr (pe_meth0 (pv 2) T.cl M4 G4 hr1 b4 .nil pass0)) (pss_one (ps_expr (pe_meth0 (pv 2) T.cl M4 G4 hr1 b4 .nil pass0)))))) pss_nil)
      (pss_cons (ps_if (pt_cmpR op_eq (pv 5) pe_int (nomark _)) (pss_one (ps_expr (pe_call G5 hr (by rfl) m5 k5 b5 .nil pass0 (pa_cons (pv 2) (pa_cons (pv 1) pa_nil))))) pss_nil)
      (pss_one (ps_expr (pe_meth (pv 2) T.cl M3 G3 hr5 b3 .nil pass0 (pa_cons (pv 4) pa_nil)))))))), ?_⟩
    have hsub : ∀ i, ∀ z ∈ (l.take i).reverse ++ es, z ∈ ws := fun i z hz => by
      rcases List.mem_append.mp hz with hz | hz
      · exact hlw z (List.take_subset _ _ (List.mem_reverse.mp hz))
      · exact hew z hz
    refine ⟨_, rfl, ae, rfl, ⟨_, SqL.of hE⟩, for_list (K := K) (a := ae) (xs := l.map V.str) (fun i σ H' => ∃ v4 v5, σ = [some (.ref d), some (.ref aw), some (.ref p), some (.ref ae), v4, v5] ∧ Fs CK CM TT d g c (b + 2 * i) p n ((l.take i).reverse ++ es) blk H H')
      ⟨none, none, rfl, by simpa using h0⟩ (fun i σ H' _ ⟨_, _, _, h⟩ => SqL.of (h.fr _ _ hE (fun _ z => by cases z) ne)) (fun i x σ H1 hi ⟨v4, v5, e, h1⟩ => ?_) (fun σ H' ⟨v4, v5, e, h⟩ => ?_)⟩
    · obtain ⟨hil, ex, et⟩ := map_get hi
      subst ex e
      have hlw' : ∀ z ∈ ws, Nm z := hW.nm
      have hz : l[i] ∈ ws := hlw _ (List.getElem_mem hil)
      have hes : ((l.take i).reverse ++ es).length ≤ 700 := by simp; omega
      refine ⟨_, rfl, d, g, c, _, 8, rfl, h1.dr, by omega, by decide, by decide, fun way H2 hway hD2 hF2 => ?_⟩
      have h2 := h1.draw hD2 hF2
      dsimp only [gName]
      refine cutAt (fun σ' H' => σ' = [some (.ref d), some (.ref aw), some (.ref p), some (.ref ae), some (.str l[i]), some (.int (way : Int))] ∧ Fs CK CM TT d g c (b + 2 * i + 2) p n ((l.take i).reverse ++ es) blk H H') (fun N hN => ?_) (fun σ3 H3 ⟨e, h3⟩ => ?_)
      · refine ⟨_, rfl, rfl, _, rfl, ?_⟩
        refine ite2 (fun cz => ?_) (fun cz => hN _ _ ⟨rfl, h2.mono (by omega)⟩)
        obtain ⟨dx, m, q1, _⟩ := h2.kp.ob
        have hW2 : Wd H2 aw ws := hW.frN h2.fr nw
        refine ⟨_, rfl, p, dx, _, rfl, q1, noK _ _ _ _ (.inl rfl), _, rfl, _, rfl, d, g, c, _, .ref aw, rfl, h2.dr, by omega, hW2.pick nwg fun z H4 hzw hD4 hF4 => ?_⟩
        have h4 := h2.draw hD4 hF4
        refine ⟨p, n, _, blk, z, rfl, h4.kp, hlw' z hzw, by omega, few _ fun y hy => ?_, fun H5 hk5 hf5 => ?_⟩
        · rcases List.mem_cons.mp hy with rfl | hy
          · exact hzw
          · exact hsub i y hy
        have h5 := h4.box hk5 hf5
        obtain ⟨dx5, m5', q5, _⟩ := h5.kp.ob
        refine ⟨_, rfl, p, dx5, _, rfl, q5, noK _ _ _ _ (.inl rfl), _, rfl, p, n, _, blk, l[i], rfl, h5.kp, hlw' _ hz, by simp; omega, few _ fun y hy => ?_, fun H6 hk6 hf6 => ?_⟩
        · rcases List.mem_cons.mp hy with rfl | hy
          · exact hz
          · rcases List.mem_cons.mp hy with rfl | hy
            · exact hzw
            · exact hsub i y hy
        have h6 := h5.box hk6 hf6
        obtain ⟨dx6, m6', q6, _⟩ := h6.kp.ob
        refine ⟨_, rfl, p, dx6, _, rfl, q6, noK _ _ _ _ (.inr rfl), p, n, _, blk, _, rfl, h6.kp, fun H7 hk7 hf7 => ?_⟩
        have h7 := h6.box hk7 hf7
        obtain ⟨dx7, m7', q7, _⟩ := h7.kp.ob
        refine ⟨_, rfl, p, dx7, _, rfl, q7, noK _ _ _ _ (.inr rfl), p, n, _, blk, _, rfl, h7.kp, fun H8 hk8 hf8 => ?_⟩
        exact hN _ _ ⟨rfl, (h7.box hk8 hf8).mono (by omega)⟩
      · subst e
        refine cutAt (fun σ' H' => σ' = [some (.ref d), some (.ref aw), some (.ref p), some (.ref ae), some (.str l[i]), some (.int (way : Int))] ∧ Fs CK CM TT d g c (b + 2 * i + 2) p n ((l.take i).reverse ++ es) blk H H') (fun N hN => ?_) (fun σ4 H4 ⟨e, h4⟩ => ?_)
        · refine ⟨_, rfl, rfl, _, rfl, ?_⟩
          refine ite2 (fun cz => ?_) (fun cz => hN _ _ ⟨rfl, h3⟩)
          have hW3 : Wd H3 aw ws := hW.frN h3.fr nw
          refine ⟨_, rfl, _, rfl, p, n, _, blk, aw, ws, rfl, h3.kp, hW3, by omega, few _ fun y hy => ?_, h3.tb, fun v H5 hk5 hf5 ht5 => hN _ _ ⟨rfl, h3.failed hk5 hf5 ht5⟩⟩
          rcases List.mem_append.mp hy with hy | hy
          · exact hy
          · exact hsub i y hy
        · subst e
          obtain ⟨dx5, m5', q5, _⟩ := h4.kp.ob
          refine ⟨_, rfl, p, dx5, _, rfl, q5, noK _ _ _ _ (.inl rfl), _, rfl, p, n, _, blk, l[i], rfl, h4.kp, hlw' _ hz, by omega, few _ fun y hy => ?_, fun H6 hk6 hf6 => ⟨_, _, rfl, ?_⟩⟩
          · rcases List.mem_cons.mp hy with rfl | hy
            · exact hz
            · exact hsub i y hy
          · rw [et, List.reverse_append]
            exact (h4.box hk6 hf6).mono (by omega)
    · subst e
      rw [List.length_map, List.take_length] at h
      exact k H' h
end
end G

end

/-! D17 -/
section
set_option maxHeartbeats 4000000
namespace G
open PySem L2 GK Si M
theorem sf_now (n t : V) : (sf n t).lookup ("now" : Str) = none := sf_no n t (by decide +kernel) (by decide +kernel)
theorem Sm.frN {C : Addr} {S : List Addr} {H H' : Hp} {p : Addr} {n : Nat} {us : List Str} (h : Sm C H p n us) (e : FrN S H H') (hS : ∀ s ∈ S, Off H s) : Sm C H' p n us := by
  obtain ⟨dx, t, h1, h2⟩ := h.ob
  exact ⟨h.k6, ⟨dx, t, e _ _ h1 (fun _ z => by cases z) fun hm => (hS _ hm _ h1).2 _ _ _ rfl (sf_now _ _), e _ _ h2 (fun _ z => by cases z) fun hm => (hS _ hm _ h2).1 _ rfl⟩, h.nm, h.len, h.few⟩
theorem off_lst {H : Hp} {p : Addr} {xs : List V} (h : H p = some (.lst xs)) : Off H p := fun o e => by
  rw [h] at e; cases e
  exact ⟨fun xs z => (by cases z), fun C dx fs z => (by cases z)⟩
section
variable {P : Program} {w : World} {K : PySem.W.Frag} {mg : Str → Option Value} {base : Heap}
theorem sc48 : FnScope ["_law_draw", "_law_words_here", "_law_box", "_law_events_here", "_law_turn", "_law_line", "_law_event"] ["_law_draw", "_law_words_here", "_law_box", "_law_events_here"] (defScope (top 48)) := ⟨rfl, rfl, rfl, by decide +kernel, rfl, by decide +kernel, by decide +kernel⟩
/-- the special methods of a class, for the operators -/
structure Op (P : Program) (w : World) (K : PySem.W.Frag) (mg : Str → Option Value) (base : Heap) (C : Addr) (m : Str) (k : Nat) (ps : List Str) (sp : Sp) (f : Addr) (fd : FuncData) : Prop where
  G : FnOk P w K mg base CX0 k f fd ps sp
  b : Binds K fd ps []
  s : PySem.W.findIn K (.ref C) m = some (some (.ref f))
  f : PySem.W.isFn K (.ref f) = true
def spRows (CK CM : Addr) : Sp := fun vs H Q _ => ∃ (d g c : Addr) (b : Nat) (aw : Addr) (ws : List Str) (p : Addr) (n : Nat) (blk : V) (ae : Addr) (l : List Str), vs = [.ref d, .ref aw, .ref p, .ref ae] ∧ Dr d g c b H ∧ b ≤ 800000 ∧ Wd H aw ws ∧ aw ≠ g ∧ Kp CK CM H p n l.reverse blk ∧
  H ae = some (.lst (l.map V.str)) ∧ ae ≠ g ∧ ∀ H', Dr d g c (b + 100) H' → Fr [d, g] H H' → Q (.bl true) H'
theorem ok_rows {CK CM CS f : Addr} {fd : FuncData} {fi fj : Addr} {fdi fdj : FuncData} (D : Df K mg "_law_rows_right" (top 48) ["_law_draw", "_law_words_here", "_law_box", "_law_events_here"] f fd) (B : Bi mg) (T : CF K mg "Keeper" CK kas)
    (N1 : Have P w K mg base 1 "_law_take" ["_law_draw", "_law_size"] spTake) (N2 : Have P w K mg base 2 "_law_pick" ["_law_draw", "_law_some"] spPick) (N3 : Have P w K mg base 1 "_law_occurs" ["_law_line", "_law_events_here"] spOccurs)
    (N4 : HaveP P w K mg base 1 CK "k" (getSp CK "own_k")) (N5 : HaveP P w K mg base 7 CK "summary" (spSummary CK CM CS)) (O1 : Op P w K mg base CK "__contains__" 4 ["self", "row"] (spKpIn CK CM) fi fdi) (O2 : Op P w K mg base CS "__contains__" 4 ["self", "row"] (spSumIn CS) fj fdj) :
    FnOk P w K mg base CX0 9 f fd ["_law_draw", "_law_words_here", "_law_box", "_law_events_here"] (spRows CK CM) := by
  obtain ⟨f1, fd1, G1, m1, k1, b1⟩ := N1
  obtain ⟨f2, fd2, G2, m2, k2, b2⟩ := N2
  obtain ⟨f3, fd3, G3, m3, k3, b3⟩ := N3
  obtain ⟨p4, f4, fd4, G4, M4, b4⟩ := N4
  obtain ⟨p5, f5, fd5, G5, M5, b5⟩ := N5
  refine D.F.ok sc48 (fun vs H Q E h => ?_) (fun cdv A outer s H vs Q E hr h => ?_)
  · obtain ⟨d, g, c, b, aw, ws, p, n, blk, ae, l, rfl, _⟩ := h
    rfl
  · obtain ⟨d, g, c, b, aw, ws, p, n, blk, ae, l, rfl, hD, hb, hW, nwg, hK, hE, neg, k⟩ := h
    have hr1 : Room 1 _ := hr.mono (by decide)
    have hr2 : Room 2 _ := hr.mono (by decide)
    have hr4 : Room 4 _ := hr.mono (by decide)
    refine ⟨_, pss_cons (ps_for PassesOwn.never rfl (pi_range1 (by rfl) B.range (pa_cons pe_int pa_nil)) (pg_name (i := 4) sc48.nd rfl (.inl rfl))
      (pss_cons (ps_setLc (i := 5) (own := [("_law_event", 6)]) (g := gName 6) (tt := tYes) rfl sc48.nd rfl rfl (sw_true rfl rfl rfl (by decide +kernel))
          (pi_range1 (by rfl) B.range (pa_cons (pe_call G1 hr1 (by rfl) m1 k1 b1 .nil pass0 (pa_cons (pv 0) (pa_cons (pe_op op_add (pe_prop (pv 2) T.cl M4 G4 hr2 b4 .nil pass0 rfl) pe_int) pa_nil))) pa_nil)) (blkOk_by (N := ["_law_draw", "_law_words_here", "_law_box", "_law_events_here", "_law_turn", "_law_line", "_law_event"]) (sc := defScope (top 48)) (by decide +kernel))
          (fun _ _ _ _ _ => pg_name (i := 6) sc48.nd rfl (.inl rfl)) (fun _ _ _ _ _ => pts_nil) (fun _ _ _ _ _ => pe_call G2 hr2 (by rfl) m2 k2 b2 .nil pass0 (pa_cons (pv 0) (pa_cons (pv 1) pa_nil))))
      (pss_one (ps_if (pw_or (pt_cmpR op_ne (pe_cmpR (op_ownIn O1.G hr4 O1.b O1.s O1.f) (pv 5) (pv 2) (by rfl)) (pe_call G3 hr1 (by rfl) m3 k3 b3 .nil pass0 (pa_cons (pv 5) (pa_cons (pv 3) pa_nil))) (by rfl))
          (pw_or1 (pt_cmpR op_ne (pe_cmpR (op_ownIn O1.G hr4 O1.b O1.s O1.f) (pv 5) (pv 2) (by rfl)) (pe_cmpR (op_ownIn O2.G hr4 O2.b O2.s O2.f) (pv 5) (pe_prop (pv 2) T.cl M5 G5 hr b5 .nil pass0 rfl) (by rfl)) (by rfl)))).pt (pss_one (ps_ret pe_bl)) pss_nil))))
      (pss_one (ps_ret pe_bl)), ?_⟩
    have nw := lst_out hD hK hW.at_ nwg
    have ne := lst_out hD hK hE neg
    have nw2 : aw ∉ [d, g] := fun h => nw (by simp at h ⊢; rcases h with h | h <;> simp [h])
    have ne2 : ae ∉ [d, g] := fun h => ne (by simp at h ⊢; rcases h with h | h <;> simp [h])
    obtain ⟨np1, np2, np3⟩ := hD.kp hK
    have hk6 := hK.k6
    refine ⟨6, rfl, by decide, by decide, for_range (n := 6) (fun i σ H' => ∃ v4 v5, σ = [some (.ref d), some (.ref aw), some (.ref p), some (.ref ae), v4, v5, none] ∧ Dr d g c (b + 10 * i) H' ∧ Fr [d, g] H H')
      ⟨none, none, rfl, hD, Fr.refl _ _⟩ (fun i σ H1 hi ⟨v4, v5, e, hD1, hF1⟩ => ?_) (fun σ H1 ⟨v4, v5, e, hD1, hF1⟩ => ?_)⟩
    · subst e
      have hK1 : Kp CK CM H1 p n l.reverse blk := hK.fr hF1 hD.off (by simp [np1, np2])
      obtain ⟨dx, m, q1, q2⟩ := hK1.ob
      refine ⟨_, rfl, _, rfl, p, dx, _, rfl, q1, p, dx, _, _, rfl, q1, kf_k _ _ _, _, _, rfl, rfl, d, g, c, _, n + 1, rfl, hD1, by omega, by omega, by omega, fun r H2 hr2' hD2 hF2 => ⟨r, rfl, by omega, by omega, fun C hC => ?_⟩⟩
      have nC := hD2.new hC
      have nC2 := hD2.no hC
      have hF12 := hF1.trans hF2
      rw [show ((r : Nat) : Int).toNat = r by omega]
      refine lc_range (fun j H' => ∃ row : List Str, H' C = some (.lst (row.map V.str)) ∧ row.length = j ∧ (∀ z ∈ row, z ∈ ws) ∧ Dr d g c (b + 10 * i + 1 + j) H' ∧ Fr [d, g] H H')
        ⟨[], upd_same, rfl, by simp, (hD2.put nC).mono (by omega), Fr.put hF12 hC hF12⟩ (fun j H3 hj ⟨row, hC3, hrl, hrw, hD3, hF3⟩ => ?_) (fun H3 ⟨row, hC3, hrl, hrw, hD3, hF3⟩ => ?_)
      · refine ⟨rfl, yesI ⟨_, rfl, _, rfl, d, g, c, _, .ref aw, rfl, hD3, by omega, (hW.fr hF3 nw2).pick nwg fun z H4 hz hD4 hF4 => ?_⟩⟩
        refine ⟨_, hF4 _ _ hC3 nC2, small1000 (by rw [List.length_map]; omega), row ++ [z], ?_, by simp [hrl], fun y hy => ?_, (hD4.put nC).mono (by omega), Fr.put hF12 hC (hF3.trans hF4)⟩
        · rw [upd_same, List.map_append]; rfl
        · rcases List.mem_append.mp hy with hy | hy
          · exact hrw y hy
          · rw [List.mem_singleton.mp hy]; exact hz
      · have hK3 : Kp CK CM H3 p n l.reverse blk := hK.fr hF3 hD.off (by simp [np1, np2])
        obtain ⟨dx3, m3', q3, _⟩ := hK3.ob
        have hE3 := hF3 _ _ hE ne2
        have rnm : ∀ z ∈ row, Nm z := fun z hz => hW.nm z (hrw z hz)
        have rl : row.length ≤ n := by omega
        refine ⟨_, rfl, _, rfl, p, dx3, _, rfl, q3, p, C, n, _, blk, row, rfl, hK3, hC3, rnm, fun b1 H4 hb1 s4 => ⟨b1, rfl, ?_⟩⟩
        rw [List.reverse_reverse] at hb1
        refine ⟨_, rfl, _, rfl, C, ae, row, l, rfl, s4 _ _ hC3, s4 _ _ hE3, fun b2 hb2 => ⟨rfl, _, rfl, ?_⟩⟩
        have e12 : b1 = b2 := by
          rw [Bool.eq_iff_iff, hb1, hb2]
          exact ⟨fun q => q.2, fun q => ⟨rl, q⟩⟩
        refine ite2 (fun cz => absurd cz (by rw [e12]; simp)) (fun _ => ?_)
        have hK4 := hK3.same s4
        obtain ⟨dx4, m4', q4, _⟩ := hK4.ob
        refine ⟨_, rfl, _, rfl, p, dx4, _, rfl, q4, p, C, n, _, blk, row, rfl, hK4, s4 _ _ hC3, rnm, fun b3 H5 hb3 s5 => ⟨b3, rfl, ?_⟩⟩
        rw [List.reverse_reverse] at hb3
        have hK5 := hK4.same s5
        obtain ⟨dx5, m5', q5, _⟩ := hK5.ob
        refine ⟨_, rfl, _, rfl, p, dx5, _, rfl, q5, p, n, _, blk, rfl, hK5, fun H6 x s6 hS6 => ?_⟩
        rw [List.reverse_reverse] at hS6
        obtain ⟨dx6, t6, q6, _⟩ := hS6.ob
        refine ⟨x, dx6, _, rfl, q6, x, C, n, _, row, rfl, hS6, s6 _ _ (s5 _ _ (s4 _ _ hC3)), rnm, fun b4 H7 hb4 s7 => ⟨b4, rfl, rfl, _, rfl, ?_⟩⟩
        have e34 : b3 = b4 := by
          rw [Bool.eq_iff_iff, hb3, hb4, canS_row rl]
        refine ite2 (fun cz => absurd cz (by rw [e34]; simp)) (fun _ => ?_)
        have s37 : Same H3 H7 := ((s4.trans s5).trans s6).trans s7
        exact ⟨_, _, rfl, (hD3.same s37).mono (by omega), hF3.trans (Fr.of s37)⟩
    · subst e
      exact k _ (hD1.mono (by omega)) hF1
end
end G

end

/-! D18 -/
section
set_option maxHeartbeats 4000000
namespace G
open PySem L2 GK Si M
theorem FrN.drop {S : List Addr} {p : Addr} {H H1 H2 : Hp} (s : Same H H1) (n : H p = none) (f : FrN (S ++ [p]) H1 H2) : FrN S H H2 := fun b o e t hb => f b o (s b o e) t fun hm => by
  rcases List.mem_append.mp hm with hm | hm
  · exact hb hm
  · rw [List.mem_singleton.mp hm, n] at e
    cases e
section
variable {P : Program} {w : World} {K : PySem.W.Frag} {mg : Str → Option Value} {base : Heap}
theorem sc47 : FnScope ["_law_draw", "_law_words_here", "_law_events_here", "_law_most", "_law_at", "_law_far", "_law_begin", "_law_end", "_law_told", "_law_piece", "_law_box", "_law_due"] ["_law_draw", "_law_words_here", "_law_events_here", "_law_most"] (defScope (top 47)) := ⟨rfl, rfl, rfl, by decide +kernel, rfl, by decide +kernel, by decide +kernel⟩
def spPieces (T : List (Addr × Str)) : Sp := fun vs H Q _ => ∃ (d g c : Addr) (b : Nat) (aw : Addr) (ws : List Str) (ae : Addr) (l : List Str) (n : Nat), vs = [.ref d, .ref aw, .ref ae, .int (n : Int)] ∧ Dr d g c b H ∧ b ≤ 700000 ∧ Wd H aw ws ∧ aw ≠ g ∧
  H ae = some (.lst (l.map V.str)) ∧ ae ≠ g ∧ (∀ z ∈ l, z ∈ ws) ∧ l.length ≤ 120 ∧ n ≤ 6 ∧ LamX.Tabs T H ∧ ∀ H', Dr d g c (b + 2000) H' → FrN [d, g] H H' → LamX.Tabs T H' → Q (.bl true) H'
/-- what is used of the keeper and the summary by their names -/
structure Kit (P : Program) (w : World) (K : PySem.W.Frag) (mg : Str → Option Value) (base : Heap) (CK CM CS : Addr) : Prop where
  T : CF K mg "Keeper" CK kas
  TS : CF K mg "Summary" CS ["own_k", "own_left"]
  mkr : HaveK P w K mg base 3 "Keeper" CK ["self", "k"] (spKpInit CK CM)
  mks : HaveK P w K mg base 5 "Summary" CS ["self", "k", "log"] (spSumInit CS)
  sum : HaveP P w K mg base 7 CK "summary" (spSummary CK CM CS)
  many : HaveP P w K mg base 1 CK "many" (spMany CK CM)
  left : HaveP P w K mg base 1 CK "left" (spLeft CK CM)
  k : HaveP P w K mg base 1 CK "k" (getSp CK "own_k")
  sleft : HaveP P w K mg base 1 CS "left" (getSp CS "own_left")
  came : HaveM P w K mg base 5 CK "came" ["self", "name"] (spCame CK CM)
  undo : HaveM P w K mg base 1 CK "undo" ["self"] (spUndo CK CM)
  down : HaveM P w K mg base 7 CS "down_to" ["self", "k"] (spDown CS)
  eq : ∃ f fd, Op P w K mg base CS "__eq__" 2 ["self", "other"] (spSumEq CS) f fd
  add : ∃ f fd, Op P w K mg base CS "__add__" 7 ["self", "other"] (spSumAdd CS) f fd
  sf : PySem.W.selfFirst K CS = true
  ne : PySem.W.findIn K (.ref CS) "__ne__" = some (some (.builtin "object.__ne__"))
  so : PySem.W.subIn K (.ref CS) (.type "object") = some true
theorem sp_mk {CK CM x dx : Addr} {H1 : Hp} {n : Nat} {R : VK} {E : XK} (hn : n ≤ 6) (nx : H1 x = none) (nd : H1 dx = none) (k : ∀ H', Same H1 H' → Kp CK CM H' x n [] .non → R .non H') : spKpInit CK CM (.ref x :: ([.int (n : Int)] ++ [])) (upd (upd H1 dx (.own x)) x (.ins CK dx [])) R E :=
  ⟨x, dx, n, rfl, upd_same, hn, fun H' hk kk => k H' (Same.made nx nd kk) hk⟩
theorem sp_ms {CS x dx a : Addr} {H1 : Hp} {n : Nat} {l : List Str} {R : VK} {E : XK} (hn : n ≤ 6) (hL : Lg H1 a l) (nx : H1 x = none) (nd : H1 dx = none) (k : ∀ H', Same H1 H' → Sm CS H' x n (canS n l) → R .non H') : spSumInit CS (.ref x :: ([.int (n : Int), .ref a] ++ [])) (upd (upd H1 dx (.own x)) x (.ins CS dx [])) R E := by
  have hs : Same H1 (upd (upd H1 dx (.own x)) x (.ins CS dx [])) := fun b o e => by
    rw [upd_ne (ne_of_none e nx), upd_ne (ne_of_none e nd)]; exact e
  exact ⟨x, dx, a, l, n, rfl, upd_same, hL.same hs, hn, fun H' hS kk => k H' (Same.made nx nd kk) hS⟩
theorem cut_to {l : List Str} {e : Nat} (h : e ≤ l.length) : cutV (l.map V.str) none (some (e : Int)) = (l.take e).map V.str := by
  unfold cutV
  rw [HT.sIx_none, HT.sIx_nat, List.length_map, Nat.min_eq_left h, List.drop_zero, Nat.sub_zero, List.map_take]
theorem cut_from {l : List Str} {b : Nat} (h : b ≤ l.length) : cutV (l.map V.str) (some (b : Int)) none = (l.drop b).map V.str := by
  unfold cutV
  rw [HT.sIx_none, HT.sIx_nat, List.length_map, Nat.min_eq_left h, ← List.map_drop, List.take_of_length_le (by rw [List.length_map, List.length_drop]; exact Nat.le_refl _)]
theorem ok_pieces {CK CM CS f : Addr} {fd : FuncData} {TT : List (Addr × Str)} (D : Df K mg "_law_pieces_right" (top 47) ["_law_draw", "_law_words_here", "_law_events_here", "_law_most"] f fd) (B : Bi mg) (Y : Kit P w K mg base CK CM CS)
    (N1 : Have P w K mg base 1 "_law_take" ["_law_draw", "_law_size"] spTake) (N2 : Have P w K mg base 15 "_law_fed" ["_law_draw", "_law_words_here", "_law_box", "_law_events_here"] (spFed CK CM TT)) :
    FnOk P w K mg base CX0 16 f fd ["_law_draw", "_law_words_here", "_law_events_here", "_law_most"] (spPieces TT) := by
  obtain ⟨f1, fd1, G1, m1, k1, b1⟩ := N1
  obtain ⟨f2, fd2, G2, m2, k2, b2⟩ := N2
  obtain ⟨f3, fd3, G3, M3, b3, m3⟩ := Y.mkr
  obtain ⟨f4, fd4, G4, M4, b4, m4⟩ := Y.mks
  obtain ⟨p5, f5, fd5, G5, M5, b5⟩ := Y.sum
  obtain ⟨f6, fd6, O6⟩ := Y.eq
  obtain ⟨f7, fd7, O7⟩ := Y.add
  refine D.F.ok sc47 (fun vs H Q E h => ?_) (fun cdv A outer s H vs Q E hr h => ?_)
  · obtain ⟨d, g, c, b, aw, ws, ae, l, n, rfl, _⟩ := h
    rfl
  · obtain ⟨d, g, c, b, aw, ws, ae, l, n, rfl, hD, hb, hW, nwg, hE, neg, hlw, hll, hn, hT, k⟩ := h
    have hr1 : Room 1 _ := hr.mono (by decide)
    have hr2 : Room 2 _ := hr.mono (by decide)
    have hr4 : Room 4 _ := hr.mono (by decide)
    have hr6 : Room 6 _ := hr.mono (by decide)
    have hr7 : Room 7 _ := hr.mono (by decide)
    have hr8 : Room 8 _ := hr.mono (by decide)
    refine ⟨_, pss_cons (ps_par (i := 4) (j := 5) rfl sc47.nd rfl rfl (by decide) rfl rfl (pa_cons (pe_call G1 hr1 (by rfl) m1 k1 b1 .nil pass0 (pa_cons (pv 0) (pa_cons (pe_op op_add (pe_callB call_len_seq (by rfl) B.len PySem.boot_len (pa_cons (pv 2) pa_nil)) pe_int) pa_nil)))
          (pa_cons (pe_call G1 hr1 (by rfl) m1 k1 b1 .nil pass0 (pa_cons (pv 0) (pa_cons (pe_op op_add (pe_callB call_len_seq (by rfl) B.len PySem.boot_len (pa_cons (pv 2) pa_nil)) pe_int) pa_nil))) pa_nil)) (by rfl))
      (pss_cons (ps_par (i := 6) (j := 7) rfl sc47.nd rfl rfl (by decide) rfl rfl (pa_cons (pe_callB (call_min2 rfl) (by rfl) B.min (by decide +kernel) (pa_cons (pv 4) (pa_cons (pv 5) pa_nil))) (pa_cons (pe_callB (call_max2 rfl) (by rfl) B.max (by decide +kernel) (pa_cons (pv 4) (pa_cons (pv 5) pa_nil))) pa_nil)) (by rfl))
      (pss_cons (ps_set (i := 8) sc47.nd rfl (.inl rfl) (pe_lst pa_nil))
      (pss_cons (ps_for PassesOwn.never rfl (pi_list (pe_lst (pa_cons (pe_slice sl_list (pv 2) po_none (po_some (pv 6))) (pa_cons (pe_slice sl_list (pv 2) (po_some (pv 6)) (po_some (pv 7))) (pa_cons (pe_slice sl_list (pv 2) (po_some (pv 7)) po_none) pa_nil))))) (pg_name (i := 9) sc47.nd rfl (.inl rfl))
        (pss_cons (ps_set (i := 10) sc47.nd rfl (.inl rfl) (pe_make M3 G3 hr4 (by rfl) m3 b3 .nil pass0 (pa_cons (pv 3) pa_nil)))
        (pss_cons (ps_expr (pe_call G2 hr (by rfl) m2 k2 b2 .nil pass0 (pa_cons (pv 0) (pa_cons (pv 1) (pa_cons (pv 10) (pa_cons (pv 9) pa_nil))))))
        (pss_one (ps_expr (pe_bm PySem.F.plainAttrs_list PySem.F.slot_list_append PySem.F.type_list_append mt_append (pv 8) (pa_cons (pe_prop (pv 10) Y.T.cl M5 G5 hr8 b5 .nil pass0 rfl) pa_nil)))))))
      (pss_cons (ps_set (i := 11) sc47.nd rfl (.inl rfl) (pe_make M4 G4 hr6 (by rfl) m4 b4 .nil pass0 (pa_cons (pv 3) (pa_cons (pv 2) pa_nil))))
      (pss_one (ps_ret (pe_and (pe_cmpR (op_ownEq O6.G hr2 O6.b O6.s O6.f) (pe_op (op_ownAdd O7.G hr7 O7.b O7.s O7.f Y.sf) (pe_op (op_ownAdd O7.G hr7 O7.b O7.s O7.f Y.sf) (pe_ix ix_list (pv 8) pe_int (fun _ _ => rfl)) (pe_ix ix_list (pv 8) pe_int (fun _ _ => rfl))) (pe_ix ix_list (pv 8) pe_int (fun _ _ => rfl))) (pv 11) (by rfl))
        (pe_one (pe_cmpR (op_ownEq O6.G hr2 O6.b O6.s O6.f) (pe_op (op_ownAdd O7.G hr7 O7.b O7.s O7.f Y.sf) (pe_ix ix_list (pv 8) pe_int (fun _ _ => rfl)) (pe_op (op_ownAdd O7.G hr7 O7.b O7.s O7.f Y.sf) (pe_ix ix_list (pv 8) pe_int (fun _ _ => rfl)) (pe_ix ix_list (pv 8) pe_int (fun _ _ => rfl)))) (pv 11) (by rfl)))))))))), ?_⟩
    have hwN : ∀ z ∈ ws, Nm z := hW.nm
    have few : ∀ l' : List Str, (∀ z ∈ l', z ∈ ws) → Few l' := fun l' h => ⟨ws, by have := hW.len; omega, h⟩
    have ndg : ∀ {H' : Hp} {b' : Nat} {a : Addr} {xs : List V}, Dr d g c b' H' → H' a = some (.lst xs) → a ≠ g → a ∉ [d, g] := fun hd ha n => by
      obtain ⟨kvs, _, _, _, _, h1, _⟩ := hd.ob
      have e1 : _ ≠ d := ne_of ha h1 (by intro z; cases z)
      simp [e1, n]
    have nw := ndg hD hW.at_ nwg
    have ne := ndg hD hE neg
    refine ⟨_, rfl, _, rfl, ae, _, rfl, .inl (SqL.of hE), _, _, rfl, rfl, d, g, c, b, l.length + 1, by rw [List.length_map]; rfl, hD, by omega, by omega, by omega, fun at_ H1 hat hD1 hF1 => ?_⟩
    have hE1 := hF1 _ _ hE ne
    refine ⟨_, rfl, _, rfl, ae, _, rfl, .inl (SqL.of hE1), _, _, rfl, rfl, d, g, c, _, l.length + 1, by rw [List.length_map]; rfl, hD1, by omega, by omega, by omega, fun far H2 hfar hD2 hF2 => ⟨_, _, rfl, ?_⟩⟩
    have hE2 := hF2 _ _ hE1 ne
    have F2 : Fr [d, g] H H2 := hF1.trans hF2
    refine ⟨_, rfl, _, rfl, _, _, rfl, _, rfl, _, rfl, _, _, rfl, _, _, rfl, ?_⟩
    obtain ⟨be, ebe⟩ : ∃ be : Nat, min at_ far = be := ⟨_, rfl⟩
    obtain ⟨en, een⟩ : ∃ en : Nat, max at_ far = en := ⟨_, rfl⟩
    have e1 : (if ((far : Nat) : Int) < ((at_ : Nat) : Int) then ((far : Nat) : Int) else ((at_ : Nat) : Int)) = ((be : Nat) : Int) := by
      split <;> omega
    have e2 : (if ((far : Nat) : Int) > ((at_ : Nat) : Int) then ((far : Nat) : Int) else ((at_ : Nat) : Int)) = ((en : Nat) : Int) := by
      split <;> omega
    rw [e1, e2]
    have hbe : be ≤ en := by omega
    have hen : en ≤ l.length := by omega
    refine ⟨(by show 0 ≤ sizeLine; decide), fun pt hpt => ?_⟩
    have st : Same H2 (upd H2 pt (.lst [])) := Same.put (Same.refl _) hpt
    have hpt0 : H pt = none := F2.free hpt (hD2.no hpt)
    refine ⟨_, rfl, _, rfl, _, rfl, ae, _, rfl, SqL.of (st _ _ hE2), fun q1 hq1 => ?_⟩
    rw [cut_to (show be ≤ l.length by omega)]
    have s1 := st.one (o := .lst ((l.take be).map V.str)) hq1
    refine ⟨_, rfl, _, rfl, _, rfl, _, rfl, _, rfl, ae, _, rfl, SqL.of (s1 _ _ hE2), fun q2 hq2 => ?_⟩
    rw [cut_nat hbe hen]
    have s2 := s1.one (o := .lst (((l.drop be).take (en - be)).map V.str)) hq2
    refine ⟨_, rfl, _, rfl, _, rfl, ae, _, rfl, SqL.of (s2 _ _ hE2), fun q3 hq3 => ?_⟩
    rw [cut_from hen]
    have s3 := s2.one (o := .lst ((l.drop en).map V.str)) hq3
    refine ⟨(by show 3 ≤ sizeLine; decide), fun pL hpL => ?_⟩
    have s4 := s3.one (o := .lst [.ref q1, .ref q2, .ref q3]) hpL
    obtain ⟨Hs, eHs⟩ : ∃ Hs, upd (upd (upd (upd (upd H2 pt (.lst [])) q1 (.lst ((l.take be).map V.str))) q2 (.lst (((l.drop be).take (en - be)).map V.str))) q3 (.lst ((l.drop en).map V.str))) pL (.lst [.ref q1, .ref q2, .ref q3]) = Hs := ⟨_, rfl⟩
    have a12 : q1 ≠ q2 := ne_of_none upd_same hq2
    have a13 : q1 ≠ q3 := ne_of_none (show _ = some _ by rw [upd_ne a12, upd_same]) hq3
    have a14 : q1 ≠ pL := ne_of_none (show _ = some _ by rw [upd_ne a13, upd_ne a12, upd_same]) hpL
    have a23 : q2 ≠ q3 := ne_of_none upd_same hq3
    have a24 : q2 ≠ pL := ne_of_none (show _ = some _ by rw [upd_ne a23, upd_same]) hpL
    have a34 : q3 ≠ pL := ne_of_none upd_same hpL
    have at1 : pt ≠ q1 := ne_of_none upd_same hq1
    have at2 : pt ≠ q2 := ne_of_none (show _ = some _ by rw [upd_ne at1, upd_same]) hq2
    have at3 : pt ≠ q3 := ne_of_none (show _ = some _ by rw [upd_ne at2, upd_ne at1, upd_same]) hq3
    have at4 : pt ≠ pL := ne_of_none (show _ = some _ by rw [upd_ne at3, upd_ne at2, upd_ne at1, upd_same]) hpL
    have ht0 : Hs pt = some (.lst []) := by rw [← eHs, upd_ne at4, upd_ne at3, upd_ne at2, upd_ne at1, upd_same]
    have h10 : Hs q1 = some (.lst ((l.take be).map V.str)) := by rw [← eHs, upd_ne a14, upd_ne a13, upd_ne a12, upd_same]
    have h20 : Hs q2 = some (.lst (((l.drop be).take (en - be)).map V.str)) := by rw [← eHs, upd_ne a24, upd_ne a23, upd_same]
    have h30 : Hs q3 = some (.lst ((l.drop en).map V.str)) := by rw [← eHs, upd_ne a34, upd_same]
    have hL0 : Hs pL = some (.lst [.ref q1, .ref q2, .ref q3]) := by rw [← eHs, upd_same]
    rw [eHs] at s4
    rw [eHs]
    have hDs := hD2.same s4
    have npt := hD2.new hpt
    have nn : ∀ q xs, Hs q = some (.lst xs) → H2 q = none → pt ≠ q → q ∉ [d, g] ++ [pt] := fun q xs e n npq => by
      obtain ⟨z1, z2, _⟩ := hD2.new n
      simp [z1, z2, npq.symm]
    have n1 := nn q1 _ h10 (st.free hq1) at1
    have n2 := nn q2 _ h20 (s1.free hq2) at2
    have n3 := nn q3 _ h30 (s2.free hq3) at3
    have n4 := nn pL _ hL0 (s3.free hpL) at4
    obtain ⟨ps, eps⟩ : ∃ ps : List (Addr × List Str), ps = [(q1, l.take be), (q2, (l.drop be).take (en - be)), (q3, l.drop en)] := ⟨_, rfl⟩
    have hps : ∀ q u, (q, u) ∈ ps → Hs q = some (.lst (u.map V.str)) ∧ q ∉ [d, g] ++ [pt] ∧ (∀ z ∈ u, z ∈ l) ∧ u.length ≤ 120 := fun q u hm => by
      rw [eps] at hm
      simp only [List.mem_cons, List.mem_nil_iff, or_false, Prod.mk.injEq] at hm
      rcases hm with ⟨rfl, rfl⟩ | ⟨rfl, rfl⟩ | ⟨rfl, rfl⟩
      · exact ⟨h10, n1, fun z hz => List.take_subset _ _ hz, by rw [List.length_take]; omega⟩
      · exact ⟨h20, n2, fun z hz => List.drop_subset _ _ (List.take_subset _ _ hz), by rw [List.length_take, List.length_drop]; omega⟩
      · exact ⟨h30, n3, fun z hz => List.drop_subset _ _ hz, by rw [List.length_drop]; omega⟩
    have epl : ([.ref q1, .ref q2, .ref q3] : List V) = ps.map fun x => V.ref x.1 := by rw [eps]; rfl
    rw [epl] at hL0
    have hpl3 : ps.length = 3 := by rw [eps]; rfl
    have offS : ∀ {H' : Hp} {b' : Nat} {xs : List V}, Dr d g c b' H' → H' pt = some (.lst xs) → ∀ s ∈ [d, g] ++ [pt], Off H' s := fun hd ht s hs => by
      rcases List.mem_append.mp hs with hs | hs
      · exact hd.off s hs
      · rw [List.mem_singleton.mp hs]; exact off_lst ht
    refine ⟨pL, rfl, ⟨_, SqL.of hL0⟩, for_list (K := K) (a := pL) (xs := ps.map fun x => V.ref x.1) (fun i σ H' => ∃ (v9 v10 : Option V) (sm : List Addr), σ = [some (.ref d), some (.ref aw), some (.ref ae), some (.int (n : Int)), some (.int (at_ : Int)), some (.int (far : Int)), some (.int (be : Int)), some (.int (en : Int)), some (.ref pt), v9, v10, none] ∧
        H' pt = some (.lst (sm.map V.ref)) ∧ sm.length = i ∧ (∀ (j : Nat) (x : Addr) (q : Addr) (u : List Str), sm[j]? = some x → ps[j]? = some (q, u) → Sm CS H' x n (canS n u)) ∧ Dr d g c (b + 2 + 250 * i) H' ∧ FrN ([d, g] ++ [pt]) Hs H' ∧ LamX.Tabs TT H')
      ⟨none, none, [], rfl, ht0, rfl, fun j x q u e => by simp at e, hDs.mono (by omega), FrN.refl _ _, LamX.Tabs.ext (tabs_fr hT F2 hD.notab) s4⟩ (fun i σ H' _ ⟨_, _, _, _, _, _, _, _, f, _⟩ => SqL.of (f _ _ hL0 (fun _ z => by cases z) n4)) (fun i x σ H' hi ⟨v9, v10, sm, e, hpt', hsl, hsm, hD', hF', hT'⟩ => ?_) (fun σ H' ⟨v9, v10, sm, e, hpt', hsl, hsm, hD', hF', hT'⟩ => ?_)⟩
    · obtain ⟨⟨q, u⟩, hqu, ex⟩ : ∃ qu : Addr × List Str, ps[i]? = some qu ∧ x = V.ref qu.1 := by
        rw [List.getElem?_map] at hi
        cases z : ps[i]? with
        | none => rw [z] at hi; cases hi
        | some qu => rw [z] at hi; exact ⟨qu, rfl, (Option.some.inj hi).symm⟩
      subst ex e
      have hi3 : i < 3 := by have := (List.getElem?_eq_some_iff.mp hqu).1; omega
      obtain ⟨hq0, nq, hul, hul2⟩ := hps q u (List.mem_of_getElem? hqu)
      have hq' := hF' _ _ hq0 (fun _ z => by cases z) nq
      refine ⟨_, rfl, fun bx dx nx ndx _ => sp_mk hn nx ndx fun H3 s3' hk3 => ⟨rfl, ?_⟩⟩
      have hD3 := hD'.same s3'
      have hW3 : Wd H3 aw ws := by
        refine ⟨s3' _ _ (hF' _ _ (s4 _ _ (F2 _ _ hW.at_ nw)) (fun _ z => by cases z) ?_), hW.nm, hW.len, hW.pos⟩
        have e1 : aw ≠ pt := ne_of_none (F2 _ _ hW.at_ nw) hpt
        intro hm
        rcases List.mem_append.mp hm with hm | hm
        · exact nw hm
        · exact e1 (List.mem_singleton.mp hm)
      have nqg : q ≠ g := fun e => nq (by rw [e]; simp)
      have fs0 : Fs CK CM TT d g c (b + 2 + 250 * i) bx n [] .non H3 H3 := ⟨hk3, hD3, FrN.refl _ _, LamX.Tabs.ext hT' s3'⟩
      refine ⟨_, rfl, _, rfl, _, rfl, _, rfl, d, g, c, _, aw, ws, bx, n, [], .non, q, u, rfl, fs0, by omega, hW3, nwg, s3' _ _ hq', nqg, fun z hz => hlw z (hul z hz), by simp, by simp; omega, fun H5 fs5 => ?_⟩
      have f5 : FrN [d, g] H' H5 := FrN.drop s3' nx fs5.fr
      have kp5 := fs5.kp
      obtain ⟨dx5, m5', q5, _⟩ := kp5.ob
      have hpt5 : H5 pt = some (.lst (sm.map V.ref)) := f5 _ _ hpt' (fun _ z => by cases z) (by simp [npt])
      refine ⟨_, rfl, .inl ⟨rfl, _, SqL.of hpt5⟩, _, rfl, bx, dx5, _, rfl, q5, bx, n, _, .non, rfl, kp5, fun H6 x s6 hS6 => ?_⟩
      rw [List.append_nil, List.reverse_reverse] at hS6
      have hpt6 := s6 _ _ hpt5
      have hput : FrN [pt] H6 (upd H6 pt (.lst (sm.map V.ref ++ [.ref x]))) := fun b' o e _ hb' => by rw [upd_ne (by simpa using hb')]; exact e
      have offp : ∀ s ∈ [pt], Off H6 s := fun s' hs => by rw [List.mem_singleton.mp hs]; exact off_lst hpt6
      refine ⟨pt, _, _, rfl, rfl, hpt6, small1000 (by rw [List.length_map]; omega), _, _, sm ++ [x], rfl, by rw [upd_same, List.map_append]; rfl, by simp [hsl], fun j y q' u' hj hj' => ?_, ?_, ?_, ?_⟩
      · rcases Nat.lt_or_ge j sm.length with h | h
        · rw [List.getElem?_append_left h] at hj
          exact (((hsm j y q' u' hj hj').frN f5 hD'.off).same s6).frN hput offp
        · rw [List.getElem?_append_right h] at hj
          have hj0 : j - sm.length = 0 := by
            have := (List.getElem?_eq_some_iff.mp hj).1
            simp at this
            omega
          rw [hj0] at hj
          have ey : x = y := by simpa using hj
          have ej : j = i := by omega
          rw [ej, hqu] at hj'
          obtain ⟨z1, z2⟩ := Prod.mk.inj (Option.some.inj hj')
          subst ey z2
          exact hS6.frN hput offp
      · exact ((fs5.dr.same s6).put npt).mono (by omega)
      · refine ((hF'.trans (f5.mono (by simp))).trans (FrN.of s6)).trans (hput.mono (by simp))
      · refine tabs_fr (S := [pt]) (LamX.Tabs.ext fs5.tb s6) (fun b' o e hb' => by rw [upd_ne (by simpa using hb')]; exact e) fun s' hs o e => ?_
        rw [List.mem_singleton.mp hs, hpt6] at e
        cases e
        exact ⟨fun _ z => (by cases z), fun _ _ z => (by cases z)⟩
    · subst e
      rw [List.length_map, hpl3] at hsl hD'
      match sm, hsl with
      | [x1, x2, x3], _ =>
        have S1 : Sm CS H' x1 n (canS n (l.take be)) := hsm 0 x1 q1 _ rfl (by rw [eps]; rfl)
        have S2 : Sm CS H' x2 n (canS n ((l.drop be).take (en - be))) := hsm 1 x2 q2 _ rfl (by rw [eps]; rfl)
        have S3 : Sm CS H' x3 n (canS n (l.drop en)) := hsm 2 x3 q3 _ rfl (by rw [eps]; rfl)
        have FH : FrN [d, g] H H' := fun b' o e t hb' => hF' b' o (s4 _ _ (F2 _ _ e hb')) t fun hm => by
          rcases List.mem_append.mp hm with hm | hm
          · exact hb' hm
          · rw [List.mem_singleton.mp hm, hpt0] at e
            cases e
        have hE' := FH _ _ hE (fun _ z => by cases z) ne
        have hLg : Lg H' ae l := ⟨.inl hE', fun z hz => hwN z (hlw z hz), by omega, few l hlw⟩
        refine ⟨_, rfl, _, rfl, fun xd dxd nxd ndd _ => sp_ms hn hLg nxd ndd fun H7 s7 hS7 => ⟨rfl, ?_⟩⟩
        have T1 := S1.same s7
        have T2 := S2.same s7
        have T3 := S3.same s7
        have hpt7 := s7 _ _ hpt'
        have sub1 : ∀ z ∈ canS n (l.take be), z ∈ ws := fun z hz => hlw z (List.take_subset _ _ (canS_mem hz))
        have sub2 : ∀ z ∈ canS n ((l.drop be).take (en - be)), z ∈ ws := fun z hz => hlw z (List.drop_subset _ _ (List.take_subset _ _ (canS_mem hz)))
        have sub3 : ∀ z ∈ canS n (l.drop en), z ∈ ws := fun z hz => hlw z (List.drop_subset _ _ (canS_mem hz))
        have len1 : (canS n (l.take be)).length ≤ 120 := Nat.le_trans (canS_len _ _) (by rw [List.length_take]; omega)
        have len2 : (canS n ((l.drop be).take (en - be))).length ≤ 120 := Nat.le_trans (canS_len _ _) (by rw [List.length_take, List.length_drop]; omega)
        have len3 : (canS n (l.drop en)).length ≤ 120 := Nat.le_trans (canS_len _ _) (by rw [List.length_drop]; omega)
        have two : ∀ {u v : List Str}, (∀ z ∈ u, z ∈ ws) → (∀ z ∈ v, z ∈ ws) → ∀ z ∈ u ++ v, z ∈ ws := fun h1 h2 z hz => (List.mem_append.mp hz).elim (h1 z) (h2 z)
        have eABC : l.take be ++ (l.drop be).take (en - be) ++ l.drop en = l := by
          have e1 : l.take be ++ (l.drop be).take (en - be) = l.take en := by
            rw [show l.take en = (l.take be ++ (l.drop be)).take en by rw [List.take_append_drop], List.take_append, List.length_take, Nat.min_eq_left (show be ≤ l.length by omega), List.take_of_length_le (show (l.take be).length ≤ en by rw [List.length_take]; omega)]
          rw [e1, List.take_append_drop]
        have items : ∀ (H8 : Hp), Same H7 H8 → H8 pt = some (.lst ([x1, x2, x3].map V.ref)) := fun H8 s8 => s8 _ _ hpt7
        -- (told[0] + told[1]) + told[2]
        obtain ⟨d1, t1, o1, _⟩ := T1.ob
        obtain ⟨d2, t2, o2, _⟩ := T2.ob
        obtain ⟨d3, t3, o3, _⟩ := T3.ob
        refine ⟨_, rfl, pt, _, 0, .ref x1, rfl, rfl, SqL.of hpt7, at_of (j := 0) rfl rfl, _, rfl, pt, _, 1, .ref x2, rfl, rfl, SqL.of hpt7, at_of (j := 1) rfl rfl, x1, x2, d1, d2, _, _, rfl, rfl, o1, o2, x1, x2, n, _, _, rfl, T1, T2, by omega, few _ (two sub1 sub2), fun H8 y8 s8 hS8 => ⟨y8, rfl, ?_⟩⟩
        rw [canS_app] at hS8
        obtain ⟨d8, t8, o8, _⟩ := hS8.ob
        have len8 : (canS n (l.take be ++ (l.drop be).take (en - be))).length ≤ 240 := Nat.le_trans (canS_len _ _) (by rw [List.length_append, List.length_take, List.length_take, List.length_drop]; omega)
        have sub8 : ∀ z ∈ canS n (l.take be ++ (l.drop be).take (en - be)), z ∈ ws := fun z hz => by
          rcases List.mem_append.mp (canS_mem hz) with h | h
          · exact hlw z (List.take_subset _ _ h)
          · exact hlw z (List.drop_subset _ _ (List.take_subset _ _ h))
        refine ⟨_, rfl, pt, _, 2, .ref x3, rfl, rfl, SqL.of (items H8 s8), at_of (j := 2) rfl rfl, y8, x3, d8, d3, _, _, rfl, rfl, o8, s8 _ _ o3, y8, x3, n, _, _, rfl, hS8, T3.same s8, by omega, few _ (two sub8 sub3), fun H9 y9 s9 hS9 => ⟨y9, rfl, ?_⟩⟩
        rw [canS_app, eABC] at hS9
        obtain ⟨d9, t9, o9, _⟩ := hS9.ob
        have s79 := s8.trans s9
        have hS79 := hS7.same s79
        obtain ⟨dd, td, od, _⟩ := hS79.ob
        refine ⟨_, rfl, y9, xd, d9, dd, _, _, rfl, rfl, o9, od, y9, xd, n, n, _, _, rfl, hS9, hS79, fun bb hbb => ⟨bb, rfl, bb, rfl, ?_⟩⟩
        have ebb : bb = true := hbb.mpr ⟨rfl, rfl⟩
        rw [ebb]
        refine iteT ?_
        -- told[0] + (told[1] + told[2])
        have U1 := T1.same s79
        have U2 := T2.same s79
        have U3 := T3.same s79
        have hptU := items H9 s79
        refine ⟨_, rfl, pt, _, 0, .ref x1, rfl, rfl, SqL.of hptU, at_of (j := 0) rfl rfl, _, rfl, pt, _, 1, .ref x2, rfl, rfl, SqL.of hptU, at_of (j := 1) rfl rfl, _, rfl, pt, _, 2, .ref x3, rfl, rfl, SqL.of hptU, at_of (j := 2) rfl rfl, x2, x3, d2, d3, _, _, rfl, rfl, s79 _ _ o2, s79 _ _ o3, x2, x3, n, _, _, rfl, U2, U3, by omega, few _ (two sub2 sub3), fun H10 y10 s10 hS10 => ⟨y10, rfl, ?_⟩⟩
        rw [canS_app] at hS10
        obtain ⟨d10, t10, o10, _⟩ := hS10.ob
        have len10 : (canS n ((l.drop be).take (en - be) ++ l.drop en)).length ≤ 240 := Nat.le_trans (canS_len _ _) (by rw [List.length_append, List.length_take, List.length_drop, List.length_drop]; omega)
        have sub10 : ∀ z ∈ canS n ((l.drop be).take (en - be) ++ l.drop en), z ∈ ws := fun z hz => by
          rcases List.mem_append.mp (canS_mem hz) with h | h
          · exact hlw z (List.drop_subset _ _ (List.take_subset _ _ h))
          · exact hlw z (List.drop_subset _ _ h)
        refine ⟨x1, y10, d1, d10, _, _, rfl, rfl, s10 _ _ (s79 _ _ o1), o10, x1, y10, n, _, _, rfl, U1.same s10, hS10, by omega, few _ (two sub1 sub10), fun H11 y11 s11 hS11 => ⟨y11, rfl, ?_⟩⟩
        rw [canS_app, ← List.append_assoc, eABC] at hS11
        obtain ⟨d11, t11, o11, _⟩ := hS11.ob
        have s711 := (s79.trans s10).trans s11
        have hS711 := hS7.same s711
        obtain ⟨de, te, oe, _⟩ := hS711.ob
        refine ⟨_, rfl, y11, xd, d11, de, _, _, rfl, rfl, o11, oe, y11, xd, n, n, _, _, rfl, hS11, hS711, fun bb hbb => ⟨bb, rfl, ?_⟩⟩
        have ebb2 : bb = true := hbb.mpr ⟨rfl, rfl⟩
        rw [ebb2]
        exact k _ ((hD'.same (s7.trans s711)).mono (by omega)) (FH.trans (FrN.of (s7.trans s711))) (LamX.Tabs.ext hT' (s7.trans s711))
end
end G

end

/-! D19 -/
section
set_option maxHeartbeats 4000000
namespace G
open PySem L2 GK Si M
section
variable {P : Program} {w : World} {K : PySem.W.Frag} {mg : Str → Option Value} {base : Heap}
theorem sc49 : FnScope ["_law_draw", "_law_words_here", "_law_most", "_law_events_here", "_law_box", "_law_word", "_law_due", "_law_turn", "_law_event"] ["_law_draw", "_law_words_here", "_law_most"] (defScope (top 49)) := ⟨rfl, rfl, rfl, by decide +kernel, rfl, by decide +kernel, by decide +kernel⟩
def spLong : Sp := fun vs H Q _ => ∃ (d g c : Addr) (b : Nat) (aw : Addr) (ws : List Str) (n : Nat), vs = [.ref d, .ref aw, .int (n : Int)] ∧ Dr d g c b H ∧ b ≤ 800000 ∧ Wd H aw ws ∧ aw ≠ g ∧ n ≤ 6 ∧ ∀ H', Q (.bl true) H'
theorem ok_long {CK CM CS f : Addr} {fd : FuncData} (D : Df K mg "_law_long_right" (top 49) ["_law_draw", "_law_words_here", "_law_most"] f fd) (B : Bi mg) (Y : Kit P w K mg base CK CM CS) (N2 : Have P w K mg base 2 "_law_pick" ["_law_draw", "_law_some"] spPick) :
    FnOk P w K mg base CX0 9 f fd ["_law_draw", "_law_words_here", "_law_most"] spLong := by
  obtain ⟨f2, fd2, G2, m2, k2, b2⟩ := N2
  obtain ⟨f3, fd3, G3, M3, b3, m3⟩ := Y.mkr
  obtain ⟨f4, fd4, G4, M4, b4, m4⟩ := Y.mks
  obtain ⟨p5, f5, fd5, G5, M5, b5⟩ := Y.sum
  obtain ⟨f6, fd6, O6⟩ := Y.eq
  obtain ⟨f7, fd7, O7⟩ := Y.add
  obtain ⟨p8, f8, fd8, G8, M8, b8⟩ := Y.many
  obtain ⟨p9, f9, fd9, G9, M9, b9⟩ := Y.left
  obtain ⟨p10, f10, fd10, G10, M10, b10⟩ := Y.sleft
  obtain ⟨f11, fd11, G11, M11, b11⟩ := Y.came
  obtain ⟨f12, fd12, G12, M12, b12⟩ := Y.undo
  refine D.F.ok sc49 (fun vs H Q E h => ?_) (fun cdv A outer s H vs Q E hr h => ?_)
  · obtain ⟨d, g, c, b, aw, ws, n, rfl, _⟩ := h
    rfl
  · obtain ⟨d, g, c, b, aw, ws, n, rfl, hD, hb, hW, nwg, hn, k⟩ := h
    have hu64 : (A.deeper (PyProof.Rows.envOfC "_law_long_right" (defScope (top 49)) s.heap.objs.size f cdv)).units + 64 < cLine := (hr.mono (show 1 ≤ 8 by decide)).units
    have hr1 : Room 1 _ := hr.mono (by decide)
    have hr2 : Room 2 _ := hr.mono (by decide)
    have hr4 : Room 4 _ := hr.mono (by decide)
    have hr5 : Room 5 _ := hr.mono (by decide)
    have hr6 : Room 6 _ := hr.mono (by decide)
    have hr7 : Room 7 _ := hr.mono (by decide)
    refine ⟨_, pss_cons (ps_par (i := 3) (j := 4) rfl sc49.nd rfl rfl (by decide) rfl rfl (pa_cons (pe_lc (own := [("_law_event", 8)]) (g := gName 8) (tt := tYes) rfl sc49.nd (pi_range1 (by rfl) B.range (pa_cons pe_int pa_nil)) (blkOk_by (N := ["_law_draw", "_law_words_here", "_law_most", "_law_events_here", "_law_box", "_law_word", "_law_due", "_law_turn", "_law_event"]) (sc := defScope (top 49)) (by decide +kernel))
            (fun _ _ _ _ _ => pg_name (i := 8) sc49.nd rfl (.inl rfl)) (fun _ _ _ _ _ => pts_nil) (fun _ _ _ _ _ => pe_call G2 hr2 (by rfl) m2 k2 b2 .nil pass0 (pa_cons (pv 0) (pa_cons (pv 1) pa_nil))))
          (pa_cons (pe_make M3 G3 hr4 (by rfl) m3 b3 .nil pass0 (pa_cons (pv 2) pa_nil)) pa_nil)) (by rfl))
      (pss_cons (ps_for PassesOwn.never rfl (pi_list (pv 3)) (pg_name (i := 5) sc49.nd rfl (.inl rfl)) (pss_one (ps_expr (pe_meth (pv 4) Y.T.cl M11 G11 hr5 b11 .nil pass0 (pa_cons (pv 5) pa_nil)))))
      (pss_cons (ps_set (i := 6) sc49.nd rfl (.inl rfl) (pe_op (op_ownAdd O7.G hr7 O7.b O7.s O7.f Y.sf) (pe_make M4 G4 hr6 (by rfl) m4 b4 .nil pass0 (pa_cons (pv 2) (pa_cons (pe_slice sl_list (pv 3) po_none (po_some pe_int)) pa_nil)))
            (pe_make M4 G4 hr6 (by rfl) m4 b4 .nil pass0 (pa_cons (pv 2) (pa_cons (pe_slice sl_list (pv 3) (po_some pe_int) (po_some pe_int)) pa_nil)))))
      (pss_cons (ps_if (pw_or (pt_cmpR op_ne (pe_prop (pv 4) Y.T.cl M8 G8 hr2 b8 .nil pass0 rfl) pe_int (nomark _)) (pw_or1 (pt_cmpR (op_ownNe O6.G hr4 O6.b O6.s O6.f Y.ne Y.so) (pe_prop (pv 4) Y.T.cl M5 G5 hr b5 .nil pass0 rfl)
            (pe_op (op_ownAdd O7.G hr7 O7.b O7.s O7.f Y.sf) (pv 6) (pe_make M4 G4 hr6 (by rfl) m4 b4 .nil pass0 (pa_cons (pv 2) (pa_cons (pe_slice sl_list (pv 3) (po_some pe_int) po_none) pa_nil)))) (by rfl)))).pt (pss_one (ps_ret pe_bl)) pss_nil)
      (pss_cons (ps_for PassesOwn.never rfl (pi_range1 (by rfl) B.range (pa_cons pe_int pa_nil)) (pg_name (i := 7) sc49.nd rfl (.inl rfl)) (pss_one (ps_expr (pe_meth0 (pv 4) Y.T.cl M12 G12 hr1 b12 .nil pass0))))
      (pss_one (ps_ret (pe_and (pe_cmpR op_eq (pe_prop (pv 4) Y.T.cl M8 G8 hr2 b8 .nil pass0 rfl) pe_int (nomark _)) (pe_and (pe_cmpR (op_ownEq O6.G hr2 O6.b O6.s O6.f) (pe_prop (pv 4) Y.T.cl M5 G5 hr b5 .nil pass0 rfl) (pv 6) (by rfl))
        (pe_one (pe_cmpR (op_eqD hu64) (pe_prop (pv 4) Y.T.cl M9 G9 hr2 b9 .nil pass0 rfl) (pe_prop (pv 6) Y.TS.cl M10 G10 hr2 b10 .nil pass0 rfl) (by rfl))))))))))), ?_⟩
    have hwN : ∀ z ∈ ws, Nm z := hW.nm
    have few : ∀ l' : List Str, (∀ z ∈ l', z ∈ ws) → Few l' := fun l' h => ⟨ws, by have := hW.len; omega, h⟩
    have noK : ∀ (n m b : V) (x : Str), x = "came" ∨ x = "undo" → (kf n m b).lookup x = none := fun n m b x hx => by
      rcases hx with rfl | rfl
      · exact kf_no _ _ _ (by decide +kernel) (by decide +kernel) (by decide +kernel)
      · exact kf_no _ _ _ (by decide +kernel) (by decide +kernel) (by decide +kernel)
    have nw : aw ∉ [d, g] := by
      obtain ⟨kvs, _, _, _, _, h1, _⟩ := hD.ob
      have e1 : aw ≠ d := ne_of hW.at_ h1 (by intro z; cases z)
      simp [e1, nwg]
    -- the events
    refine ⟨250, rfl, by decide, by decide, fun C hC => ?_⟩
    have nC := hD.new hC
    have nC2 := hD.no hC
    refine lc_range (n := 250) (fun j H' => ∃ es : List Str, H' C = some (.lst (es.map V.str)) ∧ es.length = j ∧ (∀ z ∈ es, z ∈ ws) ∧ Dr d g c (b + j) H' ∧ Fr [d, g] H H')
      ⟨[], upd_same, rfl, by simp, hD.put nC, Fr.put (Fr.refl _ _) hC (Fr.refl _ _)⟩ (fun j H3 hj ⟨es, hC3, hel, hew, hD3, hF3⟩ => ?_) (fun H3 ⟨es, hC3, hel, hew, hD3, hF3⟩ => ?_)
    · refine ⟨rfl, yesI ⟨_, rfl, _, rfl, d, g, c, _, .ref aw, rfl, hD3, by omega, (hW.fr hF3 nw).pick nwg fun z H4 hz hD4 hF4 => ?_⟩⟩
      refine ⟨_, hF4 _ _ hC3 nC2, small1000 (by rw [List.length_map]; omega), es ++ [z], ?_, by simp [hel], fun y hy => ?_, (hD4.put nC).mono (by omega), Fr.put (Fr.refl _ _) hC (hF3.trans hF4)⟩
      · rw [upd_same, List.map_append]; rfl
      · rcases List.mem_append.mp hy with hy | hy
        · exact hew y hy
        · rw [List.mem_singleton.mp hy]; exact hz
    · refine ⟨_, rfl, fun p dx nx ndx _ => sp_mk hn nx ndx fun H4 s4 hk4 => ⟨rfl, _, _, rfl, ?_⟩⟩
      have hC4 := s4 _ _ hC3
      have nCp : C ∉ [p] := by
        obtain ⟨dxp, m, q1, _⟩ := hk4.ob
        have : C ≠ p := ne_of hC4 q1 (by intro z; cases z)
        simpa using this
      refine ⟨_, rfl, C, rfl, ⟨_, SqL.of hC4⟩, for_list (K := K) (a := C) (xs := es.map V.str) (fun i σ H' => ∃ v5 : Option V, σ = [some (.ref d), some (.ref aw), some (.int (n : Int)), some (.ref C), some (.ref p), v5, none, none, none] ∧ Kp CK CM H' p n (es.take i).reverse .non ∧ Fr [p] H4 H')
        ⟨none, rfl, hk4, Fr.refl _ _⟩ (fun i σ H' _ ⟨_, _, _, f⟩ => SqL.of (f _ _ hC4 nCp)) (fun i x σ H5 hi ⟨v5, e, hk5, f5⟩ => ?_) (fun σ H5 ⟨v5, e, hk5, f5⟩ => ?_)⟩
      · obtain ⟨hil, ex, et⟩ := map_get hi
        subst ex e
        obtain ⟨dx5, m5', q5, _⟩ := hk5.ob
        have hz := hew _ (List.getElem_mem hil)
        refine ⟨_, rfl, p, dx5, _, rfl, q5, noK _ _ _ _ (.inl rfl), _, rfl, p, n, _, .non, es[i], rfl, hk5, hwN _ hz, by simp; omega, few _ fun y hy => ?_, fun H6 hk6 f6 => ⟨_, rfl, ?_, f5.trans f6⟩⟩
        · rcases List.mem_cons.mp hy with rfl | hy
          · exact hz
          · exact hew y (List.take_subset _ _ (List.mem_reverse.mp hy))
        · rw [et, List.reverse_append]
          exact hk6
      · subst e
        rw [List.length_map, List.take_length] at hk5
        have hC5 := f5 _ _ hC4 nCp
        -- the due summary
        have lgOf : ∀ {H' : Hp} {a : Addr} {u : List Str}, H' a = some (.lst (u.map V.str)) → (∀ z ∈ u, z ∈ es) → u.length ≤ 250 → Lg H' a u := fun h1 h2 h3 => ⟨.inl h1, fun z hz => hwN z (hew z (h2 z hz)), by omega, few _ fun z hz => hew z (h2 z hz)⟩
        refine ⟨_, rfl, _, rfl, _, rfl, C, _, rfl, SqL.of hC5, fun q1 hq1 => ?_⟩
        have c1 : cutV (es.map V.str) none (some 120) = (es.take 120).map V.str := cut_to (e := 120) (by omega)
        rw [c1]
        have s6 := (Same.refl H5).one (o := .lst ((es.take 120).map V.str)) hq1
        have L6 := lgOf (H' := upd H5 q1 (.lst ((es.take 120).map V.str))) upd_same (fun z hz => List.take_subset _ _ hz) (by rw [List.length_take]; omega)
        intro xa dxa nxa nda _
        refine sp_ms hn L6 nxa nda fun H7 s7 hSa => ⟨rfl, ?_⟩
        have s57 := s6.trans s7
        refine ⟨_, rfl, _, rfl, _, rfl, _, rfl, C, _, rfl, SqL.of (s57 _ _ hC5), fun q2 hq2 => ?_⟩
        have c2 : cutV (es.map V.str) (some 120) (some 200) = ((es.drop 120).take (200 - 120)).map V.str := cut_nat (b := 120) (e := 200) (by decide) (by omega)
        rw [c2]
        have s8 := (Same.refl H7).one (o := .lst (((es.drop 120).take (200 - 120)).map V.str)) hq2
        have L8 := lgOf (H' := upd H7 q2 (.lst (((es.drop 120).take (200 - 120)).map V.str))) upd_same (fun z hz => List.drop_subset _ _ (List.take_subset _ _ hz)) (by rw [List.length_take, List.length_drop]; omega)
        intro xb dxb nxb ndb _
        refine sp_ms hn L8 nxb ndb fun H9 s9 hSb => ⟨rfl, ?_⟩
        have s79 := s8.trans s9
        have hSa9 := hSa.same s79
        obtain ⟨e1, t1, o1, _⟩ := hSa9.ob
        obtain ⟨e2, t2, o2, _⟩ := hSb.ob
        have lenA : (canS n (es.take 120)).length ≤ 120 := Nat.le_trans (canS_len _ _) (by rw [List.length_take]; omega)
        have lenB : (canS n ((es.drop 120).take (200 - 120))).length ≤ 80 := Nat.le_trans (canS_len _ _) (by rw [List.length_take, List.length_drop]; omega)
        refine ⟨xa, xb, e1, e2, _, _, rfl, rfl, o1, o2, xa, xb, n, _, _, rfl, hSa9, hSb, by omega, few _ fun z hz => ?_, fun H10 y10 s10 hS10 => ⟨y10, rfl, ?_⟩⟩
        · rcases List.mem_append.mp hz with h | h
          · exact hew z (List.take_subset _ _ (canS_mem h))
          · exact hew z (List.drop_subset _ _ (List.take_subset _ _ (canS_mem h)))
        have eAB : es.take 120 ++ (es.drop 120).take (200 - 120) = es.take 200 := by
          rw [show es.take 200 = (es.take 120 ++ (es.drop 120)).take 200 by rw [List.take_append_drop], List.take_append, List.length_take, Nat.min_eq_left (show 120 ≤ es.length by omega), List.take_of_length_le (show (es.take 120).length ≤ 200 by rw [List.length_take]; omega)]
        rw [canS_app, eAB] at hS10
        have s510 := (s57.trans s79).trans s10
        have hk10 := hk5.same s510
        obtain ⟨dp, mp, o10, _⟩ := hk10.ob
        refine ⟨_, rfl, p, dp, _, rfl, o10, p, n, _, .non, rfl, hk10, rfl, _, rfl, iteNS (by rw [List.length_reverse, hel]; rfl) ?_⟩
        refine ⟨_, rfl, p, dp, _, rfl, o10, p, n, _, .non, rfl, hk10, fun H11 x11 s11 hS11 => ?_⟩
        rw [List.reverse_reverse] at hS11
        refine ⟨_, rfl, _, rfl, _, rfl, _, rfl, C, _, rfl, SqL.of (s11 _ _ (s510 _ _ hC5)), fun q3 hq3 => ?_⟩
        have c3 : cutV (es.map V.str) (some 200) none = (es.drop 200).map V.str := cut_from (b := 200) (by omega)
        rw [c3]
        have s12 := (Same.refl H11).one (o := .lst ((es.drop 200).map V.str)) hq3
        have L12 := lgOf (H' := upd H11 q3 (.lst ((es.drop 200).map V.str))) upd_same (fun z hz => List.drop_subset _ _ hz) (by rw [List.length_drop]; omega)
        intro xc dxc nxc ndc _
        refine sp_ms hn L12 nxc ndc fun H13 s13 hSc => ⟨rfl, ?_⟩
        have s1113 := s12.trans s13
        have hS13 := hS10.same (s11.trans s1113)
        obtain ⟨e3, t3, o3, _⟩ := hS13.ob
        obtain ⟨e4, t4, o4, _⟩ := hSc.ob
        have lenC : (canS n (es.take 200)).length ≤ 200 := Nat.le_trans (canS_len _ _) (by rw [List.length_take]; omega)
        have lenD : (canS n (es.drop 200)).length ≤ 50 := Nat.le_trans (canS_len _ _) (by rw [List.length_drop]; omega)
        refine ⟨y10, xc, e3, e4, _, _, rfl, rfl, o3, o4, y10, xc, n, _, _, rfl, hS13, hSc, by omega, few _ fun z hz => ?_, fun H14 y14 s14 hS14 => ⟨y14, rfl, ?_⟩⟩
        · rcases List.mem_append.mp hz with h | h
          · exact hew z (List.take_subset _ _ (canS_mem h))
          · exact hew z (List.drop_subset _ _ (canS_mem h))
        rw [canS_app, List.take_append_drop] at hS14
        have hS11' := hS11.same (s1113.trans s14)
        obtain ⟨e5, t5, o5, _⟩ := hS11'.ob
        obtain ⟨e6, t6, o6, _⟩ := hS14.ob
        refine ⟨x11, y14, e5, e6, _, _, rfl, rfl, o5, o6, x11, y14, n, n, _, _, rfl, hS11', hS14, fun bb hbb => ⟨bb, rfl, _, rfl, ?_⟩⟩
        have ebb : bb = true := hbb.mpr ⟨rfl, rfl⟩
        rw [ebb]
        refine iteF ?_
        have s1014 := ((s11.trans s1113).trans s14)
        have hk14 := hk10.same s1014
        have hS14' := hS10.same s1014
        -- fifty events are taken back
        refine ⟨50, rfl, by decide, by decide, for_range (n := 50) (fun i σ H' => ∃ v7 : Option V, σ = [some (.ref d), some (.ref aw), some (.int (n : Int)), some (.ref C), some (.ref p), v5, some (.ref y10), v7, none] ∧ Kp CK CM H' p n (es.take (250 - i)).reverse .non ∧ Sm CS H' y10 n (canS n (es.take 200)))
          ⟨none, rfl, by rw [Nat.sub_zero, List.take_of_length_le (by omega)]; exact hk14, hS14'⟩ (fun i σ H15 hi ⟨v7, e, hk15, hS15⟩ => ?_) (fun σ H15 ⟨v7, e, hk15, hS15⟩ => ?_)⟩
        · subst e
          obtain ⟨j, ej⟩ : ∃ j : Nat, 250 - i = j + 1 := ⟨250 - i - 1, by omega⟩
          have hj : j < es.length := by omega
          have tk : es.take (j + 1) = es.take j ++ [es[j]] := by rw [List.take_succ, List.getElem?_eq_getElem hj]; rfl
          rw [ej, tk, List.reverse_append] at hk15
          have hk15' : Kp CK CM H15 p n (es[j] :: (es.take j).reverse) .non := hk15
          obtain ⟨dp, mp, o15, _⟩ := hk15'.ob
          refine ⟨_, rfl, p, dp, _, rfl, o15, noK _ _ _ _ (.inr rfl), p, n, _, .non, _, rfl, hk15', fun H16 hk16 f16 => ⟨_, rfl, by rw [show 250 - (i + 1) = j by omega]; exact hk16, hS15.frN f16.n fun s' hs => ?_⟩⟩
          rw [List.mem_singleton.mp hs]
          exact hk15'.off
        · subst e
          have hk15' : Kp CK CM H15 p n (es.take 200).reverse .non := hk15
          obtain ⟨dp, mp, o15, _⟩ := hk15'.ob
          have el : (es.take 200).length = 200 := by rw [List.length_take]; omega
          have d1 : decide (V.int (((es.take 200).reverse.length : Nat) : Int) = V.int 200) = true := decide_eq_true (by rw [List.length_reverse, el]; rfl)
          refine ⟨_, rfl, p, dp, _, rfl, o15, p, n, _, .non, rfl, hk15', rfl, _, rfl, ?_⟩
          rw [d1]
          refine iteT ?_
          refine ⟨_, rfl, p, dp, _, rfl, o15, p, n, _, .non, rfl, hk15', fun H17 x17 s17 hS17 => ?_⟩
          rw [List.reverse_reverse] at hS17
          have hS15' := hS15.same s17
          obtain ⟨e7, t7, o7, _⟩ := hS17.ob
          obtain ⟨e8, t8, o8, w8⟩ := hS15'.ob
          refine ⟨_, rfl, x17, y10, e7, e8, _, _, rfl, rfl, o7, o8, x17, y10, n, n, _, _, rfl, hS17, hS15', fun bb hbb => ⟨bb, rfl, bb, rfl, ?_⟩⟩
          have ebb : bb = true := hbb.mpr ⟨rfl, rfl⟩
          rw [ebb]
          refine iteT ?_
          have hk17 := hk15'.same s17
          obtain ⟨dq, mq, o17, _⟩ := hk17.ob
          refine ⟨_, rfl, p, dq, _, rfl, o17, p, n, _, .non, rfl, hk17, fun t ht => ?_⟩
          rw [List.reverse_reverse] at ht
          refine ⟨_, rfl, y10, e8, _, rfl, o8, y10, e8, _, _, rfl, o8, sf_left _ _, _, _, dp_tup ht, dp_tup w8, shaped_strs hS17.nm, shaped_strs hS15'.nm, ?_⟩
          rw [eqv_tups, decide_eq_true rfl]
          exact k _
end
end G

end

/-! D20 -/
section
set_option maxHeartbeats 4000000
namespace G
open PySem L2 GK Si M
abbrev lawSt (a d : Addr) (i n : Nat) (aw ae p p2 : Addr) (v8 v9 v10 : Option V) : L2.St := [some (.ref a), some (.ref d), some (.int (0 + ((i : Nat) : Int))), some (.int (n : Int)), some (.ref aw), some (.ref ae), some (.ref p), some (.ref p2), v8, v9, v10]
theorem offs {CK CM d g c p : Addr} {b n : Nat} {es : List Str} {blk : V} {H : Hp} (h : Dr d g c b H) (k : Kp CK CM H p n es blk) : ∀ s ∈ [d, g, p], Off H s := fun s hs => by
  rcases List.mem_cons.mp hs with e | hs
  · exact h.off s (by rw [e]; simp)
  · rcases List.mem_cons.mp hs with e | hs
    · exact h.off s (by rw [e]; simp)
    · rw [List.mem_singleton.mp hs]; exact k.off
theorem Kp.fed2 {CK CM d g c p p2 : Addr} {b n n2 : Nat} {es es2 : List Str} {blk blk2 : V} {H H' : Hp} (h2 : Kp CK CM H p2 n2 es2 blk2) (hd : Dr d g c b H) (hk : Kp CK CM H p n es blk) (fs : FrN [d, g, p] H H') (ne : p2 ≠ p) : Kp CK CM H' p2 n2 es2 blk2 := by
  obtain ⟨q1, q2, q3⟩ := hd.kp h2
  exact h2.frN fs (offs hd hk) (by simp [q1, q2, ne])
theorem dg_out {d g c a : Addr} {b : Nat} {H : Hp} {xs : List V} (h : Dr d g c b H) (ha : H a = some (.lst xs)) (n : a ≠ g) : a ∉ [d, g] := by
  obtain ⟨kvs, _, _, _, _, h1, _⟩ := h.ob
  have e1 : a ≠ d := ne_of ha h1 (by intro z; cases z)
  simp [e1, n]
section
variable {P : Program} {w : World} {K : PySem.W.Frag} {mg : Str → Option Value} {base : Heap}
def nLaw : List Str := ["_law_script", "_law_draw", "_law_turn", "_law_most", "_law_words_here", "_law_events_here", "_law_box", "_law_fewer", "_law_mate", "_law_word", "_law_size"]
theorem sc50 : FnScope nLaw ["_law_script"] (defScope (top 50)) := ⟨rfl, rfl, rfl, by decide +kernel, rfl, by decide +kernel, by decide +kernel⟩
def spLaw (K : PySem.W.Frag) (T : List (Addr × Str)) : Sp := fun vs H Q _ => ∃ (a : Addr) (ns : List Int), vs = [.ref a] ∧ SqL K H a (ns.map V.int) ∧ ns.length ≤ 63 ∧ LamX.Tabs T H ∧ ∀ H', Q (.bl true) H'
theorem ok_law {CK CM CS f : Addr} {fd : FuncData} {TT : List (Addr × Str)} (D : Df K mg "law" (top 50) ["_law_script"] f fd) (B : Bi mg) (Y : Kit P w K mg base CK CM CS)
    (Nb : Have P w K mg base 1 "_law_begun" ["_law_script"] (spBegun K)) (Nt : Have P w K mg base 1 "_law_take" ["_law_draw", "_law_size"] spTake) (Np : Have P w K mg base 2 "_law_pick" ["_law_draw", "_law_some"] spPick)
    (Nw : Have P w K mg base 3 "_law_words" ["_law_draw", "_law_size"] spWords) (Ne : Have P w K mg base 3 "_law_events" ["_law_draw", "_law_words_here", "_law_most"] spEvents)
    (Nf : Have P w K mg base 15 "_law_fed" ["_law_draw", "_law_words_here", "_law_box", "_law_events_here"] (spFed CK CM TT)) (Nc : Have P w K mg base 5 "canonical" ["log", "k"] spCanonical)
    (Nq : Have P w K mg base 16 "_law_pieces_right" ["_law_draw", "_law_words_here", "_law_events_here", "_law_most"] (spPieces TT)) (Nr : Have P w K mg base 9 "_law_rows_right" ["_law_draw", "_law_words_here", "_law_box", "_law_events_here"] (spRows CK CM))
    (Nl : Have P w K mg base 9 "_law_long_right" ["_law_draw", "_law_words_here", "_law_most"] spLong) :
    FnOk P w K mg base CX0 17 f fd ["_law_script"] (spLaw K TT) := by
  obtain ⟨fb, fdb, Gb, mb, kb, bb⟩ := Nb
  obtain ⟨ft, fdt, Gt, mt, kt, bt⟩ := Nt
  obtain ⟨fp, fdp, Gp, mp, kp, bp⟩ := Np
  obtain ⟨fw, fdw, Gw, mw, kw, bw⟩ := Nw
  obtain ⟨fe, fde, Ge, me, ke, be⟩ := Ne
  obtain ⟨ff, fdf, Gf, mf', kf', bf'⟩ := Nf
  obtain ⟨fc, fdc, Gc, mc, kc, bc⟩ := Nc
  obtain ⟨fq, fdq, Gq, mq, kq, bq⟩ := Nq
  obtain ⟨fr, fdr, Gr, mr, kr, br⟩ := Nr
  obtain ⟨fl, fdl, Gl', ml, kl, bl⟩ := Nl
  obtain ⟨f3, fd3, G3, M3, b3, m3⟩ := Y.mkr
  obtain ⟨f4, fd4, G4, M4, b4, m4⟩ := Y.mks
  obtain ⟨p5, f5, fd5, G5, M5, b5⟩ := Y.sum
  obtain ⟨f6, fd6, O6⟩ := Y.eq
  obtain ⟨p8, f8, fd8, G8, M8, b8⟩ := Y.many
  obtain ⟨p9, f9, fd9, G9, M9, b9⟩ := Y.left
  obtain ⟨p10, f10, fd10, G10, M10, b10⟩ := Y.k
  obtain ⟨f11, fd11, G11, M11, b11⟩ := Y.came
  obtain ⟨f12, fd12, G12, M12, b12⟩ := Y.undo
  obtain ⟨f13, fd13, G13, M13, b13⟩ := Y.down
  refine D.F.ok sc50 (fun vs H Q E h => ?_) (fun cdv A outer s H vs Q E hr h => ?_)
  · obtain ⟨a, ns, rfl, _⟩ := h
    rfl
  · obtain ⟨a, ns, rfl, hS, hns, hT, k⟩ := h
    have hu64 : (A.deeper (PyProof.Rows.envOfC "law" (defScope (top 50)) s.heap.objs.size f cdv)).units + 64 < cLine := (hr.mono (show 1 ≤ 16 by decide)).units
    have hr1 : Room 1 _ := hr.mono (by decide)
    have hr2 : Room 2 _ := hr.mono (by decide)
    have hr3 : Room 3 _ := hr.mono (by decide)
    have hr4 : Room 4 _ := hr.mono (by decide)
    have hr5 : Room 5 _ := hr.mono (by decide)
    have hr6 : Room 6 _ := hr.mono (by decide)
    have hr7 : Room 7 _ := hr.mono (by decide)
    have hr8 : Room 8 _ := hr.mono (by decide)
    have hr9 : Room 9 _ := hr.mono (by decide)
    have hr15 : Room 15 _ := hr.mono (by decide)
    refine ⟨_, pss_cons (ps_set (i := 1) sc50.nd rfl (.inl rfl) (pe_call Gb hr1 (by rfl) mb kb bb .nil pass0 (pa_cons (pv 0) pa_nil)))
      (pss_cons (ps_for PassesOwn.never rfl (pi_range1 (by rfl) B.range (pa_cons pe_int pa_nil)) (pg_name (i := 2) sc50.nd rfl (.inl rfl))
        (pss_cons (ps_par (i := 3) (j := 4) rfl sc50.nd rfl rfl (by decide) rfl rfl (pa_cons (pe_call Gt hr1 (by rfl) mt kt bt .nil pass0 (pa_cons (pv 1) (pa_cons pe_int pa_nil)))
            (pa_cons (pe_call Gw hr3 (by rfl) mw kw bw .nil pass0 (pa_cons (pv 1) (pa_cons (pe_op op_add pe_int (pe_call Gt hr1 (by rfl) mt kt bt .nil pass0 (pa_cons (pv 1) (pa_cons pe_int pa_nil)))) pa_nil))) pa_nil)) (by rfl))
        (pss_cons (ps_set (i := 5) sc50.nd rfl (.inl rfl) (pe_call Ge hr3 (by rfl) me ke be .nil pass0 (pa_cons (pv 1) (pa_cons (pv 4) (pa_cons (pe_call Gp hr2 (by rfl) mp kp bp .nil pass0 (pa_cons (pv 1) (pa_cons (pe_lst (pa_cons pe_int (pa_cons pe_int (pa_cons pe_int pa_nil)))) pa_nil))) pa_nil)))))
        (pss_cons (ps_par (i := 6) (j := 7) rfl sc50.nd rfl rfl (by decide) rfl rfl (pa_cons (pe_make M3 G3 hr4 (by rfl) m3 b3 .nil pass0 (pa_cons (pv 3) pa_nil))
            (pa_cons (pe_make M3 G3 hr4 (by rfl) m3 b3 .nil pass0 (pa_cons (pe_call Gt hr1 (by rfl) mt kt bt .nil pass0 (pa_cons (pv 1) (pa_cons (pe_op op_add (pv 3) pe_int) pa_nil))) pa_nil)) pa_nil)) (by rfl))
        (pss_cons (ps_expr (pe_call Gf hr15 (by rfl) mf' kf' bf' .nil pass0 (pa_cons (pv 1) (pa_cons (pv 4) (pa_cons (pv 6) (pa_cons (pv 5) pa_nil))))))
        (pss_cons (ps_expr (pe_call Gf hr15 (by rfl) mf' kf' bf' .nil pass0 (pa_cons (pv 1) (pa_cons (pv 4) (pa_cons (pv 7) (pa_cons (pv 5) pa_nil))))))
        (pss_cons (ps_if (pw_or (pt_cmpR op_ne (pe_prop (pv 6) Y.T.cl M8 G8 hr2 b8 .nil pass0 rfl) (pe_callB call_len_seq (by rfl) B.len PySem.boot_len (pa_cons (pv 5) pa_nil)) (by rfl))
            (pw_or (pt_cmpR (op_neD hu64) (pe_prop (pv 6) Y.T.cl M9 G9 hr2 b9 .nil pass0 rfl) (pe_call Gc hr5 (by rfl) mc kc bc .nil pass0 (pa_cons (pv 5) (pa_cons (pv 3) pa_nil))) (by rfl))
            (pw_or1 (pt_cmpR (op_ownNe O6.G hr4 O6.b O6.s O6.f Y.ne Y.so) (pe_prop (pv 6) Y.T.cl M5 G5 hr8 b5 .nil pass0 rfl) (pe_make M4 G4 hr6 (by rfl) m4 b4 .nil pass0 (pa_cons (pv 3) (pa_cons (pv 5) pa_nil))) (by rfl))))).pt (pss_one (ps_ret pe_bl)) pss_nil)
        (pss_cons (ps_if (pw_or (pt_cmpR (op_ownNe O6.G hr4 O6.b O6.s O6.f Y.ne Y.so) (pe_prop (pv 7) Y.T.cl M5 G5 hr8 b5 .nil pass0 rfl) (pe_meth (pe_prop (pv 6) Y.T.cl M5 G5 hr8 b5 .nil pass0 rfl) Y.TS.cl M13 G13 hr7 b13 .nil pass0 (pa_cons (pe_prop (pv 7) Y.T.cl M10 G10 hr2 b10 .nil pass0 rfl) pa_nil)) (by rfl))
            (pw_or1 (pt_not (pt_val (pe_call Gq hr (by rfl) mq kq bq .nil pass0 (pa_cons (pv 1) (pa_cons (pv 4) (pa_cons (pv 5) (pa_cons (pv 3) pa_nil))))))))).pt (pss_one (ps_ret pe_bl)) pss_nil)
        (pss_cons (ps_if (pt_not (pt_val (pe_call Gr hr9 (by rfl) mr kr br .nil pass0 (pa_cons (pv 1) (pa_cons (pv 4) (pa_cons (pv 6) (pa_cons (pv 5) pa_nil))))))) (pss_one (ps_ret pe_bl)) pss_nil)
        (pss_cons (ps_set (i := 8) sc50.nd rfl (.inl rfl) (pe_make M3 G3 hr4 (by rfl) m3 b3 .nil pass0 (pa_cons (pv 3) pa_nil)))
        (pss_cons (ps_for PassesOwn.never rfl (pi_tup (pe_prop (pv 6) Y.T.cl M9 G9 hr2 b9 .nil pass0 rfl)) (pg_name (i := 9) sc50.nd rfl (.inl rfl)) (pss_one (ps_expr (pe_meth (pv 8) Y.T.cl M11 G11 hr5 b11 .nil pass0 (pa_cons (pv 9) pa_nil)))))
        (pss_cons (ps_if (pw_or (pt_cmpR (op_neD hu64) (pe_prop (pv 8) Y.T.cl M9 G9 hr2 b9 .nil pass0 rfl) (pe_prop (pv 6) Y.T.cl M9 G9 hr2 b9 .nil pass0 rfl) (by rfl))
            (pw_or1 (pt_cmpR op_ne (pe_prop (pv 8) Y.T.cl M8 G8 hr2 b8 .nil pass0 rfl) (pe_callB call_len_seq (by rfl) B.len PySem.boot_len (pa_cons (pe_prop (pv 6) Y.T.cl M9 G9 hr2 b9 .nil pass0 rfl) pa_nil)) (by rfl)))).pt (pss_one (ps_ret pe_bl)) pss_nil)
        (pss_one (ps_for PassesOwn.never rfl (pi_range3 (by rfl) B.range (pa_cons (pe_op op_sub (pe_callB call_len_seq (by rfl) B.len PySem.boot_len (pa_cons (pv 5) pa_nil)) pe_int) (pa_cons (pe_callB (call_max2 rfl) (by rfl) B.max (by decide +kernel) (pa_cons (pe_un un_neg pe_int) (pa_cons (pe_op op_sub (pe_callB call_len_seq (by rfl) B.len PySem.boot_len (pa_cons (pv 5) pa_nil)) pe_int) pa_nil))) (pa_cons (pe_un un_neg pe_int) pa_nil)))) (pg_name (i := 10) sc50.nd rfl (.inl rfl))
          (pss_cons (ps_expr (pe_meth0 (pv 6) Y.T.cl M12 G12 hr1 b12 .nil pass0))
          (pss_one (ps_if (pw_or (pt_cmpR (op_neD hu64) (pe_prop (pv 6) Y.T.cl M9 G9 hr2 b9 .nil pass0 rfl) (pe_call Gc hr5 (by rfl) mc kc bc .nil pass0 (pa_cons (pe_slice sl_list (pv 5) po_none (po_some (pv 10))) (pa_cons (pv 3) pa_nil))) (by rfl))
            (pw_or1 (pt_cmpR op_ne (pe_prop (pv 6) Y.T.cl M8 G8 hr2 b8 .nil pass0 rfl) (pv 10) (by rfl)))).pt (pss_one (ps_ret pe_bl)) pss_nil)))))))))))))))))
      (pss_one (ps_ret (pe_or (pe_cmpR op_gt (pe_call Gt hr1 (by rfl) mt kt bt .nil pass0 (pa_cons (pv 1) (pa_cons pe_int pa_nil))) pe_int (by rfl)) (pe_one (pe_call Gl' hr9 (by rfl) ml kl bl .nil pass0 (pa_cons (pv 1) (pa_cons (pe_slice sl_list (pv 4) po_none (po_some pe_int)) (pa_cons (pe_callB (call_min2 rfl) (by rfl) B.min (by decide +kernel) (pa_cons (pv 3) (pa_cons pe_int pa_nil))) pa_nil))))))))), ?_⟩
    have noK : ∀ (n m b : V) (x : Str), x = "came" ∨ x = "undo" → (kf n m b).lookup x = none := fun n m b x hx => by
      rcases hx with rfl | rfl
      · exact kf_no _ _ _ (by decide +kernel) (by decide +kernel) (by decide +kernel)
      · exact kf_no _ _ _ (by decide +kernel) (by decide +kernel) (by decide +kernel)
    refine ⟨_, rfl, a, ns, rfl, hS, hns, fun H0 d g c s0 hd0 hg0 hD0 => ?_⟩
    have hT0 : LamX.Tabs TT H0 := LamX.Tabs.ext hT s0
    refine ⟨2, rfl, by decide, by decide, for_range (n := 2) (fun i σ H' => ∃ v2 v3 v4 v5 v6 v7 v8 v9 v10 : Option V, σ = [some (.ref a), some (.ref d), v2, v3, v4, v5, v6, v7, v8, v9, v10] ∧ Dr d g c (10000 * i) H' ∧ LamX.Tabs TT H' ∧ (1 ≤ i → ∃ (n : Nat) (aw : Addr) (ws : List Str), v3 = some (.int (n : Int)) ∧ n ≤ 6 ∧ v4 = some (.ref aw) ∧ Wd H' aw ws ∧ aw ≠ g))
      ⟨none, none, none, none, none, none, none, none, none, rfl, hD0, hT0, fun h => absurd h (by decide)⟩ (fun i σ H1 hi ⟨v2, v3, v4, v5, v6, v7, v8, v9, v10, e, hD1, hT1, _⟩ => ?_) (fun σ H1 ⟨v2, v3, v4, v5, v6, v7, v8, v9, v10, e, hD1, hT1, hlast⟩ => ?_)⟩
    · subst e
      -- most, words
      refine ⟨_, rfl, d, g, c, _, 7, rfl, hD1, by omega, by decide, by decide, fun n H2 hn hD2 hF2 => ?_⟩
      have hn6 : n ≤ 6 := by omega
      have hT2 := tabs_fr hT1 hF2 hD1.notab
      refine ⟨_, rfl, _, rfl, d, g, c, _, 5, rfl, hD2, by omega, by decide, by decide, fun r5 H3 hr5' hD3 hF3 => ⟨_, _, rfl, rfl, ?_⟩⟩
      have hT3 := tabs_fr hT2 hF3 hD2.notab
      refine ⟨d, g, c, _, 1 + r5, by rw [Int.natCast_add]; rfl, hD3, by omega, by omega, by omega, fun aw ws H4 hwl hwN haw hw4 hD4 hF4 => ⟨_, _, rfl, ?_⟩⟩
      have hT4 := tabs_fr hT3 hF4 hD3.notab
      have hW4 : Wd H4 aw ws := ⟨hw4, hwN, by omega, fun e => by rw [e] at hwl; simp at hwl; omega⟩
      have nwg : aw ≠ g := (hD3.new haw).2.1
      have few : ∀ l' : List Str, (∀ z ∈ l', z ∈ ws) → Few l' := fun l' h => ⟨ws, by omega, h⟩
      -- events
      refine ⟨_, rfl, _, rfl, _, rfl, (by show 3 ≤ sizeLine; decide), fun q hq => ?_⟩
      have sq : Same H4 (upd H4 q (.lst [.int 5, .int 30, .int 120])) := Same.put (Same.refl _) hq
      refine ⟨d, g, c, _, .ref q, rfl, hD4.same sq, by omega, .inl ⟨q, _, rfl, upd_same, (hD4.new hq).2.1, by simp, (by show 3 ≤ 1000; decide), fun v H5 hv hD5 hF5 => ?_⟩⟩
      obtain ⟨mm, ev, hmm⟩ : ∃ mm : Nat, v = .int (mm : Int) ∧ mm ≤ 120 := by
        simp at hv
        rcases hv with h | h | h
        · exact ⟨5, h, by decide⟩
        · exact ⟨30, h, by decide⟩
        · exact ⟨120, h, by decide⟩
      subst ev
      have hT5 := tabs_fr (LamX.Tabs.ext hT4 sq) hF5 (hD4.same sq).notab
      have nw4 := dg_out hD4 hw4 nwg
      have F45 : Fr [d, g] H4 H5 := (Fr.of sq).trans hF5
      have hW5 := hW4.fr F45 nw4
      refine ⟨d, g, c, _, aw, ws, mm, rfl, hD5, by omega, hW5, nwg, hmm, fun ae l H6 hll hlw hae he6 hD6 hF6 => ?_⟩
      have hT6 := tabs_fr hT5 hF6 hD5.notab
      have hW6 := hW5.fr hF6 nw4
      have neg : ae ≠ g := (hD5.new hae).2.1
      have hD6' : Dr d g c (10000 * i + 1500) H6 := hD6.mono (by omega)
      -- keepers
      refine ⟨_, rfl, fun p dx nx ndx _ => sp_mk hn6 nx ndx fun H7 s7 hk7 => ⟨rfl, ?_⟩⟩
      have hD7 := hD6'.same s7
      refine ⟨_, rfl, _, rfl, _, _, rfl, rfl, d, g, c, _, n + 1, rfl, hD7, by omega, by omega, by omega, fun j H8 hj hD8 hF8 => ?_⟩
      obtain ⟨np1, np2, np3⟩ := hD7.kp hk7
      have hk8 : Kp CK CM H8 p n [] .non := hk7.fr hF8 hD7.off (by simp [np1, np2])
      have hT8 := tabs_fr (LamX.Tabs.ext hT6 s7) hF8 hD7.notab
      have ne6 := dg_out hD6 he6 neg
      have nw6 := dg_out hD6 hW6.at_ nwg
      have he8 := hF8 _ _ (s7 _ _ he6) ne6
      have hW8 : Wd H8 aw ws := ⟨hF8 _ _ (s7 _ _ hW6.at_) nw6, hW6.nm, hW6.len, hW6.pos⟩
      intro p2 dx2 nx2 ndx2 _
      refine sp_mk (show j ≤ 6 by omega) nx2 ndx2 fun H9 s9 hk2 => ⟨rfl, _, _, rfl, ?_⟩
      have hk9 := hk8.same s9
      have hD9 := hD8.same s9
      have he9 := s9 _ _ he8
      have hW9 : Wd H9 aw ws := ⟨s9 _ _ hW8.at_, hW8.nm, hW8.len, hW8.pos⟩
      have hT9 := LamX.Tabs.ext hT8 s9
      have np2p : p2 ≠ p := fun e => by
        obtain ⟨dxx, mx, ox, _⟩ := hk8.ob
        rw [e, ox] at nx2
        cases nx2
      have hlN : ∀ z ∈ l, Nm z := fun z hz => hwN z (hlw z hz)
      -- the events come
      refine ⟨_, rfl, _, rfl, _, rfl, _, rfl, d, g, c, _, aw, ws, p, n, [], .non, ae, l, rfl, ⟨hk9, hD9, FrN.refl _ _, hT9⟩, by omega, hW9, nwg, he9, neg, hlw, by simp, by simp; omega, fun H10 fs10 => ?_⟩
      have hk10 : Kp CK CM H10 p n l.reverse .non := by have := fs10.kp; rwa [List.append_nil] at this
      have h2_10 := hk2.fed2 hD9 hk9 fs10.fr np2p
      have hD10 := fs10.dr
      have ne10 := lst_out hD9 hk9 he9 neg
      have nw10 := lst_out hD9 hk9 hW9.at_ nwg
      have he10 := fs10.fr _ _ he9 (fun _ z => by cases z) ne10
      have hW10 := hW9.frN fs10.fr nw10
      refine ⟨_, rfl, _, rfl, _, rfl, _, rfl, d, g, c, _, aw, ws, p2, j, [], .non, ae, l, rfl, ⟨h2_10, hD10, FrN.refl _ _, fs10.tb⟩, by omega, hW10, nwg, he10, neg, hlw, by simp, by simp; omega, fun H11 fs11 => ?_⟩
      have h2_11 : Kp CK CM H11 p2 j l.reverse .non := by have := fs11.kp; rwa [List.append_nil] at this
      have hk11 := hk10.fed2 hD10 h2_10 fs11.fr np2p.symm
      have hD11 := fs11.dr
      have hT11 := fs11.tb
      have he11 := fs11.fr _ _ he10 (fun _ z => by cases z) (lst_out hD10 h2_10 he10 neg)
      have hW11 := hW10.frN fs11.fr (lst_out hD10 h2_10 hW10.at_ nwg)
      have lgl : ∀ {H' : Hp}, H' ae = some (.lst (l.map V.str)) → Lg H' ae l := fun h => ⟨.inl h, hlN, by omega, few l hlw⟩
      have hD11' : Dr d g c (10000 * i + 2200) H11 := hD11.mono (by omega)
      -- box against the log
      dsimp only
      refine cutIf (fun σ' H' => σ' = lawSt a d i n aw ae p p2 v8 v9 v10 ∧ Same H11 H') (fun N hN => ?_) (fun σ12 H12 ⟨e, s12⟩ => ?_)
      · obtain ⟨dp, mp', op, _⟩ := hk11.ob
        refine ⟨_, rfl, p, dp, _, rfl, op, p, n, _, .non, rfl, hk11, _, rfl, ae, _, rfl, .inl (SqL.of he11), rfl, _, rfl, iteNS (by rw [List.length_map, List.length_reverse]) ?_⟩
        refine ⟨_, rfl, p, dp, _, rfl, op, p, n, _, .non, rfl, hk11, fun t ht => ?_⟩
        rw [List.reverse_reverse] at ht
        refine ⟨_, rfl, _, rfl, ae, l, n, rfl, lgl he11, hn6, fun H13 t2 s13 ht2 => ?_⟩
        have cN : ∀ z ∈ canS n l, Nm z := fun z hz => hlN z (canS_mem hz)
        refine ⟨_, _, dp_tup (s13 _ _ ht), dp_tup ht2, shaped_strs cN, shaped_strs cN, _, rfl, ?_⟩
        rw [eqv_tups, decide_eq_true rfl]
        refine iteF ?_
        have hk13 := hk11.same s13
        obtain ⟨dp3, mp3, op3, _⟩ := hk13.ob
        refine ⟨_, rfl, p, dp3, _, rfl, op3, p, n, _, .non, rfl, hk13, fun H14 x14 s14 hS14 => ?_⟩
        rw [List.reverse_reverse] at hS14
        refine ⟨_, rfl, _, rfl, fun x15 dx15 nx15 nd15 _ => sp_ms hn6 (lgl (s14 _ _ (s13 _ _ he11))) nx15 nd15 fun H15 s15 hS15 => ⟨rfl, ?_⟩⟩
        have hS14' := hS14.same s15
        obtain ⟨e5, t5, o5, _⟩ := hS14'.ob
        obtain ⟨e6, t6, o6, _⟩ := hS15.ob
        refine ⟨x14, x15, e5, e6, _, _, rfl, rfl, o5, o6, x14, x15, n, n, _, _, rfl, hS14', hS15, fun bb hbb => ⟨bb, rfl, _, rfl, ?_⟩⟩
        have ebb : bb = true := hbb.mpr ⟨rfl, rfl⟩
        rw [ebb]
        exact iteF (hN _ _ ⟨rfl, (s13.trans s14).trans s15⟩)
      subst e
      have hk12 := hk11.same s12
      have h2_12 := h2_11.same s12
      have hD12 := hD11'.same s12
      have hT12 := LamX.Tabs.ext hT11 s12
      have he12 := s12 _ _ he11
      have hW12 : Wd H12 aw ws := ⟨s12 _ _ hW11.at_, hW11.nm, hW11.len, hW11.pos⟩
      -- fewer, and the pieces
      refine cutIf (fun σ' H' => σ' = lawSt a d i n aw ae p p2 v8 v9 v10 ∧ FrN [d, g] H12 H' ∧ Dr d g c (10000 * i + 4200) H' ∧ LamX.Tabs TT H') (fun N hN => ?_) (fun σ16 H16 ⟨e, f16, hD16, hT16⟩ => ?_)
      · obtain ⟨d2, mp2, o2, _⟩ := h2_12.ob
        refine ⟨_, rfl, p2, d2, _, rfl, o2, p2, j, _, .non, rfl, h2_12, fun H13 x13 s13 hS13 => ?_⟩
        rw [List.reverse_reverse] at hS13
        have hk13 := hk12.same s13
        obtain ⟨dp3, mp3, op3, _⟩ := hk13.ob
        refine ⟨_, rfl, p, dp3, _, rfl, op3, p, n, _, .non, rfl, hk13, fun H14 x14 s14 hS14 => ?_⟩
        rw [List.reverse_reverse] at hS14
        obtain ⟨e5, t5, o5, _⟩ := hS14.ob
        have h2_14 := (h2_12.same s13).same s14
        obtain ⟨d3, mp4, o3, _⟩ := h2_14.ob
        refine ⟨x14, e5, _, rfl, o5, sf_no _ _ (by decide +kernel) (by decide +kernel), _, rfl, p2, d3, _, rfl, o3, p2, d3, _, _, rfl, o3, kf_k _ _ _, x14, n, j, _, rfl, hS14, by omega, fun H15 x15 s15 hS15 => ?_⟩
        rw [canS_down (by omega)] at hS15
        have hS13' := hS13.same (s14.trans s15)
        obtain ⟨e7, t7, o7, _⟩ := hS13'.ob
        obtain ⟨e8, t8, o8, _⟩ := hS15.ob
        refine ⟨x13, x15, e7, e8, _, _, rfl, rfl, o7, o8, x13, x15, j, j, _, _, rfl, hS13', hS15, fun bb hbb => ⟨bb, rfl, _, rfl, ?_⟩⟩
        have ebb : bb = true := hbb.mpr ⟨rfl, rfl⟩
        rw [ebb]
        refine iteF ?_
        have s1215 := (s13.trans s14).trans s15
        have hW15 : Wd H15 aw ws := ⟨s1215 _ _ hW12.at_, hW12.nm, hW12.len, hW12.pos⟩
        refine ⟨_, rfl, _, rfl, _, rfl, _, rfl, d, g, c, _, aw, ws, ae, l, n, rfl, hD12.same s1215, by omega, hW15, nwg, s1215 _ _ he12, neg, hlw, hll, hn6, LamX.Tabs.ext hT12 s1215, fun H16 hD16 f16 hT16 => ⟨true, rfl, iteF (hN _ _ ⟨rfl, (FrN.of s1215).trans f16, hD16.mono (by omega), hT16⟩)⟩⟩
      subst e
      have hk16 := hk12.frN f16 hD12.off (by have := hD12.kp hk12; simp [this])
      have he16 := f16 _ _ he12 (fun _ z => by cases z) (dg_out hD12 he12 neg)
      have hW16 := hW12.frN f16 (dg_out hD12 hW12.at_ nwg)
      -- rows
      refine cutIf (fun σ' H' => σ' = lawSt a d i n aw ae p p2 v8 v9 v10 ∧ Fr [d, g] H16 H' ∧ Dr d g c (10000 * i + 4300) H') (fun N hN => ?_) (fun σ17 H17 ⟨e, f17, hD17⟩ => ?_)
      · refine ⟨_, rfl, _, rfl, _, rfl, _, rfl, d, g, c, _, aw, ws, p, n, .non, ae, l, rfl, hD16, by omega, hW16, nwg, hk16, he16, neg, fun H17 hD17 f17 => ⟨true, rfl, iteF (hN _ _ ⟨rfl, f17, hD17.mono (by omega)⟩)⟩⟩
      subst e
      have hT17 := tabs_fr hT16 f17 hD16.notab
      have hk17 := hk16.fr f17 hD16.off (by have := hD16.kp hk16; simp [this])
      have he17 := f17 _ _ he16 (dg_out hD16 he16 neg)
      have hW17 := hW16.fr f17 (dg_out hD16 hW16.at_ nwg)
      -- a mate
      refine ⟨_, rfl, fun p3 dx3 nx3 ndx3 _ => sp_mk hn6 nx3 ndx3 fun H18 s18 hk3 => ⟨rfl, ?_⟩⟩
      have hk18 := hk17.same s18
      have hD18 := hD17.same s18
      have hT18 := LamX.Tabs.ext hT17 s18
      have he18 := s18 _ _ he17
      have hW18 : Wd H18 aw ws := ⟨s18 _ _ hW17.at_, hW17.nm, hW17.len, hW17.pos⟩
      have np3p : p3 ≠ p := fun e => by
        obtain ⟨dxx, mx, ox, _⟩ := hk17.ob
        rw [e, ox] at nx3
        cases nx3
      have cN : ∀ z ∈ canS n l, Nm z := fun z hz => hlN z (canS_mem hz)
      have cW : ∀ z ∈ canS n l, z ∈ ws := fun z hz => hlw z (canS_mem hz)
      have cL : (canS n l).length ≤ 120 := Nat.le_trans (canS_len _ _) hll
      obtain ⟨dp8, mp8, op8, _⟩ := hk18.ob
      refine ⟨_, rfl, p, dp8, _, rfl, op8, p, n, _, .non, rfl, hk18, fun tl htl => ?_⟩
      rw [List.reverse_reverse] at htl
      have ntl : tl ∉ [p3] := by
        obtain ⟨dxx, mx, ox, _⟩ := hk3.ob
        have : tl ≠ p3 := ne_of htl ox (by intro z; cases z)
        simpa using this
      refine ⟨tl, rfl, ⟨_, SqT.of' htl⟩, for_tup (K := K) (a := tl) (xs := (canS n l).map V.str) (fun m σ H' => ∃ v9 : Option V, σ = [some (.ref a), some (.ref d), some (.int (0 + ((i : Nat) : Int))), some (.int (n : Int)), some (.ref aw), some (.ref ae), some (.ref p), some (.ref p2), some (.ref p3), v9, v10] ∧ Kp CK CM H' p3 n ((canS n l).take m).reverse .non ∧ Fr [p3] H18 H')
        ⟨v9, rfl, hk3, Fr.refl _ _⟩ (fun m σ H' _ ⟨_, _, _, f⟩ => SqT.of' (f _ _ htl ntl)) (fun m x σ H19 hm ⟨v9', e, hk19, f19⟩ => ?_) (fun σ H19 ⟨v9', e, hk19, f19⟩ => ?_)⟩
      · obtain ⟨hml, ex, et⟩ := map_get hm
        subst ex e
        obtain ⟨dxx, mx, ox, _⟩ := hk19.ob
        refine ⟨_, rfl, p3, dxx, _, rfl, ox, noK _ _ _ _ (.inl rfl), _, rfl, p3, n, _, .non, (canS n l)[m], rfl, hk19, cN _ (List.getElem_mem hml), by simp; omega, few _ fun y hy => ?_, fun H20 hk20 f20 => ⟨_, rfl, ?_, f19.trans f20⟩⟩
        · rcases List.mem_cons.mp hy with rfl | hy
          · exact cW _ (List.getElem_mem hml)
          · exact cW y (List.take_subset _ _ (List.mem_reverse.mp hy))
        · rw [et, List.reverse_append]
          exact hk20
      subst e
      rw [List.length_map, List.take_length] at hk19
      have off3 : ∀ s ∈ [p3], Off H18 s := fun s' hs => by rw [List.mem_singleton.mp hs]; exact hk3.off
      have hk19p : Kp CK CM H19 p n l.reverse .non := hk18.fr f19 off3 (by simp [np3p.symm])
      obtain ⟨n31, n32, n33⟩ := hD18.kp hk3
      have hD19 : Dr d g c (10000 * i + 4300) H19 := hD18.fr f19 (by simp [n31.symm]) (by simp [n32.symm]) (by simp [n33.symm])
      have hT19 := tabs_fr hT18 f19 hk3.notab
      have out3 : ∀ {b : Addr} {xs : List V}, H18 b = some (.lst xs) → b ∉ [p3] := fun hb => by
        obtain ⟨dxx, mx, ox, _⟩ := hk3.ob
        have : _ ≠ p3 := ne_of hb ox (by intro z; cases z)
        simpa using this
      have he19 := f19 _ _ he18 (out3 he18)
      have hW19 := hW18.fr f19 (out3 hW18.at_)
      dsimp only
      refine cutIf (fun σ' H' => σ' = [some (.ref a), some (.ref d), some (.int (0 + ((i : Nat) : Int))), some (.int (n : Int)), some (.ref aw), some (.ref ae), some (.ref p), some (.ref p2), some (.ref p3), v9', v10] ∧ H' = H19) (fun N hN => ?_) (fun σ20 H20 ⟨e, eH⟩ => ?_)
      · obtain ⟨dxx, mx, ox, _⟩ := hk19.ob
        obtain ⟨dp9, mp9, op9, _⟩ := hk19p.ob
        refine ⟨_, rfl, p3, dxx, _, rfl, ox, p3, n, _, .non, rfl, hk19, fun t1 ht1 => ?_⟩
        rw [List.reverse_reverse, canS_idem] at ht1
        refine ⟨_, rfl, p, dp9, _, rfl, op9, p, n, _, .non, rfl, hk19p, fun t2 ht2 => ?_⟩
        rw [List.reverse_reverse] at ht2
        refine ⟨_, _, dp_tup ht1, dp_tup ht2, shaped_strs cN, shaped_strs cN, _, rfl, ?_⟩
        rw [eqv_tups, decide_eq_true rfl]
        refine iteF ?_
        refine ⟨_, rfl, p3, dxx, _, rfl, ox, p3, n, _, .non, rfl, hk19, _, rfl, p, dp9, _, rfl, op9, p, n, _, .non, rfl, hk19p, fun t3 ht3 => ?_⟩
        rw [List.reverse_reverse] at ht3
        exact ⟨t3, _, rfl, .inr (SqT.of' ht3), rfl, _, rfl, iteNS (by rw [List.length_map, List.length_reverse]) (hN _ _ ⟨rfl, rfl⟩)⟩
      have eH' := eH.symm
      subst e eH'
      -- events are taken back
      have nex : ∀ {b : Addr} {xs : List V} {H' : Hp} {es : List Str}, Kp CK CM H' p n es .non → H' b = some (.lst xs) → b ∉ [p] := fun hk hb => by
        obtain ⟨dxx, mx, ox, _⟩ := hk.ob
        have : _ ≠ p := ne_of hb ox (by intro z; cases z)
        simpa using this
      refine ⟨_, rfl, ae, _, rfl, .inl (SqL.of he19), _, _, rfl, rfl, _, rfl, _, rfl, ae, _, rfl, .inl (SqL.of he19), _, _, rfl, rfl, _, _, rfl, _, rfl, ?_⟩
      rw [List.length_map]
      obtain ⟨lo, elo⟩ : ∃ lo : Int, (if ((l.length : Nat) : Int) - 20 > -1 then ((l.length : Nat) : Int) - 20 else -1) = lo := ⟨_, rfl⟩
      have hlo : -1 ≤ lo ∧ ((l.length : Nat) : Int) - 20 ≤ lo ∧ lo ≤ ((l.length : Nat) : Int) := by
        rw [← elo]
        split <;> omega
      rw [elo]
      obtain ⟨cnt, ecnt⟩ : ∃ cnt : Nat, ((l.length : Int) - 1 - lo).toNat = cnt := ⟨_, rfl⟩
      refine ⟨_, _, _, cnt, rfl, ?_, ?_⟩
      · have := RgC.neg (i := (l.length : Int) - 1) (j := lo) (by omega) (by omega) (by omega) (by omega)
        rw [ecnt] at this
        exact this
      refine for_rangeC (fun m σ H' => ∃ v10 : Option V, σ = [some (.ref a), some (.ref d), some (.int (0 + ((i : Nat) : Int))), some (.int (n : Int)), some (.ref aw), some (.ref ae), some (.ref p), some (.ref p2), some (.ref p3), v9', v10] ∧ Kp CK CM H' p n (l.take (l.length - m)).reverse .non ∧ H' ae = some (.lst (l.map V.str)) ∧ Wd H' aw ws ∧ Dr d g c (10000 * i + 4300) H' ∧ LamX.Tabs TT H')
        ⟨v10, rfl, by rw [Nat.sub_zero, List.take_length]; exact hk19p, he19, hW19, hD19, hT19⟩ (fun m σ H21 hm ⟨v10', e, hk21, he21, hW21, hD21, hT21⟩ => ?_) (fun σ H21 ⟨v10', e, hk21, he21, hW21, hD21, hT21⟩ => ?_)
      · subst e
        obtain ⟨z, ez⟩ : ∃ z : Nat, l.length - m = z + 1 := ⟨l.length - m - 1, by omega⟩
        have hz : z < l.length := by omega
        have ezi : (l.length : Int) - 1 + ((m : Nat) : Int) * -1 = ((z : Nat) : Int) := by omega
        have tk : l.take (z + 1) = l.take z ++ [l[z]] := by rw [List.take_succ, List.getElem?_eq_getElem hz]; rfl
        rw [ez, tk, List.reverse_append] at hk21
        have hk21' : Kp CK CM H21 p n (l[z] :: (l.take z).reverse) .non := hk21
        rw [ezi]
        obtain ⟨dpa, mpa, opa, _⟩ := hk21'.ob
        refine ⟨_, rfl, p, dpa, _, rfl, opa, noK _ _ _ _ (.inr rfl), p, n, _, .non, _, rfl, hk21', fun H22 hk22 f22 => ?_⟩
        have he22 := f22 _ _ he21 (nex hk21' he21)
        have hW22 := hW21.fr f22 (nex hk21' hW21.at_)
        obtain ⟨na1, na2, na3⟩ := hD21.kp hk21'
        have hD22 : Dr d g c (10000 * i + 4300) H22 := hD21.fr f22 (by simp [na1.symm]) (by simp [na2.symm]) (by simp [na3.symm])
        have hT22 := tabs_fr hT21 f22 hk21'.notab
        obtain ⟨dpb, mpb, opb, _⟩ := hk22.ob
        refine ⟨_, rfl, p, dpb, _, rfl, opb, p, n, _, .non, rfl, hk22, fun tb htb => ?_⟩
        rw [List.reverse_reverse] at htb
        refine ⟨_, rfl, _, rfl, _, rfl, ae, _, rfl, SqL.of he22, fun qs hqs => ?_⟩
        rw [cut_to (show z ≤ l.length by omega)]
        have s23 := (Same.refl H22).one (o := .lst ((l.take z).map V.str)) hqs
        have lgz : Lg (upd H22 qs (.lst ((l.take z).map V.str))) qs (l.take z) := ⟨.inl upd_same, fun y hy => hlN y (List.take_subset _ _ hy), by rw [List.length_take]; omega, few _ fun y hy => hlw y (List.take_subset _ _ hy)⟩
        refine ⟨_, rfl, qs, _, n, rfl, lgz, hn6, fun H24 tc s24 htc => ?_⟩
        have s2224 := s23.trans s24
        have zN : ∀ y ∈ canS n (l.take z), Nm y := fun y hy => hlN y (List.take_subset _ _ (canS_mem hy))
        refine ⟨_, _, dp_tup (s2224 _ _ htb), dp_tup htc, shaped_strs zN, shaped_strs zN, _, rfl, ?_⟩
        rw [eqv_tups, decide_eq_true rfl]
        refine iteF ?_
        have hk24 := hk22.same s2224
        obtain ⟨dpc, mpc, opc, _⟩ := hk24.ob
        refine ⟨_, rfl, p, dpc, _, rfl, opc, p, n, _, .non, rfl, hk24, _, rfl, rfl, _, rfl, iteNS (by rw [List.length_reverse, List.length_take, Nat.min_eq_left (show z ≤ l.length by omega)]) ?_⟩
        refine ⟨_, rfl, by rw [show l.length - (m + 1) = z by omega]; exact hk24, s2224 _ _ he22, ⟨s2224 _ _ hW22.at_, hW22.nm, hW22.len, hW22.pos⟩, hD22.same s2224, LamX.Tabs.ext hT22 s2224⟩
      · subst e
        exact ⟨_, _, _, _, _, _, _, _, _, rfl, hD21.mono (by omega), hT21, fun _ => ⟨n, aw, ws, rfl, hn6, rfl, hW21, nwg⟩⟩
    · obtain ⟨n, aw, ws, rfl, hn6, rfl, hW1, nwg⟩ := hlast (by decide)
      subst e
      refine ⟨_, rfl, d, g, c, _, 3, rfl, hD1, by omega, by decide, by decide, fun r H2 hr2' hD2 hF2 => ⟨_, _, rfl, rfl, _, rfl, ?_⟩⟩
      refine ite2 (fun _ => k _) (fun _ => ?_)
      have hW2 := hW1.fr hF2 (dg_out hD1 hW1.at_ nwg)
      refine ⟨_, rfl, _, rfl, _, rfl, aw, _, rfl, SqL.of hW2.at_, fun q hq => ?_⟩
      have c1 : cutV (ws.map V.str) none (some 2) = (ws.take 2).map V.str := by
        unfold cutV
        rw [HT.sIx_none, show (2 : Int) = ((2 : Nat) : Int) from rfl, HT.sIx_nat, List.length_map, List.drop_zero, Nat.sub_zero, ← List.map_take]
        congr 1
        rcases Nat.le_total 2 ws.length with h | h
        · rw [Nat.min_eq_left h]
        · rw [Nat.min_eq_right h, List.take_length, List.take_of_length_le h]
      rw [c1]
      have s3 := (Same.refl H2).one (o := .lst ((ws.take 2).map V.str)) hq
      have hWq : Wd (upd H2 q (.lst ((ws.take 2).map V.str))) q (ws.take 2) := ⟨upd_same, fun z hz => hW2.nm z (List.take_subset _ _ hz), by rw [List.length_take]; omega, fun e => by
        have h1 := congrArg List.length e
        rw [List.length_take] at h1
        have h2 : 0 < ws.length := List.length_pos_iff.mpr hW2.pos
        simp only [List.length_nil] at h1
        omega⟩
      have nqg : q ≠ g := (hD2.new hq).2.1
      refine ⟨_, rfl, _, _, rfl, ?_⟩
      have e3 : (if ((3 : Int)) < ((n : Nat) : Int) then (3 : Int) else ((n : Nat) : Int)) = ((min n 3 : Nat) : Int) := by
        split <;> omega
      rw [e3]
      exact ⟨d, g, c, _, q, _, min n 3, rfl, hD2.same s3, by omega, hWq, nqg, by omega, fun H' => k H'⟩
end
end G

end

/-! E1 -/
section
set_option maxHeartbeats 4000000
namespace G
open PySem L2 GK Si M
/-! ### what the top has written -/
def DefAt (K : PySem.W.Frag) (x : Str) (st : Stmt) : Prop := ∃ (f : Addr) (oc : Value) (od : Option Addr) (kV doc pm : Value) (an : Option Addr) (cdv ct : Value) (osl : Array (Option Value)),
  PySem.W.nsIn K mainGlobals x = some (some (.ref f)) ∧ K.lookup f = some ⟨oc, od, .func (PySem.W.fnOf x x (defArgs st) (defBody st) (defScope st) .none kV doc pm an cdv ct), osl⟩ ∧ PySem.W.codeIn K cdv x = true ∧ PySem.W.keepIn K (.ref f) = true
def MethAt (K : PySem.W.Frag) (C : Addr) (m q : Str) (st : Stmt) : Prop := ∃ (f : Addr) (oc : Value) (od : Option Addr) (kV doc pm : Value) (an : Option Addr) (cdv ct : Value) (osl : Array (Option Value)),
  PySem.W.findIn K (.ref C) m = some (some (.ref f)) ∧ PySem.W.isFn K (.ref f) = true ∧ K.lookup f = some ⟨oc, od, .func (PySem.W.fnOf m q (defArgs st) (defBody st) (defScope st) .none kV doc pm an cdv ct), osl⟩ ∧ PySem.W.codeIn K cdv q = true ∧ PySem.W.keepIn K (.ref f) = true
def PropAt (K : PySem.W.Frag) (C : Addr) (m q : Str) (st : Stmt) : Prop := ∃ (p g : Addr) (rest : List Value) (oc : Value) (od : Option Addr) (kV doc pm : Value) (an : Option Addr) (cdv ct : Value) (osl : Array (Option Value)),
  PySem.W.findIn K (.ref C) m = some (some (.ref p)) ∧ PySem.W.specialIn K (.ref p) "__get__" = some (some (.builtin "property.__get__")) ∧ PySem.W.takesIn K (.ref p) = some true ∧ PySem.W.recIn K p "property" = some (.ref g :: rest) ∧
  K.lookup g = some ⟨oc, od, .func (PySem.W.fnOf m q (defArgs st) (defBody st) (defScope st) .none kV doc pm an cdv ct), osl⟩ ∧ PySem.W.codeIn K cdv q = true ∧ PySem.W.keepIn K (.ref g) = true
structure ClsAt (K : PySem.W.Frag) (x : Str) (C : Addr) (as : List Str) : Prop where
  at_ : PySem.W.nsIn K mainGlobals x = some (some (.ref C))
  pg : PySem.W.plainGet K C Str.empty = true
  hd : PySem.W.hasDictIn K C = true
  po : PySem.W.plainOver K C = true
  sa : PySem.W.findIn K (.ref C) "__setattr__" = some (some (.builtin "object.__setattr__"))
  mkr : PySem.W.makesIn K C = true
  kp : PySem.W.keepIn K (.ref C) = true
  no : ∀ f ∈ as, PySem.W.findIn K (.ref C) f = some none
def FailAt (K : PySem.W.Frag) : Prop := ∃ (f c P : Addr) (oc : Value) (od : Option Addr) (kV doc pm : Value) (an : Option Addr) (ct : Value) (osl : Array (Option Value)) (e : Value) (dd : Option Addr) (vs : Array Value) (sl : Array (Option Value)),
  PySem.W.nsIn K mainGlobals "_law_failed" = some (some (.ref f)) ∧ K.lookup f = some ⟨oc, od, .func (PySem.W.fnOf "_law_failed" "_law_failed" (defArgs (top 45)) (defBody (top 45)) (defScope (top 45)) .none kV doc pm an (.ref c) ct), osl⟩ ∧ PySem.W.codeIn K (.ref c) "_law_failed" = true ∧ PySem.W.keepIn K (.ref f) = true ∧
  K.lookup c = some ⟨e, dd, .fields vs, sl⟩ ∧ vs[11]? = some (.ref P) ∧ K.lookup P = none
section
variable {K : PySem.W.Frag} {x m q : Str} {st : Stmt} {C f p g c P : Addr} {oc : Value} {od : Option Addr} {kV doc pm : Value} {an : Option Addr} {cdv ct : Value} {osl : Array (Option Value)} {rest : List Value} {e : Value} {dd : Option Addr} {vs : Array Value} {sl : Array (Option Value)}
theorem DefAt.of (a : PySem.W.nsIn K mainGlobals x = some (some (.ref f))) (l : K.lookup f = some ⟨oc, od, .func (PySem.W.fnOf x x (defArgs st) (defBody st) (defScope st) .none kV doc pm an cdv ct), osl⟩) (c : PySem.W.codeIn K cdv x = true) (k : PySem.W.keepIn K (.ref f) = true) : DefAt K x st := ⟨f, oc, od, kV, doc, pm, an, cdv, ct, osl, a, l, c, k⟩
theorem MethAt.of (a : PySem.W.findIn K (.ref C) m = some (some (.ref f))) (i : PySem.W.isFn K (.ref f) = true) (l : K.lookup f = some ⟨oc, od, .func (PySem.W.fnOf m q (defArgs st) (defBody st) (defScope st) .none kV doc pm an cdv ct), osl⟩) (c : PySem.W.codeIn K cdv q = true) (k : PySem.W.keepIn K (.ref f) = true) : MethAt K C m q st := ⟨f, oc, od, kV, doc, pm, an, cdv, ct, osl, a, i, l, c, k⟩
theorem PropAt.of (a : PySem.W.findIn K (.ref C) m = some (some (.ref p))) (s : PySem.W.specialIn K (.ref p) "__get__" = some (some (.builtin "property.__get__"))) (t : PySem.W.takesIn K (.ref p) = some true) (r : PySem.W.recIn K p "property" = some (.ref g :: rest)) (l : K.lookup g = some ⟨oc, od, .func (PySem.W.fnOf m q (defArgs st) (defBody st) (defScope st) .none kV doc pm an cdv ct), osl⟩) (c : PySem.W.codeIn K cdv q = true) (k : PySem.W.keepIn K (.ref g) = true) : PropAt K C m q st :=
  ⟨p, g, rest, oc, od, kV, doc, pm, an, cdv, ct, osl, a, s, t, r, l, c, k⟩
theorem FailAt.of (a : PySem.W.nsIn K mainGlobals "_law_failed" = some (some (.ref f))) (l : K.lookup f = some ⟨oc, od, .func (PySem.W.fnOf "_law_failed" "_law_failed" (defArgs (top 45)) (defBody (top 45)) (defScope (top 45)) .none kV doc pm an (.ref c) ct), osl⟩) (cc : PySem.W.codeIn K (.ref c) "_law_failed" = true) (k : PySem.W.keepIn K (.ref f) = true)
    (m : K.lookup c = some ⟨e, dd, .fields vs, sl⟩) (v : vs[11]? = some (.ref P)) (n : K.lookup P = none) : FailAt K := ⟨f, c, P, oc, od, kV, doc, pm, an, ct, osl, e, dd, vs, sl, a, l, cc, k, m, v, n⟩
theorem kit_self : PySem.W.kitOne K (.ref C) (.ref C) = some true := by
  unfold PySem.W.kitOne
  rw [if_pos]
  first | rfl | exact beq_self_eq_true _ | simp
theorem ex_tok {p : Tok → Prop} {t : Tok} (h : p t) : ∃ t, p t := ⟨t, h⟩
end
theorem all_nil {p : Str → Prop} : ∀ f ∈ ([] : List Str), p f := fun _ h => nomatch h
theorem all_cons {p : Str → Prop} {x : Str} {l : List Str} (h : p x) (t : ∀ f ∈ l, p f) : ∀ f ∈ x :: l, p f := fun f hf => (List.mem_cons.mp hf).elim (fun e => e ▸ h) (t f)
section
variable {K : PySem.W.Frag} {h : Heap} {mg : Str → Option Value}
theorem ClsAt.cf {x : Str} {C : Addr} {as : List Str} (c : ClsAt K x C as) (X : K.In h) (G : h.Ns mainGlobals mg) : CF K mg x C as := ⟨⟨c.pg, c.hd, c.po, c.sa⟩, c.no, PySem.W.mg_of X G c.at_⟩
theorem mkDf {x : Str} {st : Stmt} {ps : List Str} (X : K.In h) (G : h.Ns mainGlobals mg) (d : DefAt K x st) (hb : ∀ (kV doc pm : Value) (an : Option Addr) (cdv ct : Value) (us : List Value), us.length = ps.length → bindArgs (PySem.W.fnOf x x (defArgs st) (defBody st) (defScope st) .none kV doc pm an cdv ct) ⟨us, []⟩ = pure (ps.zip us)) : ∃ f fd, Df K mg x st ps f fd := by
  obtain ⟨f, oc, od, kV, doc, pm, an, cdv, ct, osl, a, l, c, k⟩ := d
  have F := fun_mk (st := st) l c k
  exact ⟨f, _, F, PySem.W.mg_of X G a, F.binds hb⟩
theorem mkMt {C : Addr} {m q : Str} {st : Stmt} {ps : List Str} (d : MethAt K C m q st) (hb : ∀ (kV doc pm : Value) (an : Option Addr) (cdv ct : Value) (us : List Value), us.length = ps.length → bindArgs (PySem.W.fnOf m q (defArgs st) (defBody st) (defScope st) .none kV doc pm an cdv ct) ⟨us, []⟩ = pure (ps.zip us)) : ∃ f fd, Mt K C m q st ps f fd := by
  obtain ⟨f, oc, od, kV, doc, pm, an, cdv, ct, osl, a, i, l, c, k⟩ := d
  have F := fun_mk (st := st) l c k
  exact ⟨f, _, F, a, i, F.binds hb⟩
theorem mkPt {C : Addr} {m q : Str} {st : Stmt} (d : PropAt K C m q st) (hb : ∀ (kV doc pm : Value) (an : Option Addr) (cdv ct : Value) (us : List Value), us.length = ["self"].length → bindArgs (PySem.W.fnOf m q (defArgs st) (defBody st) (defScope st) .none kV doc pm an cdv ct) ⟨us, []⟩ = pure ((["self"] : List Str).zip us)) : ∃ p g fd, Pt K C m q st p g fd := by
  obtain ⟨p, g, rest, oc, od, kV, doc, pm, an, cdv, ct, osl, a, s, t, r, l, c, k⟩ := d
  have F := fun_mk (st := st) l c k
  exact ⟨p, g, _, F, ⟨a, s, t, rest, r⟩, F.binds hb⟩
theorem mkFail (X : K.In h) (G : h.Ns mainGlobals mg) (d : FailAt K) : ∃ f fd c P, FunC K "_law_failed" "_law_failed" (top 45) f fd (.ref c) ∧ Binds K fd ["_law_box", "_law_words_here"] [] ∧ (mg "_law_failed" = some (.ref f) ∧ ∃ oc od osl, K.lookup f = some ⟨oc, od, .func fd, osl⟩) ∧ fd.code = .ref c ∧ K.lookup P = none ∧ ∃ e dd vs sl, K.lookup c = some ⟨e, dd, .fields vs, sl⟩ ∧ vs[11]? = some (.ref P) := by
  obtain ⟨f, c, P, oc, od, kV, doc, pm, an, ct, osl, e, dd, vs, sl, a, l, cc, k, l2, v, n⟩ := d
  exact ⟨f, _, c, P, ⟨⟨oc, od, kV, doc, pm, an, ct, osl, rfl, l, cc⟩, k⟩, .all fun us hl => match us, hl with | [_, _], _ => rfl, ⟨PySem.W.mg_of X G a, oc, od, osl, l⟩, rfl, n, e, dd, vs, sl, l2, v⟩
end
theorem all_mk {l : PySem.W.OpenLaw} {w : World} {K : PySem.W.Frag} {h : Heap} {mg : Str → Option Value} {fa CS CM CB CK : Addr} (X : K.In h) (G : h.Ns mainGlobals mg) (hfa : mg "law" = some (.ref fa))
    (tab : ∀ (ff : Addr) (o : Obj) (fd : FuncData), mg "_law_failed" = some (.ref ff) → K.lookup ff = some o → o.data = .func fd → ∃ c P, fd.code = .ref c ∧ PySem.W.CodeHd h c P ∧ h.get? P = some { cls := .none, data := .fields #[] })
    (cS : ClsAt K "Summary" CS ["own_k", "own_left"])
    (cM : ClsAt K "Moment" CM ["ahead", "standing", "kept"])
    (cB : ClsAt K "Block" CB ["around", "held"])
    (cK : ClsAt K "Keeper" CK ["own_k", "now", "block"])
    (d14 : DefAt K "is_number" (top 14))
    (d15 : DefAt K "is_name" (top 15))
    (d16 : DefAt K "first_wrong" (top 16))
    (d17 : DefAt K "are_names" (top 17))
    (d18 : DefAt K "need_log" (top 18))
    (d19 : DefAt K "need_k" (top 19))
    (d21 : DefAt K "place_behind" (top 21))
    (d22 : DefAt K "end_in" (top 22))
    (d24 : DefAt K "depths_of" (top 24))
    (d26 : DefAt K "dropped_once" (top 26))
    (d27 : DefAt K "reduced" (top 27))
    (d28 : DefAt K "stretches_alike" (top 28))
    (d29 : DefAt K "canonical_of" (top 29))
    (d30 : DefAt K "canonical" (top 30))
    (d38 : DefAt K "_law_begun" (top 38))
    (d39 : DefAt K "_law_take" (top 39))
    (d40 : DefAt K "_law_pick" (top 40))
    (d41 : DefAt K "_law_words" (top 41))
    (d42 : DefAt K "_law_events" (top 42))
    (d43 : DefAt K "_law_occurs" (top 43))
    (d44 : DefAt K "_law_fed" (top 44))
    (d46 : DefAt K "_law_lost" (top 46))
    (d47 : DefAt K "_law_pieces_right" (top 47))
    (d48 : DefAt K "_law_rows_right" (top 48))
    (d49 : DefAt K "_law_long_right" (top 49))
    (d50 : DefAt K "law" (top 50))
    (mS32_0 : MethAt K CS "__init__" "Summary.__init__" (inCl 32 0))
    (mS32_4 : MethAt K CS "__contains__" "Summary.__contains__" (inCl 32 4))
    (mS32_5 : MethAt K CS "__eq__" "Summary.__eq__" (inCl 32 5))
    (mS32_6 : MethAt K CS "__add__" "Summary.__add__" (inCl 32 6))
    (mS32_12 : MethAt K CS "down_to" "Summary.down_to" (inCl 32 12))
    (mM34_0 : MethAt K CM "__init__" "Moment.__init__" (inCl 34 0))
    (mB35_0 : MethAt K CB "__init__" "Block.__init__" (inCl 35 0))
    (mK36_0 : MethAt K CK "__init__" "Keeper.__init__" (inCl 36 0))
    (mK36_5 : MethAt K CK "came" "Keeper.came" (inCl 36 5))
    (mK36_7 : MethAt K CK "__contains__" "Keeper.__contains__" (inCl 36 7))
    (mK36_8 : MethAt K CK "undo" "Keeper.undo" (inCl 36 8))
    (mK36_9 : MethAt K CK "__enter__" "Keeper.__enter__" (inCl 36 9))
    (mK36_10 : MethAt K CK "__exit__" "Keeper.__exit__" (inCl 36 10))
    (mK36_11 : MethAt K CK "attempt" "Keeper.attempt" (inCl 36 11))
    (pS32_2 : PropAt K CS "left" "Summary.left" (inCl 32 2))
    (pK36_1 : PropAt K CK "k" "Keeper.k" (inCl 36 1))
    (pK36_2 : PropAt K CK "many" "Keeper.many" (inCl 36 2))
    (pK36_3 : PropAt K CK "left" "Keeper.left" (inCl 36 3))
    (pK36_4 : PropAt K CK "summary" "Keeper.summary" (inCl 36 4))
    (b_isinstance : PySem.W.nsIn K mainGlobals "isinstance" = some none)
    (b_int : PySem.W.nsIn K mainGlobals "int" = some none)
    (b_bool : PySem.W.nsIn K mainGlobals "bool" = some none)
    (b_str : PySem.W.nsIn K mainGlobals "str" = some none)
    (b_list : PySem.W.nsIn K mainGlobals "list" = some none)
    (b_tuple : PySem.W.nsIn K mainGlobals "tuple" = some none)
    (b_len : PySem.W.nsIn K mainGlobals "len" = some none)
    (b_all : PySem.W.nsIn K mainGlobals "all" = some none)
    (b_enumerate : PySem.W.nsIn K mainGlobals "enumerate" = some none)
    (b_range : PySem.W.nsIn K mainGlobals "range" = some none)
    (b_min : PySem.W.nsIn K mainGlobals "min" = some none)
    (b_max : PySem.W.nsIn K mainGlobals "max" = some none)
    (b_abs : PySem.W.nsIn K mainGlobals "abs" = some none)
    (b_sum : PySem.W.nsIn K mainGlobals "sum" = some none)
    (b_zip : PySem.W.nsIn K mainGlobals "zip" = some none)
    (b_sorted : PySem.W.nsIn K mainGlobals "sorted" = some none)
    (b_KeyError : PySem.W.nsIn K mainGlobals "KeyError" = some none)
    (gL : ∃ t, PySem.W.nsIn K mainGlobals "LETTERS" = some (some (.str letters t)))
    (gN : ∃ t, PySem.W.nsIn K mainGlobals "LONGEST_NAME" = some (some (.int 6 t)))
    (gK : ∃ t, PySem.W.nsIn K mainGlobals "GREATEST_K" = some (some (.int 6 t)))
    (iS : IsC K CS)
    (sf : PySem.W.selfFirst K CS = true)
    (sn : PySem.W.findIn K (.ref CS) "__ne__" = some (some (.builtin "object.__ne__")))
    (so : PySem.W.subIn K (.ref CS) (.type "object") = some true)
    (fF : FailAt K)
    : LamX.LawAtS l w K CX0 17 63 "_law_script" mg fa h := by
  have B : Bi mg := ⟨PySem.W.mg_none_of X G b_isinstance, PySem.W.mg_none_of X G b_int, PySem.W.mg_none_of X G b_bool, PySem.W.mg_none_of X G b_str, PySem.W.mg_none_of X G b_list, PySem.W.mg_none_of X G b_tuple, PySem.W.mg_none_of X G b_len, PySem.W.mg_none_of X G b_all, PySem.W.mg_none_of X G b_enumerate, PySem.W.mg_none_of X G b_range, PySem.W.mg_none_of X G b_min, PySem.W.mg_none_of X G b_max, PySem.W.mg_none_of X G b_abs, PySem.W.mg_none_of X G b_sum, PySem.W.mg_none_of X G b_zip, PySem.W.mg_none_of X G b_sorted⟩
  obtain ⟨tL, gL⟩ := gL
  obtain ⟨tN, gN⟩ := gN
  obtain ⟨tK, gK⟩ := gK
  obtain ⟨f14, fd14, D14⟩ := mkDf (ps := ["value"]) X G d14 (fun _ _ _ _ _ _ us hl => match us, hl with | [_], _ => rfl)
  obtain ⟨f15, fd15, D15⟩ := mkDf (ps := ["value"]) X G d15 (fun _ _ _ _ _ _ us hl => match us, hl with | [_], _ => rfl)
  obtain ⟨f16, fd16, D16⟩ := mkDf (ps := ["items"]) X G d16 (fun _ _ _ _ _ _ us hl => match us, hl with | [_], _ => rfl)
  obtain ⟨f17, fd17, D17⟩ := mkDf (ps := ["value"]) X G d17 (fun _ _ _ _ _ _ us hl => match us, hl with | [_], _ => rfl)
  obtain ⟨f18, fd18, D18⟩ := mkDf (ps := ["log"]) X G d18 (fun _ _ _ _ _ _ us hl => match us, hl with | [_], _ => rfl)
  obtain ⟨f19, fd19, D19⟩ := mkDf (ps := ["k"]) X G d19 (fun _ _ _ _ _ _ us hl => match us, hl with | [_], _ => rfl)
  obtain ⟨f21, fd21, D21⟩ := mkDf (ps := ["log", "name", "at"]) X G d21 (fun _ _ _ _ _ _ us hl => match us, hl with | [_, _, _], _ => rfl)
  obtain ⟨f22, fd22, D22⟩ := mkDf (ps := ["row", "log"]) X G d22 (fun _ _ _ _ _ _ us hl => match us, hl with | [_, _], _ => rfl)
  obtain ⟨f24, fd24, D24⟩ := mkDf (ps := ["log"]) X G d24 (fun _ _ _ _ _ _ us hl => match us, hl with | [_], _ => rfl)
  obtain ⟨f26, fd26, D26⟩ := mkDf (ps := ["log", "k"]) X G d26 (fun _ _ _ _ _ _ us hl => match us, hl with | [_, _], _ => rfl)
  obtain ⟨f27, fd27, D27⟩ := mkDf (ps := ["log", "k"]) X G d27 (fun _ _ _ _ _ _ us hl => match us, hl with | [_, _], _ => rfl)
  obtain ⟨f28, fd28, D28⟩ := mkDf (ps := ["log", "k"]) X G d28 (fun _ _ _ _ _ _ us hl => match us, hl with | [_, _], _ => rfl)
  obtain ⟨f29, fd29, D29⟩ := mkDf (ps := ["log", "k"]) X G d29 (fun _ _ _ _ _ _ us hl => match us, hl with | [_, _], _ => rfl)
  obtain ⟨f30, fd30, D30⟩ := mkDf (ps := ["log", "k"]) X G d30 (fun _ _ _ _ _ _ us hl => match us, hl with | [_, _], _ => rfl)
  obtain ⟨f38, fd38, D38⟩ := mkDf (ps := ["_law_script"]) X G d38 (fun _ _ _ _ _ _ us hl => match us, hl with | [_], _ => rfl)
  obtain ⟨f39, fd39, D39⟩ := mkDf (ps := ["_law_draw", "_law_size"]) X G d39 (fun _ _ _ _ _ _ us hl => match us, hl with | [_, _], _ => rfl)
  obtain ⟨f40, fd40, D40⟩ := mkDf (ps := ["_law_draw", "_law_some"]) X G d40 (fun _ _ _ _ _ _ us hl => match us, hl with | [_, _], _ => rfl)
  obtain ⟨f41, fd41, D41⟩ := mkDf (ps := ["_law_draw", "_law_size"]) X G d41 (fun _ _ _ _ _ _ us hl => match us, hl with | [_, _], _ => rfl)
  obtain ⟨f42, fd42, D42⟩ := mkDf (ps := ["_law_draw", "_law_words_here", "_law_most"]) X G d42 (fun _ _ _ _ _ _ us hl => match us, hl with | [_, _, _], _ => rfl)
  obtain ⟨f43, fd43, D43⟩ := mkDf (ps := ["_law_line", "_law_events_here"]) X G d43 (fun _ _ _ _ _ _ us hl => match us, hl with | [_, _], _ => rfl)
  obtain ⟨f44, fd44, D44⟩ := mkDf (ps := ["_law_draw", "_law_words_here", "_law_box", "_law_events_here"]) X G d44 (fun _ _ _ _ _ _ us hl => match us, hl with | [_, _, _, _], _ => rfl)
  obtain ⟨f46, fd46, D46⟩ := mkDf (ps := ["_law_same", "_law_words_here"]) X G d46 (fun _ _ _ _ _ _ us hl => match us, hl with | [_, _], _ => rfl)
  obtain ⟨f47, fd47, D47⟩ := mkDf (ps := ["_law_draw", "_law_words_here", "_law_events_here", "_law_most"]) X G d47 (fun _ _ _ _ _ _ us hl => match us, hl with | [_, _, _, _], _ => rfl)
  obtain ⟨f48, fd48, D48⟩ := mkDf (ps := ["_law_draw", "_law_words_here", "_law_box", "_law_events_here"]) X G d48 (fun _ _ _ _ _ _ us hl => match us, hl with | [_, _, _, _], _ => rfl)
  obtain ⟨f49, fd49, D49⟩ := mkDf (ps := ["_law_draw", "_law_words_here", "_law_most"]) X G d49 (fun _ _ _ _ _ _ us hl => match us, hl with | [_, _, _], _ => rfl)
  obtain ⟨f50, fd50, D50⟩ := mkDf (ps := ["_law_script"]) X G d50 (fun _ _ _ _ _ _ us hl => match us, hl with | [_], _ => rfl)
  obtain ⟨fS32_0, fdS32_0, DS32_0⟩ := mkMt (ps := ["self", "k", "log"]) mS32_0 (fun _ _ _ _ _ _ us hl => match us, hl with | [_, _, _], _ => rfl)
  obtain ⟨fS32_4, fdS32_4, DS32_4⟩ := mkMt (ps := ["self", "row"]) mS32_4 (fun _ _ _ _ _ _ us hl => match us, hl with | [_, _], _ => rfl)
  obtain ⟨fS32_5, fdS32_5, DS32_5⟩ := mkMt (ps := ["self", "other"]) mS32_5 (fun _ _ _ _ _ _ us hl => match us, hl with | [_, _], _ => rfl)
  obtain ⟨fS32_6, fdS32_6, DS32_6⟩ := mkMt (ps := ["self", "other"]) mS32_6 (fun _ _ _ _ _ _ us hl => match us, hl with | [_, _], _ => rfl)
  obtain ⟨fS32_12, fdS32_12, DS32_12⟩ := mkMt (ps := ["self", "k"]) mS32_12 (fun _ _ _ _ _ _ us hl => match us, hl with | [_, _], _ => rfl)
  obtain ⟨fM34_0, fdM34_0, DM34_0⟩ := mkMt (ps := ["self", "ahead", "standing", "kept"]) mM34_0 (fun _ _ _ _ _ _ us hl => match us, hl with | [_, _, _, _], _ => rfl)
  obtain ⟨fB35_0, fdB35_0, DB35_0⟩ := mkMt (ps := ["self", "around", "held"]) mB35_0 (fun _ _ _ _ _ _ us hl => match us, hl with | [_, _, _], _ => rfl)
  obtain ⟨fK36_0, fdK36_0, DK36_0⟩ := mkMt (ps := ["self", "k"]) mK36_0 (fun _ _ _ _ _ _ us hl => match us, hl with | [_, _], _ => rfl)
  obtain ⟨fK36_5, fdK36_5, DK36_5⟩ := mkMt (ps := ["self", "name"]) mK36_5 (fun _ _ _ _ _ _ us hl => match us, hl with | [_, _], _ => rfl)
  obtain ⟨fK36_7, fdK36_7, DK36_7⟩ := mkMt (ps := ["self", "row"]) mK36_7 (fun _ _ _ _ _ _ us hl => match us, hl with | [_, _], _ => rfl)
  obtain ⟨fK36_8, fdK36_8, DK36_8⟩ := mkMt (ps := ["self"]) mK36_8 (fun _ _ _ _ _ _ us hl => match us, hl with | [_], _ => rfl)
  obtain ⟨fK36_9, fdK36_9, DK36_9⟩ := mkMt (ps := ["self"]) mK36_9 (fun _ _ _ _ _ _ us hl => match us, hl with | [_], _ => rfl)
  obtain ⟨fK36_10, fdK36_10, DK36_10⟩ := mkMt (ps := ["self", "kind", "value", "trace"]) mK36_10 (fun _ _ _ _ _ _ us hl => match us, hl with | [_, _, _, _], _ => rfl)
  obtain ⟨fK36_11, fdK36_11, DK36_11⟩ := mkMt (ps := ["self", "work"]) mK36_11 (fun _ _ _ _ _ _ us hl => match us, hl with | [_, _], _ => rfl)
  obtain ⟨qS32_2, fS32_2, fdS32_2, DS32_2⟩ := mkPt pS32_2 (fun _ _ _ _ _ _ us hl => match us, hl with | [_], _ => rfl)
  obtain ⟨qK36_1, fK36_1, fdK36_1, DK36_1⟩ := mkPt pK36_1 (fun _ _ _ _ _ _ us hl => match us, hl with | [_], _ => rfl)
  obtain ⟨qK36_2, fK36_2, fdK36_2, DK36_2⟩ := mkPt pK36_2 (fun _ _ _ _ _ _ us hl => match us, hl with | [_], _ => rfl)
  obtain ⟨qK36_3, fK36_3, fdK36_3, DK36_3⟩ := mkPt pK36_3 (fun _ _ _ _ _ _ us hl => match us, hl with | [_], _ => rfl)
  obtain ⟨qK36_4, fK36_4, fdK36_4, DK36_4⟩ := mkPt pK36_4 (fun _ _ _ _ _ _ us hl => match us, hl with | [_], _ => rfl)
  have TS := cS.cf X G
  have TM := cM.cf X G
  have TB := cB.cf X G
  have TK := cK.cf X G
  obtain ⟨fF, fdF, cF, PT, FF, bF, mF, eFd, nP, hPc⟩ := mkFail X G fF
  obtain ⟨c', P', e1, hc', hP'⟩ := tab fF _ fdF mF.1 mF.2.choose_spec.choose_spec.choose_spec rfl
  have ecF : c' = cF := by
    rw [eFd] at e1
    injection e1 with e1
    exact e1.symm
  subst ecF
  have ePT : P' = PT := by
    obtain ⟨e, dd, vs, sl, k1, k2⟩ := hPc
    obtain ⟨oc, vs', _, _, _, _, _, _, _, q1, _, q2, q3, _⟩ := hc'
    rw [X _ _ k1] at q1
    cases q1
    cases q2
    rw [k2] at q3
    injection q3 with q3
    injection q3 with q3
    exact q3.symm
  subst ePT
  have e := hfa.symm.trans D50.m
  cases e
  refine ⟨fd50, [(c', P')], spLaw K [(P', qLam)], fun p hp => ?_, fun p hp => ?_, fun p hp => ?_, fun s u => ?_, fun H a ns hl _ ht hS => ?_, fun base _ _ hTB => ?_⟩
  · rw [List.mem_singleton.mp hp]; exact hP'
  · rw [List.mem_singleton.mp hp]; exact nP
  · rw [List.mem_singleton.mp hp]; exact hc'
  · obtain ⟨oc, od, kV, doc, pm, an, cdv, ct, osl, rfl, lk, hcd⟩ := D50.F.ex
    exact .of_eq rfl
  · refine ⟨a, ns, rfl, hS, hl, fun p hp => ?_, fun _ => rfl⟩
    rw [List.mem_singleton.mp hp]
    exact LamX.TabS.nil (ht (c', P') (List.mem_singleton.mpr rfl))
  have TBb : LamX.TabB base mg c' P' := hTB (c', P') (List.mem_singleton.mpr rfl)
  have H14 := D14.have (ok_isNumber (P := l.prog) (w := w) (base := base) D14 B)
  have H15 := D15.have (ok_isName (P := l.prog) (w := w) (base := base) D15 B (PySem.W.mg_of X G gL) ⟨_, PySem.W.mg_of X G gN⟩)
  have H16 := D16.have (ok_firstWrong D16 B H15)
  have H17 := D17.have (ok_areNames D17 B H16)
  have H18 := D18.have (ok_needLog D18 B H16)
  have H19 := D19.have (ok_needK D19 ⟨_, PySem.W.mg_of X G gK⟩ H14)
  have H21 := D21.have (ok_placeBehind (P := l.prog) (w := w) (base := base) D21 B)
  have H22 := D22.have (ok_endIn D22 H21)
  have H24 := D24.have (ok_depths (P := l.prog) (w := w) (base := base) D24 B)
  have H26 := D26.have (ok_dropped D26 B H24)
  have H27 := D27.have (ok_reduced D27 B H26)
  have H28 := D28.have (ok_stretches D28 B H24)
  have H29 := D29.have (ok_canonOf D29 B H27 H28)
  have H30 := D30.have (ok_canonical D30 H18 H19 H29)
  have S0 := DS32_0.haveK (ok_sumInit DS32_0 TS H18 H19 H29) cS.mkr cS.kp TS.m
  have S4 := ok_sumIn DS32_4 B TS H17 H22
  have S5 := ok_sumEq (P := l.prog) (w := w) (base := base) DS32_5 B TS iS
  have S6 := ok_sumAdd DS32_6 B TS iS S0
  have S12 := DS32_12.have (ok_down DS32_12 TS H19 S0)
  have S2 := DS32_2.have (ok_get (P := l.prog) (w := w) (mg := mg) (base := base) (f := "own_left") DS32_2.F sc32_2 rfl TS.cl (TS.no _ (by simp)))
  have M0 := DM34_0.haveK (ok_momInit (P := l.prog) (w := w) (base := base) DM34_0 TM) cM.mkr cM.kp TM.m
  have B0 := DB35_0.haveK (ok_blkInit (P := l.prog) (w := w) (base := base) DB35_0 TB) cB.mkr cB.kp TB.m
  have K0 := DK36_0.haveK (ok_kpInit DK36_0 TK H19 M0) cK.mkr cK.kp TK.m
  have K1 := DK36_1.have (ok_get (P := l.prog) (w := w) (mg := mg) (base := base) (f := "own_k") DK36_1.F sc36_1 rfl TK.cl (TK.no _ (by simp [kas])))
  have K2 := DK36_2.have (ok_many (P := l.prog) (w := w) (base := base) DK36_2 TK TM)
  have K3 := DK36_3.have (ok_left (P := l.prog) (w := w) (base := base) DK36_3 TK TM)
  have K4 := DK36_4.have (ok_summary DK36_4 TK TM S0)
  have K5 := DK36_5.have (ok_came DK36_5 TK TM M0 H15 H29)
  have K7 := ok_kpIn DK36_7 B TK TM H17 H22
  have K8 := DK36_8.have (ok_undo (P := l.prog) (w := w) (base := base) DK36_8 TK TM)
  have K9 := ok_enter (CM := CM) DK36_9 TK B0
  have K10 := ok_exit (P := l.prog) (w := w) (base := base) (CM := CM) DK36_10 TK TB
  have Y : Kit l.prog w K mg base CK CM CS := ⟨TK, TS, K0, S0, K4, K2, K3, K1, S2, K5, K8, S12, ⟨_, _, S5, DS32_5.b, DS32_5.at_, DS32_5.fn⟩, ⟨_, _, S6, DS32_6.b, DS32_6.at_, DS32_6.fn⟩, sf, sn, so⟩
  have O1 : Op l.prog w K mg base CK "__contains__" 4 ["self", "row"] (spKpIn CK CM) _ _ := ⟨K7, DK36_7.b, DK36_7.at_, DK36_7.fn⟩
  have O2 : Op l.prog w K mg base CS "__contains__" 4 ["self", "row"] (spSumIn CS) _ _ := ⟨S4, DS32_4.b, DS32_4.at_, DS32_4.fn⟩
  have H38 := D38.have (ok_begun (P := l.prog) (w := w) (base := base) D38 B)
  have H39 := D39.have (ok_take (P := l.prog) (w := w) (base := base) D39 B)
  have H40 := D40.have (ok_pick D40 B H39)
  have H41 := D41.have (ok_words D41 B H39 H40)
  have H42 := D42.have (ok_events D42 B H39 H40)
  have H43 := D43.have (ok_occurs (P := l.prog) (w := w) (base := base) D43 B)
  have H46 : HaveX l.prog w K mg base 6 "_law_lost" ["_law_same", "_law_words_here"] (spLost CK CM) := ⟨_, _, ok_lost D46 TK K5 K8 K2, D46.m, D46.F.kp, D46.b⟩
  have H45 : Have l.prog w K mg base 14 "_law_failed" ["_law_box", "_law_words_here"] (spFailed CK CM [(P', qLam)]) := ⟨_, _, ok_failed FF TK DK36_11 DK36_9 K9 DK36_10 K10 H46 (PySem.W.mg_none_of X G b_KeyError) TBb, mF.1, FF.kp, bF⟩
  have H44 := D44.have (ok_fed D44 TK H39 H40 K5 K8 H45)
  have H47 := D47.have (ok_pieces D47 B Y H39 H44)
  have H48 := D48.have (ok_rows D48 B TK H39 H40 H43 K1 K4 O1 O2)
  have H49 := D49.have (ok_long D49 B Y H40)
  exact ok_law D50 B Y H38 H39 H40 H41 H42 H44 H30 H47 H48 H49
end G
namespace G
open PySem PySem.Spec PyProof.Rows L2 GK
/-- the law's end, with the table of the code objects of _law_failed -/
theorem walk {l : PySem.W.OpenLaw} {q : Program} {loose : List Str} {XP : (Str → Option Value) → Heap → Prop} {YP : World → Heap → Prop} {d : DefRec} {K : Params → PySem.W.Frag}
    (hn : l.most = some 63) (hdf : d.params.defaults = []) (hrec : ((recsOf q).any fun e => e.name == ("_law_failed" : Str)) = true) (hY : ∀ (w : World) (h : Heap), YP w h → (K w.params).In h)
    (F : ∀ (w : World) (mg : Str → Option Value) (fa : Addr) (h : Heap), (K w.params).In h → h.Ns mainGlobals mg → mg d.name = some (.ref fa) →
      (∀ (ff : Addr) (o : Obj) (fd : FuncData), mg "_law_failed" = some (.ref ff) → (K w.params).lookup ff = some o → o.data = .func fd → ∃ c P, fd.code = .ref c ∧ PySem.W.CodeHd h c P ∧ h.get? P = some { cls := .none, data := .fields #[] }) →
      LamX.LawAtS l w (K w.params) CX0 17 63 "_law_script" mg fa h) :
    PySem.W.WalkO q loose XP YP l.row.toRowW d [] (fun f vs => PySem.call f vs) := by
  refine Att.attach_callB hn hdf fun w s₀ s₁ mg mb fa o pm cd doc a vs ns G Y ho hd hcd hmg hobj hints hlen hbits hg => ?_
  have KX := hY w _ Y
  have tab : ∀ (ff : Addr) (o : Obj) (fd : FuncData), mg "_law_failed" = some (.ref ff) → (K w.params).lookup ff = some o → o.data = .func fd → ∃ c P, fd.code = .ref c ∧ PySem.W.CodeHd s₁.heap c P ∧ s₁.heap.get? P = some { cls := .none, data := .fields #[] } := fun ff o1 fd1 hm k1 k2 => by
    obtain ⟨dL, hmem, hn1⟩ := List.any_eq_true.mp hrec
    have hn2 : dL.name = "_law_failed" := beq_iff_eq.mp hn1
    obtain ⟨a', o', fd', c', P', h1, h2, h3, h4, h5, h6⟩ := G.T.tab dL hmem
    rw [hn2, hm] at h1
    cases h1
    have g1 := KX _ _ k1
    rw [g1] at h2
    cases h2
    rw [k2] at h3
    cases h3
    exact ⟨c', P', h4, .of h5 h6, h6.2⟩
  obtain ⟨fd, cs, sp, hT, nT, C, hb, hsp, hF⟩ := F w mg fa _ KX G.T.g hmg tab
  exact LamX.law_callTs KX G.T.g G.T.b G.T.builtins G.T.nolimit hg hT nT C G.T.bmain hobj hints (Nat.le_trans hlen (by decide)) ⟨by decide, by decide, by decide⟩ hF hb (fun H hH hS => hsp H a ns hlen hbits hH hS) fun _ _ _ z => z
end G

end

open PySem PySem.W PyProof.Rows
set_option maxRecDepth 100000 in
set_option maxHeartbeats 0 in
theorem PySem.Challenge.cw_glancelogs_k46_whole_keepers_and_logs_holds : PySem.Challenge.rw_glancelogs_k46_whole_keepers_and_logs.Holds := by
  w_on; o_law; k_head; (case hw => w_witness2)
  k_fill
  refine G.walk (l := PySem.Challenge.rw_glancelogs_k46_whole_keepers_and_logs) rfl rfl ?hrec (fun w h Y => PySem.W.km_in_of Y) ?F
  case hrec => decide +kernel
  case F =>
    intro w mg fa h KX G0 hmg tab
    refine' G.all_mk KX G0 hmg tab ?cS ?cM ?cB ?cK ?d14 ?d15 ?d16 ?d17 ?d18 ?d19 ?d21 ?d22 ?d24 ?d26 ?d27 ?d28 ?d29 ?d30 ?d38 ?d39 ?d40 ?d41 ?d42 ?d43 ?d44 ?d46 ?d47 ?d48 ?d49 ?d50 ?mS32_0 ?mS32_4 ?mS32_5 ?mS32_6 ?mS32_12 ?mM34_0 ?mB35_0 ?mK36_0 ?mK36_5 ?mK36_7 ?mK36_8 ?mK36_9 ?mK36_10 ?mK36_11 ?pS32_2 ?pK36_1 ?pK36_2 ?pK36_3 ?pK36_4 ?b_isinstance ?b_int ?b_bool ?b_str ?b_list ?b_tuple ?b_len ?b_all ?b_enumerate ?b_range ?b_min ?b_max ?b_abs ?b_sum ?b_zip ?b_sorted ?b_KeyError ?gL ?gN ?gK ?iS ?sf ?sn ?so ?fF
    (case cS =>
      refine' ⟨?at_, ?pg, ?hd, ?po, ?sa, ?mkr, ?kp, ?no⟩
      (case at_ => k_is)
      (case pg => k_is)
      (case hd => k_is)
      (case po => k_is)
      (case sa => k_is)
      (case mkr => k_is)
      (case kp => k_is)
      (case no =>
        refine' G.all_cons ?x1 (G.all_cons ?x2 G.all_nil)
        (case x1 => k_is)
        (case x2 => k_is)))
    (case cM =>
      refine' ⟨?at_, ?pg, ?hd, ?po, ?sa, ?mkr, ?kp, ?no⟩
      (case at_ => k_is)
      (case pg => k_is)
      (case hd => k_is)
      (case po => k_is)
      (case sa => k_is)
      (case mkr => k_is)
      (case kp => k_is)
      (case no =>
        refine' G.all_cons ?x1 (G.all_cons ?x2 (G.all_cons ?x3 G.all_nil))
        (case x1 => k_is)
        (case x2 => k_is)
        (case x3 => k_is)))
    (case cB =>
      refine' ⟨?at_, ?pg, ?hd, ?po, ?sa, ?mkr, ?kp, ?no⟩
      (case at_ => k_is)
      (case pg => k_is)
      (case hd => k_is)
      (case po => k_is)
      (case sa => k_is)
      (case mkr => k_is)
      (case kp => k_is)
      (case no =>
        refine' G.all_cons ?x1 (G.all_cons ?x2 G.all_nil)
        (case x1 => k_is)
        (case x2 => k_is)))
    (case cK =>
      refine' ⟨?at_, ?pg, ?hd, ?po, ?sa, ?mkr, ?kp, ?no⟩
      (case at_ => k_is)
      (case pg => k_is)
      (case hd => k_is)
      (case po => k_is)
      (case sa => k_is)
      (case mkr => k_is)
      (case kp => k_is)
      (case no =>
        refine' G.all_cons ?x1 (G.all_cons ?x2 (G.all_cons ?x3 G.all_nil))
        (case x1 => k_is)
        (case x2 => k_is)
        (case x3 => k_is)))
    (case d14 =>
      refine' G.DefAt.of ?a ?l ?c ?k
      (case a => k_is)
      (case l => k_is)
      (case c => k_is)
      (case k => k_is))
    (case d15 =>
      refine' G.DefAt.of ?a ?l ?c ?k
      (case a => k_is)
      (case l => k_is)
      (case c => k_is)
      (case k => k_is))
    (case d16 =>
      refine' G.DefAt.of ?a ?l ?c ?k
      (case a => k_is)
      (case l => k_is)
      (case c => k_is)
      (case k => k_is))
    (case d17 =>
      refine' G.DefAt.of ?a ?l ?c ?k
      (case a => k_is)
      (case l => k_is)
      (case c => k_is)
      (case k => k_is))
    (case d18 =>
      refine' G.DefAt.of ?a ?l ?c ?k
      (case a => k_is)
      (case l => k_is)
      (case c => k_is)
      (case k => k_is))
    (case d19 =>
      refine' G.DefAt.of ?a ?l ?c ?k
      (case a => k_is)
      (case l => k_is)
      (case c => k_is)
      (case k => k_is))
    (case d21 =>
      refine' G.DefAt.of ?a ?l ?c ?k
      (case a => k_is)
      (case l => k_is)
      (case c => k_is)
      (case k => k_is))
    (case d22 =>
      refine' G.DefAt.of ?a ?l ?c ?k
      (case a => k_is)
      (case l => k_is)
      (case c => k_is)
      (case k => k_is))
    (case d24 =>
      refine' G.DefAt.of ?a ?l ?c ?k
      (case a => k_is)
      (case l => k_is)
      (case c => k_is)
      (case k => k_is))
    (case d26 =>
      refine' G.DefAt.of ?a ?l ?c ?k
      (case a => k_is)
      (case l => k_is)
      (case c => k_is)
      (case k => k_is))
    (case d27 =>
      refine' G.DefAt.of ?a ?l ?c ?k
      (case a => k_is)
      (case l => k_is)
      (case c => k_is)
      (case k => k_is))
    (case d28 =>
      refine' G.DefAt.of ?a ?l ?c ?k
      (case a => k_is)
      (case l => k_is)
      (case c => k_is)
      (case k => k_is))
    (case d29 =>
      refine' G.DefAt.of ?a ?l ?c ?k
      (case a => k_is)
      (case l => k_is)
      (case c => k_is)
      (case k => k_is))
    (case d30 =>
      refine' G.DefAt.of ?a ?l ?c ?k
      (case a => k_is)
      (case l => k_is)
      (case c => k_is)
      (case k => k_is))
    (case d38 =>
      refine' G.DefAt.of ?a ?l ?c ?k
      (case a => k_is)
      (case l => k_is)
      (case c => k_is)
      (case k => k_is))
    (case d39 =>
      refine' G.DefAt.of ?a ?l ?c ?k
      (case a => k_is)
      (case l => k_is)
      (case c => k_is)
      (case k => k_is))
    (case d40 =>
      refine' G.DefAt.of ?a ?l ?c ?k
      (case a => k_is)
      (case l => k_is)
      (case c => k_is)
      (case k => k_is))
    (case d41 =>
      refine' G.DefAt.of ?a ?l ?c ?k
      (case a => k_is)
      (case l => k_is)
      (case c => k_is)
      (case k => k_is))
    (case d42 =>
      refine' G.DefAt.of ?a ?l ?c ?k
      (case a => k_is)
      (case l => k_is)
      (case c => k_is)
      (case k => k_is))
    (case d43 =>
      refine' G.DefAt.of ?a ?l ?c ?k
      (case a => k_is)
      (case l => k_is)
      (case c => k_is)
      (case k => k_is))
    (case d44 =>
      refine' G.DefAt.of ?a ?l ?c ?k
      (case a => k_is)
      (case l => k_is)
      (case c => k_is)
      (case k => k_is))
    (case d46 =>
      refine' G.DefAt.of ?a ?l ?c ?k
      (case a => k_is)
      (case l => k_is)
      (case c => k_is)
      (case k => k_is))
    (case d47 =>
      refine' G.DefAt.of ?a ?l ?c ?k
      (case a => k_is)
      (case l => k_is)
      (case c => k_is)
      (case k => k_is))
    (case d48 =>
      refine' G.DefAt.of ?a ?l ?c ?k
      (case a => k_is)
      (case l => k_is)
      (case c => k_is)
      (case k => k_is))
    (case d49 =>
      refine' G.DefAt.of ?a ?l ?c ?k
      (case a => k_is)
      (case l => k_is)
      (case c => k_is)
      (case k => k_is))
    (case d50 =>
      refine' G.DefAt.of ?a ?l ?c ?k
      (case a => k_is)
      (case l => k_is)
      (case c => k_is)
      (case k => k_is))
    (case mS32_0 =>
      refine' G.MethAt.of ?a ?i ?l ?c ?k
      (case a => k_is)
      (case i => k_is)
      (case l => k_is)
      (case c => k_is)
      (case k => k_is))
    (case mS32_4 =>
      refine' G.MethAt.of ?a ?i ?l ?c ?k
      (case a => k_is)
      (case i => k_is)
      (case l => k_is)
      (case c => k_is)
      (case k => k_is))
    (case mS32_5 =>
      refine' G.MethAt.of ?a ?i ?l ?c ?k
      (case a => k_is)
      (case i => k_is)
      (case l => k_is)
      (case c => k_is)
      (case k => k_is))
    (case mS32_6 =>
      refine' G.MethAt.of ?a ?i ?l ?c ?k
      (case a => k_is)
      (case i => k_is)
      (case l => k_is)
      (case c => k_is)
      (case k => k_is))
    (case mS32_12 =>
      refine' G.MethAt.of ?a ?i ?l ?c ?k
      (case a => k_is)
      (case i => k_is)
      (case l => k_is)
      (case c => k_is)
      (case k => k_is))
    (case mM34_0 =>
      refine' G.MethAt.of ?a ?i ?l ?c ?k
      (case a => k_is)
      (case i => k_is)
      (case l => k_is)
      (case c => k_is)
      (case k => k_is))
    (case mB35_0 =>
      refine' G.MethAt.of ?a ?i ?l ?c ?k
      (case a => k_is)
      (case i => k_is)
      (case l => k_is)
      (case c => k_is)
      (case k => k_is))
    (case mK36_0 =>
      refine' G.MethAt.of ?a ?i ?l ?c ?k
      (case a => k_is)
      (case i => k_is)
      (case l => k_is)
      (case c => k_is)
      (case k => k_is))
    (case mK36_5 =>
      refine' G.MethAt.of ?a ?i ?l ?c ?k
      (case a => k_is)
      (case i => k_is)
      (case l => k_is)
      (case c => k_is)
      (case k => k_is))
    (case mK36_7 =>
      refine' G.MethAt.of ?a ?i ?l ?c ?k
      (case a => k_is)
      (case i => k_is)
      (case l => k_is)
      (case c => k_is)
      (case k => k_is))
    (case mK36_8 =>
      refine' G.MethAt.of ?a ?i ?l ?c ?k
      (case a => k_is)
      (case i => k_is)
      (case l => k_is)
      (case c => k_is)
      (case k => k_is))
    (case mK36_9 =>
      refine' G.MethAt.of ?a ?i ?l ?c ?k
      (case a => k_is)
      (case i => k_is)
      (case l => k_is)
      (case c => k_is)
      (case k => k_is))
    (case mK36_10 =>
      refine' G.MethAt.of ?a ?i ?l ?c ?k
      (case a => k_is)
      (case i => k_is)
      (case l => k_is)
      (case c => k_is)
      (case k => k_is))
    (case mK36_11 =>
      refine' G.MethAt.of ?a ?i ?l ?c ?k
      (case a => k_is)
      (case i => k_is)
      (case l => k_is)
      (case c => k_is)
      (case k => k_is))
    (case pS32_2 =>
      refine' G.PropAt.of ?a ?s ?t ?r ?l ?c ?k
      (case a => k_is)
      (case s => k_is)
      (case t => k_is)
      (case r => k_is)
      (case l => k_is)
      (case c => k_is)
      (case k => k_is))
    (case pK36_1 =>
      refine' G.PropAt.of ?a ?s ?t ?r ?l ?c ?k
      (case a => k_is)
      (case s => k_is)
      (case t => k_is)
      (case r => k_is)
      (case l => k_is)
      (case c => k_is)
      (case k => k_is))
    (case pK36_2 =>
      refine' G.PropAt.of ?a ?s ?t ?r ?l ?c ?k
      (case a => k_is)
      (case s => k_is)
      (case t => k_is)
      (case r => k_is)
      (case l => k_is)
      (case c => k_is)
      (case k => k_is))
    (case pK36_3 =>
      refine' G.PropAt.of ?a ?s ?t ?r ?l ?c ?k
      (case a => k_is)
      (case s => k_is)
      (case t => k_is)
      (case r => k_is)
      (case l => k_is)
      (case c => k_is)
      (case k => k_is))
    (case pK36_4 =>
      refine' G.PropAt.of ?a ?s ?t ?r ?l ?c ?k
      (case a => k_is)
      (case s => k_is)
      (case t => k_is)
      (case r => k_is)
      (case l => k_is)
      (case c => k_is)
      (case k => k_is))
    (case b_isinstance => k_is)
    (case b_int => k_is)
    (case b_bool => k_is)
    (case b_str => k_is)
    (case b_list => k_is)
    (case b_tuple => k_is)
    (case b_len => k_is)
    (case b_all => k_is)
    (case b_enumerate => k_is)
    (case b_range => k_is)
    (case b_min => k_is)
    (case b_max => k_is)
    (case b_abs => k_is)
    (case b_sum => k_is)
    (case b_zip => k_is)
    (case b_sorted => k_is)
    (case b_KeyError => k_is)
    (case gL =>
      refine' G.ex_tok ?a
      (case a => k_is))
    (case gN =>
      refine' G.ex_tok ?a
      (case a => k_is))
    (case gK =>
      refine' G.ex_tok ?a
      (case a => k_is))
    (case iS =>
      refine' ⟨?a, ?b, ?c, ?d, ?e⟩
      (case a => k_is)
      (case b => k_is)
      (case c => k_is)
      (case d => k_is)
      (case e => exact G.kit_self))
    (case sf => k_is)
    (case sn => k_is)
    (case so => k_is)
    (case fF =>
      refine' G.FailAt.of ?a ?l ?c ?k ?m ?v ?n
      (case a => k_is)
      (case l => k_is)
      (case c => k_is)
      (case k => k_is)
      (case m => k_is)
      (case v => rfl)
      (case n => kernel_rfl))
#print axioms PySem.Challenge.cw_glancelogs_k46_whole_keepers_and_logs_holds
