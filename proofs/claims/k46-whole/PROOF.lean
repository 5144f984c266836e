import PyProof.Rows.All
import Wide.All
import OpenK.AllK
import Wide.FinOn
import KE.KStateDown
import KE.GoesEnum
import HandS.ForMost
import HandS.Codes
import HandS.ClsMeth
import HandS.Star
import HandS.Wide
import HandS.IsInst
import HandS.TupAny
import HandS.Style
import HandS.CallLocal
import HandS.Walk
import HandS.Head0
import HandS.Head1
import HandS.Head2
import HandS.HeadEnd
import HandS.HeadHook1
import HandS.HeadHook2
import HandS.HeadHook3
import HandS.HeadNt
import PySem.Challenge.RW_shortheld_k46_whole_there_and_back
set_option Elab.async false
set_option linter.all false
set_option maxRecDepth 100000
set_option maxHeartbeats 2000000
/-! rules that the layer lacks -/
namespace Sh
open PySem PySem.Spec PyProof.Rows L2
section
variable {X : Cx} {a b c d e : Expr} {ta tb tc td te : TE} {pos : Pos}
theorem pe_no : PE X e (fun _ _ _ => False) := ⟨fun _ _ _ _ _ _ h => h.elim⟩
/-- a op1 b op2 c op3 d, as a test -/
def tChain3 (r r' r'' : R2) (ta tb tc td : TE) : TE := fun σ H Q => ta σ H fun x H1 => tb σ H1 fun y H2 => r x y H2 fun z H3 => ∃ k, z = .bl k ∧
  (if k = true then tc σ H3 fun y' H4 => r' y y' H4 fun z' H5 => ∃ k', z' = .bl k' ∧ (if k' = true then td σ H5 fun w' H6 => r'' y' w' H6 Q else Q (.bl false) H5) else Q (.bl false) H3)
theorem pt_chain3 {op op' op'' : CmpOp} {r r' r'' : R2} (ho : OpR X (compareOp op) r) (ho' : OpR X (compareOp op') r') (ho'' : OpR X (compareOp op'') r'') (ha : PE X a ta) (hb : PE X b tb) (hc : PE X c tc) (hd : PE X d td)
    (hm : lastMarks [op, op', op''] [b, c, d] = false := by with_unfolding_all rfl) : PT X (.Compare a [op, op', op''] [b, c, d] pos) (tTest (tChain3 r r' r'' ta tb tc td)) := by
  refine ⟨fun pins s σ H Q I h => ?_⟩
  refine isTrue_chain (thn (ha.run pins s σ H _ I h) fun v s1 ⟨x, H1, I1, r1, q1⟩ => test_link (thn (hb.run pins s1 σ H1 _ I1 q1) fun u s2 ⟨y, H2, I2, r2, q2⟩ =>
    thn (ho pins s2 σ H2 x y v u _ I2 r1 r2 q2) fun d s3 ⟨z, H3, I3, r3, k, e, q3⟩ => ?_)) hm
  subst e
  cases r3
  refine wpAny_truthy_bool ?_
  cases k with
  | false =>
    obtain ⟨k', e', q'⟩ := q3
    cases e'
    exact ite_ff ⟨H3, I3, q'⟩
  | true =>
    refine ite_tt (test_link (thn (hc.run pins s3 σ H3 _ I3 q3) fun w' s4 ⟨z', H4, I4, r4, q4⟩ => thn (ho' pins s4 σ H4 y z' u w' _ I4 r2 r4 q4) fun d' s5 ⟨z2, H5, I5, r5, k2, e2, q5⟩ => ?_))
    subst e2
    cases r5
    refine wpAny_truthy_bool ?_
    cases k2 with
    | false =>
      obtain ⟨k', e', q'⟩ := q5
      cases e'
      exact ite_ff ⟨H5, I5, q'⟩
    | true =>
      refine ite_tt (test_last (thn (hd.run pins s5 σ H5 _ I5 q5) fun w3 s6 ⟨z3, H6, I6, r6, q6⟩ => thn (ho'' pins s6 σ H6 z' z3 w' w3 _ I6 r4 r6 q6) fun d3 s7 ⟨z4, H7, I7, r7, k3, e3, q7⟩ => ?_))
      subst e3
      cases r7
      exact wpAny_truthy_bool ⟨H7, I7, q7⟩

/-- text[::-1] -/
def tRevS (te : TE) : TE := fun σ H Q => te σ H fun x H1 => ∃ z : List Nat, x = .str (SX.S z) ∧ z.length ≤ sizeLine ∧ Q (.str (SX.S z.reverse)) H1
theorem revS_ix (n : Nat) : Builtin.Str.strSliceIndices none none (-1) n = (List.range n).map fun k => n - 1 - k := PySem.W.krv_sliceRange n
theorem revS_pick (z : List Nat) : ((Builtin.Str.strSliceIndices none none (-1) (SX.S z).length).filterMap ((SX.S z).cps[·]?)) = z.reverse := by
  rw [revS_ix, SX.S_len, PySem.W.krv_range, List.filterMap_reverse]
  have e : (List.range z.length).filterMap ((SX.S z).cps[·]?) = z := by
    apply List.ext_getElem?
    intro i
    have e2 : ∀ k, (List.range k).filterMap ((SX.S z).cps[·]?) = z.take k := by
      intro k
      induction k with
      | zero => simp
      | succ k ih =>
        rw [List.range_succ, List.filterMap_append, ih, List.take_add_one]
        congr 1
        show List.filterMap _ [k] = _
        rw [List.filterMap_cons, List.filterMap_nil]
        have e3 : (SX.S z).cps[k]? = z[k]? := by simp [SX.S]
        rw [e3]
        cases z[k]? <;> rfl
    rw [e2, List.take_length]
  rw [e]
theorem pe_revS {k : Nat} {p1 p2 p3 : Pos} (he : PE X e te) : PE X (.Subscript e (.Slice none none (some (.UnaryOp .USub (.Constant (.int 1) k p1) p2)) p3) pos) (tRevS te) := by
  refine ⟨fun pins s σ H Q I h => ?_⟩
  refine Subscript_ (thn (he.run pins s σ H _ I h) fun v s1 ⟨x, H1, I1, r1, q1⟩ => ?_)
  obtain ⟨z, ex, hz, q⟩ := q1
  subst ex
  obtain ⟨t, rfl⟩ := r1
  have hst : PO X (some (.UnaryOp .USub (.Constant (.int 1) k p1) p2)) (tPart (tUn (rU fun i => .int (-i)) (tC (.int 1)))) := po_some (pe_un un_neg pe_int)
  refine wpAny_Slice (thn (po_none.run pins s1 σ H1 (fun o H2 => o = none ∧ H2 = H1) I1 ⟨rfl, rfl⟩) fun vl s2 ⟨l, H2, I2, pl, el, e2⟩ => ?_)
  subst el e2
  refine thn (po_none.run pins s2 σ H2 (fun o H3 => o = none ∧ H3 = H2) I2 ⟨rfl, rfl⟩) fun vu s3 ⟨u, H3, I3, pu, eu, e3⟩ => ?_
  subst eu e3
  refine thn (hst.run pins s3 σ H3 (fun o H4 => o = some (-1) ∧ H4 = H3) I3 ⟨1, rfl, -1, rfl, rfl, rfl⟩) fun vs s4 ⟨o, H4, I4, ps, eo, e4⟩ => ?_
  subst eo e4
  have I5 : Inv X pins σ H4 { s4 with heap := s4.heap.push { cls := .type "slice", data := .fields #[vl, vu, vs] } } := I4.kept (t' := s4.toks) fun b ob q => Heap.get?_push_of_some _ q
  obtain ⟨pl0, rfl, epl⟩ := IsPart.raw pl
  obtain ⟨pu0, rfl, epu⟩ := IsPart.raw pu
  obtain ⟨ps0, rfl, eps⟩ := IsPart.raw ps
  have e1 : pl0 = none := by cases pl0 with | none => rfl | some y => cases epl
  have e2 : pu0 = none := by cases pu0 with | none => rfl | some y => cases epu
  subst e1 e2
  show wpAny (model X.prog X.w) X.A (subscriptTail e (.Slice none none (some (.UnaryOp .USub (.Constant (.int 1) k p1) p2)) p3) (.str (SX.S z) t) (.ref s4.heap.objs.size)) (EP X pins σ Q) X.xe { s4 with heap := s4.heap.push { cls := .type "slice", data := .fields #[partValue none, partValue none, partValue ps0] } }
  refine tail_any (ops := [.str (SX.S z) t, .ref s4.heap.objs.size]) (typeIs_str _ _ _) (F.slot_str_getitem.lookup) ?_ (by with_unfolding_all rfl)
  have es : (ps0.map (·.1)).getD 1 = -1 := by rw [eps]; rfl
  refine wpAny_getItem_str_slice (l := none) (u := none) (st := ps0) ⟨_, Heap.get?_push_size _ rfl, rfl, rfl⟩ (by rw [es]; rfl) ?_
  unfold sliceMade
  rw [es, if_neg (by rw [show ((-1 : Int) == 1) = false from rfl, Bool.false_and]; exact Bool.false_ne_true)]
  have ep : slicePicked (SX.S z) none none ps0 = Builtin.Str.strSliceIndices none none (-1) (SX.S z).length := by
    unfold slicePicked
    rw [es]; rfl
  rw [ep, revS_pick]
  exact ⟨by rw [SX.S_len, List.length_reverse]; exact hz, .str _, H4, I5.tok _, ⟨_, rfl⟩, q⟩

/-- text * n -/
theorem op_mulS : OpR X (binaryOp .Mult) (fun x y H Q => ∃ (z : List Nat) (k : Nat), x = .str (SX.S z) ∧ y = .int (k : Int) ∧ k < 2 ^ 40 ∧ z.length * k ≤ 100000 ∧ Q (.str (SX.S (List.replicate k z).flatten)) H) := by
  intro pins s σ H x y v u Q I rx ry h
  obtain ⟨z, k, rfl, rfl, hk, hz, q⟩ := h
  obtain ⟨t, rfl⟩ := rx
  obtain ⟨t', rfl⟩ := ry
  have fold : ∀ (m : Nat) (acc : List Nat), ((List.replicate m (SX.S z).cps).foldl (· ++ ·) acc.toArray) = (acc ++ (List.replicate m z).flatten).toArray := by
    intro m
    induction m with
    | zero => intro acc; simp
    | succ m ih =>
      intro acc
      rw [List.replicate_succ, List.foldl_cons]
      have e : acc.toArray ++ (SX.S z).cps = (acc ++ z).toArray := by simp [SX.S]
      rw [e, ih, List.replicate_succ, List.flatten_cons, List.append_assoc]
  have len : (List.replicate k z).flatten.length = k * z.length := by
    rw [List.length_flatten, List.map_replicate, List.sum_replicate_nat]
  have hz' : k * z.length ≤ 100000 := by rw [Nat.mul_comm]; exact hz
  refine P.mul_str ?_ ?_ ?_ ?_
  · have h1 : ¬ ((k : Int) < -(2 ^ 63 : Int)) := by omega
    have h2 : ¬ ((k : Int) ≥ 2 ^ 63) := by omega
    rw [decide_eq_false h1, decide_eq_false h2]; rfl
  · intro h1 _ h3
    rw [SX.S_len] at h3
    have hk0 : (0 : Int) < k := by omega
    have e1 : ((z.length * k : Nat) : Int) ≤ 100000 := by omega
    rw [Int.natCast_mul] at e1
    have e2 : (2 ^ 63 - 1) / (k : Int) < (z.length : Int) := h3
    have e3 := (Int.ediv_lt_iff_lt_mul hk0).mp e2
    omega
  · intro _ _
    unfold Builtin.Str.tooLong
    rw [SX.S_len, Int.toNat_natCast]
    have := show (100000 : Nat) < sizeLine by decide
    exact decide_eq_false (by omega)
  · by_cases h1 : (k : Int) < 1
    · have e0 : k = 0 := by omega
      subst e0
      rw [if_pos h1]
      exact ⟨by decide, .str _, H, I.tok _, ⟨_, rfl⟩, q⟩
    · rw [if_neg h1]
      by_cases h2 : ((k : Int) == 1 || (SX.S z).length == 0) = true
      · rw [if_pos h2]
        have e : (List.replicate k z).flatten = z := by
          rw [Bool.or_eq_true, beq_iff_eq, beq_iff_eq, SX.S_len] at h2
          rcases h2 with h2 | h2
          · have : k = 1 := by omega
            subst this
            simp
          · have : z = [] := List.length_eq_zero_iff.mp h2
            subst this
            simp
        rw [e] at q
        exact ⟨.str (SX.S z), H, I, ⟨t, rfl⟩, q⟩
      · rw [if_neg h2, Int.toNat_natCast]
        have e := fold k []
        rw [List.nil_append] at e
        have e' : (List.replicate k (SX.S z).cps).foldl (· ++ ·) #[] = ((List.replicate k z).flatten).toArray := e
        rw [e']
        refine ⟨?_, .str _, H, I.tok _, ⟨_, rfl⟩, q⟩
        show (SX.S _).length ≤ sizeLine
        rw [SX.S_len, len]
        have := show (100000 : Nat) < sizeLine by decide
        omega
end

/-! ### enumerate of a tuple -/
set_option maxHeartbeats 4000000 in
theorem meets_enumerate_newB1 {v : Value} {o : Obj} {Hh : Heap → Prop} (B : Begins v o Hh) :
    Meets (Builtin.«enumerate.__new__» ⟨[.type "enumerate", v], []⟩) (fun _ R s => Hh s.heap ∧
      R (.ok (.ret (.ref (s.heap.push o).objs.size))) { s with heap := (s.heap.push o).push { cls := .type "enumerate", data := .fields #[.none, .bool false, .ref s.heap.objs.size, rawInt 0, .none, .none] } }) :=
  .of_wp fun prog w A R s h => by
    obtain ⟨hp, g, d, tk, os⟩ := s; obtain ⟨h1, h⟩ := h
    have hsub := sub_enumerate
    have q1 : ∀ {A' : Around} {E : Value → Shared → Prop} {Q : Value → Shared → Prop}, Q (.ref hp.objs.size) ⟨hp.push o, g, d, tk, os⟩ → wpAny (model prog w) A' (pyIter v) Q E ⟨hp, g, d, tk, os⟩ :=
      fun q => B.iter prog w _ _ ⟨hp, g, d, tk, os⟩ _ h1 q
    wp_walk using q1
    refine wpAny_stack_any fun st => wpAny_pure ?_
    split
    · rename_i c _ _ _ _ _
      cases (c == Value.type "enumerate")
      · wp_walk using q1
        exact ⟨_, rfl, h⟩
      · wp_walk using q1
        exact ⟨_, rfl, h⟩
    · wp_walk using q1
      exact ⟨_, rfl, h⟩
section
variable {prog : Program} {w : World} {A : Around} {E : Value → Shared → Prop} {s : Shared}
theorem enum_begins1 {v : Value} {o : Obj} {Hh : Heap → Prop} {Q : Value → Shared → Prop} (B : Begins v o Hh) (h1 : Hh s.heap)
    (h : ∀ h', IsEnum h' (s.heap.objs.size + 1) s.heap.objs.size 0 .none → h'.get? s.heap.objs.size = some o → h'.objs.size = s.heap.objs.size + 2 →
      (∀ b o, s.heap.get? b = some o → h'.get? b = some o) → Q (.ref (s.heap.objs.size + 1)) { s with heap := h' }) :
    wpAny (model prog w) A (call (.type "enumerate") [v]) Q E s := by
  refine callType_new F.called_enumerate (by decide) (F.typeCall_enumerate_1 _) (F.newCall_enumerate_1 _) (fun obj => F.args_object_init_2 obj _) F.entry_enumerate_new
    (meets_enumerate_newB1 B) ⟨h1, ?_⟩
  have hz : (s.heap.push o).objs.size = s.heap.objs.size + 1 := Heap.size_push ..
  show _ ∧ _
  rw [hz]
  have he : IsEnum ((s.heap.push o).push { cls := .type "enumerate", data := .fields #[.none, .bool false, .ref s.heap.objs.size, rawInt 0, .none, .none] }) (s.heap.objs.size + 1) s.heap.objs.size 0 .none := by
    have := Heap.get?_push_size (s.heap.push o) (o := { cls := .type "enumerate", data := .fields #[.none, .bool false, .ref s.heap.objs.size, rawInt 0, .none, .none] }) rfl
    rw [hz] at this; exact this
  refine ⟨⟨_, he, rfl⟩, h _ he (Heap.get?_push_of_some _ (Heap.get?_push_size _ B.free)) (by rw [Heap.size_push, hz]) fun b o x => Heap.get?_push_of_some _ (Heap.get?_push_of_some _ x)⟩
end
/-- the tuple at a, each item in a new pair -/
def Itet (a : Addr) : It :=
  ⟨fun i H => ∃ (xs : List V) (x : V), H a = some (.tup xs) ∧ xs[i]? = some x, fun i H v H' => ∃ T x, v = .ref T ∧ H T = none ∧ H' = upd H T (.tup [.int (i : Nat), x]) ∧ ∀ xs, H a = some (.tup xs) → xs[i]? = some x, fun i H => ∃ xs : List V, H a = some (.tup xs) ∧ xs.length = i⟩
theorem turn_enumT {P : Program} {w : World} {K : PySem.W.Frag} {elts : List Expr} {kk : Nat} {tpos : Pos} (a e it : Addr) :
    Turn P w K (.Tuple elts kk tpos) (Itet a) [e, it] e (fun i h => (∃ old, IsEnum h e it ((i : Nat) : Int) old) ∧ h.IsTupleIter it a i ∧ e ≠ it) where
  mem := by simp
  obj := fun i h st b hb => by
    obtain ⟨⟨old, he⟩, ⟨o, ho, hc, hd⟩, _⟩ := st
    have e' : b = e ∨ b = it := by simpa using hb
    rcases e' with z | z
    · rw [z]; exact ⟨_, he, fun v q => nomatch q⟩
    · rw [z]; exact ⟨o, ho, fun v q => by rw [hd] at q; cases q⟩
  keep := fun i h h' st k => let ⟨⟨old, he⟩, hi, hne⟩ := st; ⟨⟨old, k e (by simp) _ he⟩, hi.at fun o q => k it (by simp) o q, hne⟩
  item := by
    intro X hP hw hK hc i pins s σ H E I hf st hg
    subst hP hw hK
    obtain ⟨⟨old, he⟩, hit, hne⟩ := st
    obtain ⟨xs, x, hq, hx⟩ := hg
    obtain ⟨its, rv, p, hz⟩ := I.tuple (SqT.of hq)
    obtain ⟨u, hu, ru⟩ := rv.get hx
    have hel : e < s.heap.objs.size := Heap.lt_size he
    have hil : it < s.heap.objs.size := by obtain ⟨_, q, _⟩ := hit; exact Heap.lt_size q
    have hei : H e = none := (hf e (by simp)).1
    have hii : H it = none := (hf it (by simp)).1
    have hae : a ≠ e := ne_of_none hq hei
    have hai : a ≠ it := ne_of_none hq hii
    have D : Draws X.prog X.w X.A.in1 it [it, a] its.toArray.size (fun i v => its.toArray[i]? = some v) (fun i h => h.IsTupleIter it a i ∧ h.IsTuple a its.toArray) := Draws.tuple (A := X.A.in1) (show X.A.in1.handled = none from I.ok.hd hc) it a hai its.toArray
    have hlt : i < its.toArray.size := by
      have := (List.getElem?_eq_some_iff.mp hu).1
      rw [List.size_toArray]; exact this
    refine wpAny_pyNext_enum_itemC D he ⟨hit, p⟩ hlt hne (by simp [hne, hae.symm]) fun x' h' tk hP ho hst' hT hsz hk => ?_
    have ex : x' = u := by
      have h2 : its[i]? = some x' := by simpa using hP
      exact Option.some.inj (h2.symm.trans hu)
    subst ex
    obtain ⟨hit', _⟩ := hst'
    refine ⟨_, rfl, wpAny_letOwnedTupleGo_enum (s := { s with heap := h', toks := tk + 1 }) ho fun h'' he' sb => ?_⟩
    have hT2 : h''.get? s.heap.objs.size = some { cls := .type "tuple", data := .seq #[.int i tk, x'] } := (sb.2 _ (Nat.ne_of_gt hel)).trans hT
    have new : ObjOk X.prog X.w (upd H s.heap.objs.size (.tup [.int (i : Nat), x])) h'' s.heap.objs.size (.tup [.int (i : Nat), x]) :=
      ⟨by show 2 ≤ sizeLine; decide, [.int i tk, x'], .cons ⟨_, rfl⟩ (.cons ru .nil), ⟨_, hT2, rfl, _, rfl⟩⟩
    have I1 : L2.Inv X pins σ (upd H s.heap.objs.size (.tup [.int (i : Nat), x])) { s with heap := h'', toks := tk + 1 } :=
      I.turnedNew (ch := [e, it]) (fun b ob hb q => (sb.2 b (fun z => hb (by simp [z]))).trans (hk b ob (fun z => hb (by simp [z])) (fun z => hb (by simp [z])) q)) hf (Nat.le_refl _) new
    refine ⟨.ref s.heap.objs.size, _, I1, rfl, ⟨_, x, rfl, I.hok.fresh (Nat.le_refl _), rfl, fun ys hy => by rw [hq] at hy; cases hy; exact hx⟩, ⟨⟨x', ?_⟩, hit'.at fun o q => (sb.2 it (Ne.symm hne)).trans q, hne⟩, fun b hb => ?_⟩
    · have e1 : ((i + 1 : Nat) : Int) = (i : Int) + 1 := by omega
      rw [e1]; exact he'
    · have hb' : b < s.heap.objs.size := by
        have e' : b = e ∨ b = it := by simpa using hb
        rcases e' with z | z
        · rw [z]; exact hel
        · rw [z]; exact hil
      rw [upd_ne (Nat.ne_of_lt hb')]
      exact (hf b hb).1
  done := by
    intro X hP hw hK hc i pins s σ H E I hf st hg
    subst hP hw hK
    obtain ⟨⟨old, he⟩, hit, hne⟩ := st
    obtain ⟨xs, hq, hx⟩ := hg
    obtain ⟨its, rv, p, hz⟩ := I.tuple (SqT.of hq)
    obtain ⟨f0, f1, f2, f3, f4, f5⟩ := hf it (by simp)
    have hl := rv.length
    have hai : a ≠ it := ne_of_none hq f0
    have D : Draws X.prog X.w X.A.in1 it [it, a] its.toArray.size (fun i v => its.toArray[i]? = some v) (fun i h => h.IsTupleIter it a i ∧ h.IsTuple a its.toArray) := Draws.tuple (A := X.A.in1) (show X.A.in1.handled = none from I.ok.hd hc) it a hai its.toArray
    have en : i = its.toArray.size := by rw [List.size_toArray]; omega
    subst en
    exact wpAny_pyNext_enum_endD D he ⟨hit, p⟩ fun h' eb => ⟨rfl, I.turned (t' := s.toks) (fun b o hb q => eb b o hb q) f0 f1 f3 f4 f5⟩
  self := fun A i s Q E st h => let ⟨⟨_, he⟩, _⟩ := st; wpAny_pyIter_enum he h
def iEnumT (ta : TA) : TI := fun σ H R => ta σ H fun vs H1 => ∃ a xs, vs = [.ref a] ∧ H1 a = some (.tup xs) ∧ R (Itet a) H1
theorem pi_enumT {X : Cx} {e : Expr} {ta : TA} {p pos tpos : Pos} {elts : List Expr} {kk : Nat} (hg : Gl X "enumerate") (hm : X.mg "enumerate" = none) (ha : PA X [e] ta) (hs : starEach [e] X.env = [(false, eval e X.env)] := by rfl) :
    PI X (.Tuple elts kk tpos) (.Call (.Name "enumerate" p) [e] [] pos) (iEnumT ta) := by
  refine ⟨fun pins s σ H R I h => ?_⟩
  refine Call_ (ld_blt I hg hm boot_enumerate (PyProof.Rows.callWith_type1 (thn (ha.run pos pins s σ H _ I h) fun us s1 ⟨vs, H1, I1, r1, q1⟩ => ?_) hs rfl))
  obtain ⟨a, xs, ex, hq, q⟩ := q1
  subst ex
  cases r1 with
  | cons r rr =>
    cases rr
    cases r
    obtain ⟨its, rv, p', hz⟩ := I1.tuple (SqT.of hq)
    refine enum_begins1 (begins_tuple a its.toArray) p' fun h' he hit hsz hk => wpAny_pyIter_enum he ?_
    have I2 : L2.Inv X pins σ H1 { s1 with heap := h' } := I1.kept (t' := s1.toks) hk
    refine ⟨s1.heap.objs.size + 1, [s1.heap.objs.size + 1, s1.heap.objs.size], _, _, H1, rfl, I2, turn_enumT a (s1.heap.objs.size + 1) s1.heap.objs.size, ⟨⟨.none, he⟩, ⟨_, hit, rfl, rfl⟩, Nat.succ_ne_self _⟩, fun b hb => ?_, q⟩
    have e' : b = s1.heap.objs.size + 1 ∨ b = s1.heap.objs.size := by simpa using hb
    have hle : s1.heap.objs.size ≤ b := by
      rcases e' with z | z
      · rw [z]; exact Nat.le_add_right _ _
      · rw [z]; exact Nat.le_refl _
    exact I1.fpOk hle (I1.hok.fresh hle)
end Sh
set_option Elab.async false
set_option linter.all false
set_option maxRecDepth 100000
/-! the mathematics: rules, what they make, changes -/
namespace Sh
/-- letters by their codes -/
abbrev L := List Nat
/-- the most letters of a text -/
abbrev MX : Nat := 1000000000000
inductive Ru where
  | lt (s : L)
  | jn (i j : Nat)
  | pw (i k : Nat)
  | pt (i a b : Nat)
  | bk (i : Nat)
def Ru.den (ds : List L) : Ru → L
  | .lt s => s
  | .jn i j => ds.getD i [] ++ ds.getD j []
  | .pw i k => (List.replicate k (ds.getD i [])).flatten
  | .pt i a b => ((ds.getD i []).drop a).take (b - a)
  | .bk i => (ds.getD i []).reverse
/-- a letter's code -/
def isL (c : Nat) : Bool := decide (32 ≤ c) && (decide (c ≤ 126) && !decide (c = 37))
/-- right as the rule with the number n, behind rules that make ds (more of them may follow) -/
def Ru.ok (n : Nat) (ds : List L) (r : Ru) : Prop := (r.den ds).length ≤ MX ∧ match r with
  | .lt s => s.length ≤ 64 ∧ s.all isL = true
  | .jn i j => i < n ∧ j < n
  | .pw i k => i < n ∧ k ≤ MX
  | .pt i a b => i < n ∧ a ≤ b ∧ b ≤ (ds.getD i []).length
  | .bk i => i < n
def Ru.sh (n : Nat) : Ru → Ru
  | .lt s => .lt s
  | .jn i j => .jn (i + n) (j + n)
  | .pw i k => .pw (i + n) k
  | .pt i a b => .pt (i + n) a b
  | .bk i => .bk (i + n)
/-- rules rs are right and make ds -/
structure Dn (rs : List Ru) (ds : List L) : Prop where
  len : rs.length = ds.length
  at_ : ∀ (i : Nat) (r : Ru), rs[i]? = some r → r.ok i ds ∧ ds[i]? = some (r.den ds)
theorem gD {ds : List L} {i : Nat} {x : L} (h : ds[i]? = some x) : ds.getD i [] = x := by
  rw [List.getD_eq_getElem?_getD, h]; rfl
theorem gDL {ds es : List L} {i : Nat} (h : i < ds.length) : (ds ++ es).getD i [] = ds.getD i [] := by
  rw [List.getD_eq_getElem?_getD, List.getD_eq_getElem?_getD, List.getElem?_append_left h]
theorem gDR {ds es : List L} {i n : Nat} (h : es.length = n) : (es ++ ds).getD (i + n) [] = ds.getD i [] := by
  rw [List.getD_eq_getElem?_getD, List.getD_eq_getElem?_getD, List.getElem?_append_right (by omega)]
  congr 2
  omega
theorem Ru.den_app {r : Ru} {n : Nat} {ds es : List L} (h : r.ok n ds) (hn : n ≤ ds.length) : r.den (ds ++ es) = r.den ds := by
  obtain ⟨_, h⟩ := h
  cases r with
  | lt s => rfl
  | jn i j =>
    obtain ⟨h1, h2⟩ := h
    show (ds ++ es).getD i [] ++ (ds ++ es).getD j [] = ds.getD i [] ++ ds.getD j []
    rw [gDL (by omega), gDL (by omega)]
  | pw i k =>
    obtain ⟨h1, h2⟩ := h
    show (List.replicate k ((ds ++ es).getD i [])).flatten = (List.replicate k (ds.getD i [])).flatten
    rw [gDL (by omega)]
  | pt i a b =>
    obtain ⟨h1, h2, h3⟩ := h
    show (((ds ++ es).getD i []).drop a).take (b - a) = ((ds.getD i []).drop a).take (b - a)
    rw [gDL (by omega)]
  | bk i =>
    have h : i < n := h
    show ((ds ++ es).getD i []).reverse = (ds.getD i []).reverse
    rw [gDL (by omega)]
theorem Ru.ok_app {r : Ru} {n : Nat} {ds es : List L} (h : r.ok n ds) (hn : n ≤ ds.length) : r.ok n (ds ++ es) := by
  have e := Ru.den_app (es := es) h hn
  obtain ⟨h0, h⟩ := h
  refine ⟨by rw [e]; exact h0, ?_⟩
  cases r with
  | pt i a b =>
    obtain ⟨h1, h2, h3⟩ := h
    exact ⟨h1, h2, by rw [gDL (by omega)]; exact h3⟩
  | _ => exact h
theorem Dn.nil : Dn [] [] := ⟨rfl, fun i r h => by simp at h⟩
theorem Dn.snoc {rs : List Ru} {ds : List L} {r : Ru} (d : Dn rs ds) (h : r.ok ds.length ds) : Dn (rs ++ [r]) (ds ++ [r.den ds]) := by
  refine ⟨by simp [d.len], fun i q hq => ?_⟩
  by_cases hi : i < rs.length
  · rw [List.getElem?_append_left hi] at hq
    obtain ⟨h1, h2⟩ := d.at_ i q hq
    have hn : i ≤ ds.length := by have := d.len; omega
    refine ⟨Ru.ok_app h1 hn, ?_⟩
    rw [Ru.den_app h1 hn, List.getElem?_append_left (by have := d.len; omega)]
    exact h2
  · have hi2 : i = rs.length := by
      have h1 := (List.getElem?_eq_some_iff.mp hq).1
      rw [List.length_append, List.length_singleton] at h1
      omega
    subst hi2
    rw [List.getElem?_append_right (Nat.le_refl _), Nat.sub_self] at hq
    have e : r = q := Option.some.inj hq
    subst e
    have hl := d.len
    rw [hl]
    refine ⟨Ru.ok_app h (Nat.le_refl _), ?_⟩
    rw [Ru.den_app h (Nat.le_refl _), List.getElem?_append_right (Nat.le_refl _), Nat.sub_self]
    rfl
theorem Ru.sh_den {r : Ru} {n : Nat} {ds es : List L} (h : es.length = n) : (r.sh n).den (es ++ ds) = r.den ds := by
  cases r with
  | lt s => rfl
  | jn i j =>
    show (es ++ ds).getD (i + n) [] ++ (es ++ ds).getD (j + n) [] = ds.getD i [] ++ ds.getD j []
    rw [gDR h, gDR h]
  | pw i k =>
    show (List.replicate k ((es ++ ds).getD (i + n) [])).flatten = (List.replicate k (ds.getD i [])).flatten
    rw [gDR h]
  | pt i a b =>
    show (((es ++ ds).getD (i + n) []).drop a).take (b - a) = ((ds.getD i []).drop a).take (b - a)
    rw [gDR h]
  | bk i =>
    show ((es ++ ds).getD (i + n) []).reverse = (ds.getD i []).reverse
    rw [gDR h]
theorem Ru.sh_ok {r : Ru} {n m : Nat} {ds es : List L} (h : es.length = n) (k : r.ok m ds) : (r.sh n).ok (n + m) (es ++ ds) := by
  obtain ⟨k0, k⟩ := k
  refine ⟨by rw [Ru.sh_den h]; exact k0, ?_⟩
  cases r with
  | lt s => exact k
  | jn i j => exact ⟨by have := k.1; omega, by have := k.2; omega⟩
  | pw i q => exact ⟨by have := k.1; omega, k.2⟩
  | pt i a b => exact ⟨by have := k.1; omega, k.2.1, by rw [gDR h]; exact k.2.2⟩
  | bk i =>
    have k : i < m := k
    show i + n < n + m
    omega
/-- the denotation of the rule with the number i, from those ahead of it alone -/
theorem Dn.take {rs : List Ru} {ds : List L} (d : Dn rs ds) {i : Nat} {r : Ru} (h : rs[i]? = some r) : r.ok i (ds.take i) ∧ ds[i]? = some (r.den (ds.take i)) := by
  obtain ⟨h1, h2⟩ := d.at_ i r h
  have hi : i < ds.length := by
    have := (List.getElem?_eq_some_iff.mp h).1
    have := d.len
    omega
  have hl : (ds.take i).length = i := by rw [List.length_take]; omega
  have gt : ∀ j, j < i → (ds.take i).getD j [] = ds.getD j [] := fun j hj => by
    rw [List.getD_eq_getElem?_getD, List.getD_eq_getElem?_getD, List.getElem?_take_of_lt hj]
  have e : r.den (ds.take i) = r.den ds := by
    obtain ⟨_, h1⟩ := h1
    cases r with
    | lt s => rfl
    | jn a b =>
      show (ds.take i).getD a [] ++ (ds.take i).getD b [] = ds.getD a [] ++ ds.getD b []
      rw [gt _ h1.1, gt _ h1.2]
    | pw a k =>
      show (List.replicate k ((ds.take i).getD a [])).flatten = (List.replicate k (ds.getD a [])).flatten
      rw [gt _ h1.1]
    | pt a b c =>
      show (((ds.take i).getD a []).drop b).take (c - b) = ((ds.getD a []).drop b).take (c - b)
      rw [gt _ h1.1]
    | bk a =>
      have h1 : a < i := h1
      show ((ds.take i).getD a []).reverse = (ds.getD a []).reverse
      rw [gt _ h1]
  refine ⟨⟨by rw [e]; exact h1.1, ?_⟩, by rw [e]; exact h2⟩
  obtain ⟨_, h1⟩ := h1
  cases r with
  | pt a b c => exact ⟨h1.1, h1.2.1, by rw [gt _ h1.1]; exact h1.2.2⟩
  | _ => exact h1
theorem Dn.shift {rs rs' : List Ru} {ds ds' : List L} (d : Dn rs ds) (d' : Dn rs' ds') {k : Nat} {r : Ru} (e : Dn (rs ++ (rs'.take k).map (Ru.sh ds.length)) (ds ++ ds'.take k)) (h : rs'[k]? = some r) :
    (r.sh ds.length).ok (ds ++ ds'.take k).length (ds ++ ds'.take k) ∧ (r.sh ds.length).den (ds ++ ds'.take k) = r.den (ds'.take k) ∧ ds'[k]? = some (r.den (ds'.take k)) := by
  obtain ⟨h1, h2⟩ := d'.take h
  have hk : k < ds'.length := (List.getElem?_eq_some_iff.mp h2).1
  have hl : (ds ++ ds'.take k).length = ds.length + k := by rw [List.length_append, List.length_take]; omega
  rw [hl]
  exact ⟨Ru.sh_ok rfl h1, Ru.sh_den rfl, h2⟩
/-! ### lengths -/
theorem flat_rep (k : Nat) (x : L) : (List.replicate k x).flatten.length = k * x.length := by
  rw [List.length_flatten, List.map_replicate, List.sum_replicate_nat]
theorem Ru.den_len (ds : List L) (r : Ru) : (r.den ds).length = match r with
    | .lt s => s.length
    | .jn i j => (ds.getD i []).length + (ds.getD j []).length
    | .pw i k => (ds.getD i []).length * k
    | .pt i a b => min (b - a) ((ds.getD i []).length - a)
    | .bk i => (ds.getD i []).length := by
  cases r with
  | lt s => rfl
  | jn i j => exact List.length_append
  | pw i k => exact (flat_rep k _).trans (Nat.mul_comm _ _)
  | pt i a b =>
    show (((ds.getD i []).drop a).take (b - a)).length = _
    rw [List.length_take, List.length_drop]
  | bk i => exact List.length_reverse
/-! ### a letter of a power, of a text turned round; parts -/
theorem flat_get : ∀ (k : Nat) (x : L) (p : Nat), p < k * x.length → (List.replicate k x).flatten[p]? = x[p % x.length]?
  | 0, x, p, h => by simp at h
  | k + 1, x, p, h => by
    rw [List.replicate_succ, List.flatten_cons]
    by_cases hp : p < x.length
    · rw [List.getElem?_append_left hp, Nat.mod_eq_of_lt hp]
    · have hx : x.length ≤ p := by omega
      rw [List.getElem?_append_right hx, flat_get k x (p - x.length) (by rw [Nat.succ_mul] at h; omega)]
      congr 1
      rw [Nat.mod_eq_sub_mod hx]
theorem flat_drop : ∀ (k j : Nat) (x : L), j ≤ k → (List.replicate k x).flatten.drop (j * x.length) = (List.replicate (k - j) x).flatten
  | k, 0, x, _ => by simp
  | 0, j + 1, x, h => by omega
  | k + 1, j + 1, x, h => by
    rw [List.replicate_succ, List.flatten_cons, Nat.succ_mul, Nat.add_comm, List.drop_append, Nat.add_sub_cancel_left, List.drop_eq_nil_of_le (by omega), List.nil_append, flat_drop k j x (by omega)]
    congr 2
    omega
/-- the letters from a up to b -/
def cutL (d : L) (a b : Nat) : L := (d.drop a).take (b - a)
theorem cutL_len {d : L} {a b : Nat} (h1 : a ≤ b) (h2 : b ≤ d.length) : (cutL d a b).length = b - a := by
  unfold cutL
  rw [List.length_take, List.length_drop]
  omega
theorem cutL_cat {d : L} {a b c : Nat} (h1 : a ≤ b) (h2 : b ≤ c) : cutL d a b ++ cutL d b c = cutL d a c := by
  unfold cutL
  have e : c - a = (b - a) + (c - b) := by omega
  rw [e, List.take_add, List.drop_drop]
  congr 3
  omega
theorem cutL_self (d : L) (a : Nat) : cutL d a a = [] := by
  unfold cutL
  rw [Nat.sub_self, List.take_zero]
theorem cutL_all (d : L) : cutL d 0 d.length = d := by
  unfold cutL
  rw [List.drop_zero, Nat.sub_zero, List.take_length]
theorem cutL_app1 {x y : L} {a b : Nat} (h : b ≤ x.length) : cutL (x ++ y) a b = cutL x a b := by
  unfold cutL
  by_cases ha : a ≤ x.length
  · rw [List.drop_append_of_le_length ha, List.take_append_of_le_length (by rw [List.length_drop]; omega)]
  · have e : b - a = 0 := by omega
    rw [e, List.take_zero, List.take_zero]
theorem cutL_app2 {x y : L} {a b : Nat} (h : x.length ≤ a) : cutL (x ++ y) a b = cutL y (a - x.length) (b - x.length) := by
  unfold cutL
  rw [List.drop_append, List.drop_eq_nil_of_le h, List.nil_append]
  congr 1
  omega
theorem cutL_cut {d : L} {s t a b : Nat} (h : b ≤ t - s) : cutL (cutL d s t) a b = cutL d (a + s) (b + s) := by
  unfold cutL
  rw [List.drop_take, List.take_take, List.drop_drop]
  have e1 : min (b - a) (t - s - a) = b - a := by omega
  have e2 : b + s - (a + s) = b - a := by omega
  rw [e1, e2, Nat.add_comm s a]
theorem cutL_rev {d : L} {a b : Nat} (h1 : a ≤ b) (h2 : b ≤ d.length) : cutL d.reverse a b = (cutL d (d.length - b) (d.length - a)).reverse := by
  unfold cutL
  rw [List.drop_reverse, List.take_reverse, List.length_take]
  congr 1
  rw [List.drop_take]
  have e1 : min (d.length - a) d.length - (b - a) = d.length - b := by omega
  have e2 : d.length - a - (min (d.length - a) d.length - (b - a)) = d.length - a - (d.length - b) := by omega
  rw [e2, e1]
theorem cutL_flat {x : L} {k n a b : Nat} (hn : n < k) (h2 : b ≤ x.length) : cutL (List.replicate k x).flatten (n * x.length + a) (n * x.length + b) = cutL x a b := by
  have e : cutL (List.replicate k x).flatten (n * x.length + a) (n * x.length + b) = cutL ((List.replicate k x).flatten.drop (n * x.length)) a b := by
    unfold cutL
    rw [List.drop_drop]
    congr 1
    omega
  rw [e, flat_drop k n x (by omega)]
  obtain ⟨m, hm⟩ : ∃ m, k - n = m + 1 := ⟨k - n - 1, by omega⟩
  rw [hm, List.replicate_succ, List.flatten_cons, cutL_app1 h2]
end Sh
set_option Elab.async false
set_option linter.all false
set_option maxRecDepth 100000
set_option maxHeartbeats 2000000
/-! the text by places; facts of the top; calls; what stands in the heap -/
namespace Sh
open PySem PySem.Spec PyProof.Rows L2
def topS (i : Nat) : Stmt := PySem.Challenge.pw_shortheld_k46_whole_there_and_back.main.body.getD i (.Pass ⟨0, 0, 0, 0⟩)
abbrev sRl : Stmt := topS 32
theorem scRl : FnScope ["rule", "lengths", "word"] ["rule", "lengths"] (defScope sRl) := ⟨rfl, rfl, rfl, by decide +kernel, rfl, by decide +kernel, by decide +kernel⟩
abbrev sEa : Stmt := topS 33
theorem scEa : FnScope ["rule"] ["rule"] (defScope sEa) := ⟨rfl, rfl, rfl, by decide +kernel, rfl, by decide +kernel, by decide +kernel⟩
abbrev sFa : Stmt := topS 34
theorem scFa : FnScope ["rule", "lengths", "word", "is_allowed", "letter", "number"] ["rule", "lengths"] (defScope sFa) := ⟨rfl, rfl, rfl, by decide +kernel, rfl, by decide +kernel, by decide +kernel⟩
abbrev sLo : Stmt := topS 35
theorem scLo : FnScope ["rules", "lengths", "rule"] ["rules"] (defScope sLo) := ⟨rfl, rfl, rfl, by decide +kernel, rfl, by decide +kernel, by decide +kernel⟩
abbrev sCr : Stmt := topS 36
theorem scCr : FnScope ["rules", "lengths", "number", "rule", "reason"] ["rules"] (defScope sCr) := ⟨rfl, rfl, rfl, by decide +kernel, rfl, by decide +kernel, by decide +kernel⟩
abbrev sIp : Stmt := topS 37
theorem scIp : FnScope ["rule", "lengths", "place", "word", "first", "many"] ["rule", "lengths", "place"] (defScope sIp) := ⟨rfl, rfl, rfl, by decide +kernel, rfl, by decide +kernel, by decide +kernel⟩
abbrev sIb : Stmt := topS 38
theorem scIb : FnScope ["rule", "lengths", "start", "stop", "word", "inner", "many", "found", "number", "first"] ["rule", "lengths", "start", "stop"] (defScope sIb) := ⟨rfl, rfl, rfl, by decide +kernel, rfl, by decide +kernel, by decide +kernel⟩
abbrev sTi : Stmt := inClass (topS 39) 0
theorem scTi : FnScope ["self", "rules", "rule"] ["self", "rules"] (defScope sTi) := ⟨rfl, rfl, rfl, by decide +kernel, rfl, by decide +kernel, by decide +kernel⟩
abbrev sTm : Stmt := inClass (topS 39) 1
theorem scTm : FnScope ["cls", "rules", "text"] ["cls", "rules"] (defScope sTm) := ⟨rfl, rfl, rfl, by decide +kernel, rfl, by decide +kernel, by decide +kernel⟩
abbrev sTo : Stmt := inClass (topS 39) 2
theorem scTo : FnScope ["cls", "letters"] ["cls", "letters"] (defScope sTo) := ⟨rfl, rfl, rfl, by decide +kernel, rfl, by decide +kernel, by decide +kernel⟩
abbrev sTl : Stmt := inClass (topS 39) 3
theorem scTl : FnScope ["self", "place", "rule", "number"] ["self", "place"] (defScope sTl) := ⟨rfl, rfl, rfl, by decide +kernel, rfl, by decide +kernel, by decide +kernel⟩
abbrev sTc : Stmt := inClass (topS 39) 4
theorem scTc : FnScope ["self", "start", "stop"] ["self", "start", "stop"] (defScope sTc) := ⟨rfl, rfl, rfl, by decide +kernel, rfl, by decide +kernel, by decide +kernel⟩
abbrev sTs : Stmt := inClass (topS 39) 5
theorem scTs : FnScope ["self", "start", "stop", "found", "waiting", "number", "first", "last", "is_turned", "rule", "letters", "parts", "inner", "low", "high", "turns"] ["self", "start", "stop"] (defScope sTs) := ⟨rfl, rfl, rfl, by decide +kernel, rfl, by decide +kernel, by decide +kernel⟩
abbrev sMr : Stmt := topS 43
theorem scMr : FnScope ["rule", "many"] ["rule", "many"] (defScope sMr) := ⟨rfl, rfl, rfl, by decide +kernel, rfl, by decide +kernel, by decide +kernel⟩
abbrev sBi : Stmt := inClass (topS 44) 0
theorem scBi : FnScope ["self"] ["self"] (defScope sBi) := ⟨rfl, rfl, rfl, by decide +kernel, rfl, by decide +kernel, by decide +kernel⟩
abbrev sBa : Stmt := inClass (topS 44) 1
theorem scBa : FnScope ["self", "rule", "length"] ["self", "rule", "length"] (defScope sBa) := ⟨rfl, rfl, rfl, by decide +kernel, rfl, by decide +kernel, by decide +kernel⟩
abbrev sBt : Stmt := inClass (topS 44) 2
theorem scBt : FnScope ["self", "text", "many", "number", "rule"] ["self", "text"] (defScope sBt) := ⟨rfl, rfl, rfl, by decide +kernel, rfl, by decide +kernel, by decide +kernel⟩
abbrev sBp : Stmt := inClass (topS 44) 3
theorem scBp : FnScope ["self", "rule", "start", "stop"] ["self", "rule", "start", "stop"] (defScope sBp) := ⟨rfl, rfl, rfl, by decide +kernel, rfl, by decide +kernel, by decide +kernel⟩
abbrev sBj : Stmt := inClass (topS 44) 4
theorem scBj : FnScope ["self", "first", "second"] ["self", "first", "second"] (defScope sBj) := ⟨rfl, rfl, rfl, by decide +kernel, rfl, by decide +kernel, by decide +kernel⟩
abbrev sBr : Stmt := inClass (topS 44) 5
theorem scBr : FnScope ["self", "numbers", "last", "number"] ["self", "numbers"] (defScope sBr) := ⟨rfl, rfl, rfl, by decide +kernel, rfl, by decide +kernel, by decide +kernel⟩
abbrev sSe : Stmt := topS 46
theorem scSe : FnScope ["rules", "text"] ["rules"] (defScope sSe) := ⟨rfl, rfl, rfl, by decide +kernel, rfl, by decide +kernel, by decide +kernel⟩
abbrev sCs : Stmt := topS 47
theorem scCs : FnScope ["length"] ["length"] (defScope sCs) := ⟨rfl, rfl, rfl, by decide +kernel, rfl, by decide +kernel, by decide +kernel⟩
abbrev sCp : Stmt := topS 48
theorem scCp : FnScope ["place", "length"] ["place", "length"] (defScope sCp) := ⟨rfl, rfl, rfl, by decide +kernel, rfl, by decide +kernel, by decide +kernel⟩
abbrev sCt : Stmt := topS 49
theorem scCt : FnScope ["times"] ["times"] (defScope sCt) := ⟨rfl, rfl, rfl, by decide +kernel, rfl, by decide +kernel, by decide +kernel⟩
abbrev sRp : Stmt := topS 50
theorem scRp : FnScope ["text", "start", "stop", "other", "builder", "whole", "put"] ["text", "start", "stop", "other"] (defScope sRp) := ⟨rfl, rfl, rfl, by decide +kernel, rfl, by decide +kernel, by decide +kernel⟩
abbrev sIa : Stmt := topS 51
theorem scIa : FnScope ["text", "place", "other"] ["text", "place", "other"] (defScope sIa) := ⟨rfl, rfl, rfl, by decide +kernel, rfl, by decide +kernel, by decide +kernel⟩
abbrev sRm : Stmt := topS 52
theorem scRm : FnScope ["text", "start", "stop", "builder", "whole"] ["text", "start", "stop"] (defScope sRm) := ⟨rfl, rfl, rfl, by decide +kernel, rfl, by decide +kernel, by decide +kernel⟩
abbrev sPo : Stmt := topS 53
theorem scPo : FnScope ["text", "start", "stop", "builder"] ["text", "start", "stop"] (defScope sPo) := ⟨rfl, rfl, rfl, by decide +kernel, rfl, by decide +kernel, by decide +kernel⟩
abbrev sMp : Stmt := topS 54
theorem scMp : FnScope ["text", "start", "stop", "place", "size", "builder", "whole", "part", "left"] ["text", "start", "stop", "place"] (defScope sMp) := ⟨rfl, rfl, rfl, by decide +kernel, rfl, by decide +kernel, by decide +kernel⟩
abbrev sTp : Stmt := topS 55
theorem scTp : FnScope ["text", "start", "stop", "builder", "whole", "turned"] ["text", "start", "stop"] (defScope sTp) := ⟨rfl, rfl, rfl, by decide +kernel, rfl, by decide +kernel, by decide +kernel⟩
abbrev sRe : Stmt := topS 56
theorem scRe : FnScope ["text", "start", "stop", "times", "many", "builder", "whole", "power"] ["text", "start", "stop", "times"] (defScope sRe) := ⟨rfl, rfl, rfl, by decide +kernel, rfl, by decide +kernel, by decide +kernel⟩
abbrev sIs : Stmt := topS 58
theorem scIs : FnScope ["phrase", "length", "spelled", "_", "number", "start", "many"] ["phrase", "length", "spelled"] (defScope sIs) := ⟨rfl, rfl, rfl, by decide +kernel, rfl, by decide +kernel, by decide +kernel⟩
abbrev sCh : Stmt := topS 59
theorem scCh : FnScope ["text", "phrases", "spelled", "number", "phrase"] ["text", "phrases"] (defScope sCh) := ⟨rfl, rfl, rfl, by decide +kernel, rfl, by decide +kernel, by decide +kernel⟩
abbrev sSp : Stmt := topS 60
theorem scSp : FnScope ["text", "spelled", "phrases", "builder", "whole", "last", "phrase", "put"] ["text", "spelled", "phrases"] (defScope sSp) := ⟨rfl, rfl, rfl, by decide +kernel, rfl, by decide +kernel, by decide +kernel⟩
abbrev sAp : Stmt := topS 61
theorem scAp : FnScope ["text", "phrases", "spelled", "start"] ["text", "phrases"] (defScope sAp) := ⟨rfl, rfl, rfl, by decide +kernel, rfl, by decide +kernel, by decide +kernel⟩
abbrev sLp : Stmt := topS 63
theorem scLp : FnScope ["_law_script", "_law_cell"] ["_law_script"] (defScope sLp) := ⟨rfl, rfl, rfl, by decide +kernel, rfl, by decide +kernel, by decide +kernel⟩
abbrev sLt : Stmt := topS 64
theorem scLt : FnScope ["_law_pool_here", "_law_many", "_law_digit", "_law_cell", "_law_mixed"] ["_law_pool_here", "_law_many"] (defScope sLt) := ⟨rfl, rfl, rfl, by decide +kernel, rfl, by decide +kernel, by decide +kernel⟩
abbrev sLw : Stmt := topS 65
theorem scLw : FnScope ["_law_pool_here", "_law_signs", "_law_kind", "_law_many", "_law_row", "_law_k"] ["_law_pool_here"] (defScope sLw) := ⟨rfl, rfl, rfl, by decide +kernel, rfl, by decide +kernel, by decide +kernel⟩
abbrev sLn : Stmt := topS 66
theorem scLn : FnScope ["_law_pool_here", "_law_many"] ["_law_pool_here", "_law_many"] (defScope sLn) := ⟨rfl, rfl, rfl, by decide +kernel, rfl, by decide +kernel, by decide +kernel⟩
abbrev sLx : Stmt := topS 67
theorem scLx : FnScope ["_law_pool_here", "_law_texts", "_law_most", "_law_kind", "_law_first", "_law_size", "_law_second", "_law_times", "_law_start"] ["_law_pool_here", "_law_texts", "_law_most"] (defScope sLx) := ⟨rfl, rfl, rfl, by decide +kernel, rfl, by decide +kernel, by decide +kernel⟩
abbrev sLm : Stmt := topS 68
theorem scLm : FnScope ["_law_texts", "_law_rule"] ["_law_texts", "_law_rule"] (defScope sLm) := ⟨rfl, rfl, rfl, by decide +kernel, rfl, by decide +kernel, by decide +kernel⟩
abbrev sLr : Stmt := topS 69
theorem scLr : FnScope ["_law_pool_here", "_law_most", "_law_rules_here", "_law_texts", "_law_k", "_law_rule"] ["_law_pool_here", "_law_most"] (defScope sLr) := ⟨rfl, rfl, rfl, by decide +kernel, rfl, by decide +kernel, by decide +kernel⟩
abbrev sLg : Stmt := topS 70
theorem scLg : FnScope ["_law_pool_here", "_law_base", "_law_times"] ["_law_pool_here"] (defScope sLg) := ⟨rfl, rfl, rfl, by decide +kernel, rfl, by decide +kernel, by decide +kernel⟩
abbrev sLi : Stmt := topS 71
theorem scLi : FnScope ["_law_actual"] ["_law_actual"] (defScope sLi) := ⟨rfl, rfl, rfl, by decide +kernel, rfl, by decide +kernel, by decide +kernel⟩
abbrev sLs : Stmt := topS 72
theorem scLs : FnScope ["_law_actual", "_law_due", "_law_k"] ["_law_actual", "_law_due"] (defScope sLs) := ⟨rfl, rfl, rfl, by decide +kernel, rfl, by decide +kernel, by decide +kernel⟩
abbrev sLa : Stmt := topS 73
theorem scLa : FnScope ["_law_pool_here", "_law_one", "_law_other", "_law_length", "_law_places", "_law_k", "_law_place", "_law_far"] ["_law_pool_here", "_law_one", "_law_other"] (defScope sLa) := ⟨rfl, rfl, rfl, by decide +kernel, rfl, by decide +kernel, by decide +kernel⟩
abbrev sLz : Stmt := topS 74
theorem scLz : FnScope ["_law_script", "_law_pool_here", "_law_text", "_law_other", "_law_size", "_law_start", "_law_stop", "_law_place", "_law_part", "_law_left", "_law_pairs", "_law_moved", "_law_phrases", "_law_one", "_law_two"] ["_law_script"] (defScope sLz) := ⟨rfl, rfl, rfl, by decide +kernel, rfl, by decide +kernel, by decide +kernel⟩
/-! ### facts of the top -/
/-- the def x of the module; the method m of the class at C; its classmethod -/
structure Df (K : PySem.W.Frag) (mg : Str → Option Value) (x : Str) (st : Stmt) : Prop where
  ex : ∃ f fd, mg x = some (.ref f) ∧ Fun K x x st f fd
structure Dm (K : PySem.W.Frag) (C : Addr) (m q : Str) (st : Stmt) : Prop where
  ex : ∃ f fd, Meth K C m f ∧ Fun K m q st f fd
structure Dk (K : PySem.W.Frag) (C : Addr) (q : Str) (st : Stmt) : Prop where
  ex : ∃ f fd, Mk K C f ∧ Fun K "__init__" q st f fd
structure Dc (K : PySem.W.Frag) (C : Addr) (m q : Str) (st : Stmt) : Prop where
  ex : ∃ p g fd, ClX.CMet K C (.type "type") m p g ∧ Fun K m q st g fd
/-- .. with the promise that it keeps -/
structure Fc (P : Program) (w : World) (K : PySem.W.Frag) (mg : Str → Option Value) (base : Heap) (k : Nat) (x : Str) (ps : List Str) (sp : Sp) : Prop where
  ex : ∃ f fd, mg x = some (.ref f) ∧ PySem.W.keepIn K (.ref f) = true ∧ Binds K fd ps [] ∧ FnOk P w K mg base CX0 k f fd ps sp
structure Fm (P : Program) (w : World) (K : PySem.W.Frag) (mg : Str → Option Value) (base : Heap) (k : Nat) (C : Addr) (m : Str) (ps : List Str) (sp : Sp) : Prop where
  ex : ∃ f fd, Meth K C m f ∧ Binds K fd ps [] ∧ FnOk P w K mg base CX0 k f fd ps sp
structure Fk (P : Program) (w : World) (K : PySem.W.Frag) (mg : Str → Option Value) (base : Heap) (k : Nat) (x : Str) (C : Addr) (ps : List Str) (sp : Sp) : Prop where
  ex : ∃ f fd, mg x = some (.ref C) ∧ Mk K C f ∧ Binds K fd ps [] ∧ FnOk P w K mg base CX0 k f fd ps sp
structure Fcm (P : Program) (w : World) (K : PySem.W.Frag) (mg : Str → Option Value) (base : Heap) (k : Nat) (x : Str) (C : Addr) (m : Str) (ps : List Str) (sp : Sp) : Prop where
  ex : ∃ p g fd, mg x = some (.ref C) ∧ ClX.CRead K C (.type "type") ∧ ClX.CMet K C (.type "type") m p g ∧ Binds K fd ps [] ∧ FnOk P w K mg base CX0 k g fd ps sp
/-- how a def without defaults binds -/
def Bnd (x q : Str) (st : Stmt) (ps : List Str) : Prop := ∀ (kV doc pm : Value) (an : Option Addr) (cdv ct : Value) (us : List Value), us.length = ps.length → bindArgs (PySem.W.fnOf x q (defArgs st) (defBody st) (defScope st) .none kV doc pm an cdv ct) ⟨us, []⟩ = pure (ps.zip us)
/-- a def's body reads to its promise -/
def Bod (P : Program) (w : World) (K : PySem.W.Frag) (mg : Str → Option Value) (base : Heap) (N : List Str) (q : Str) (st : Stmt) (k : Nat) (sp : Sp) : Prop :=
  ∀ (f : Addr) (cdv : Value) (A : Around) (outer : List Env) (s : Shared) (H : Hp) (vs : List V) (Q : VK) (E : XK), Room k (A.deeper (envOfC q (defScope st) s.heap.objs.size f cdv)) → sp vs H Q E →
    ∃ t, PSs (cxOf CX0 P w K mg base N q (defScope st) f cdv A outer s H E).nox (defBody st) t ∧ t { nx := fun _ H' => Q .non H', rt := Q } (start N vs) H
section
variable {P : Program} {w : World} {K : PySem.W.Frag} {mg : Str → Option Value} {base : Heap} {k : Nat} {x m q : Str} {C : Addr} {st : Stmt} {N ps : List Str} {sp : Sp}
theorem fc_of (D : Df K mg x st) (b : Bnd x x st ps) (S : FnScope N ps (defScope st)) (len : ∀ vs H Q E, sp vs H Q E → vs.length = ps.length) (h : Bod P w K mg base N x st k sp) : Fc P w K mg base (k + 1) x ps sp := by
  obtain ⟨f, fd, hm, F⟩ := D.ex
  exact ⟨f, fd, hm, F.kp, F.binds b, F.ok S len fun cdv A outer s H vs Q E hr hs => h f cdv A outer s H vs Q E hr hs⟩
theorem fm_of (D : Dm K C m q st) (b : Bnd m q st ps) (S : FnScope N ps (defScope st)) (len : ∀ vs H Q E, sp vs H Q E → vs.length = ps.length) (h : Bod P w K mg base N q st k sp) : Fm P w K mg base (k + 1) C m ps sp := by
  obtain ⟨f, fd, hm, F⟩ := D.ex
  exact ⟨f, fd, hm, F.binds b, F.ok S len fun cdv A outer s H vs Q E hr hs => h f cdv A outer s H vs Q E hr hs⟩
theorem fk_of (D : Dk K C q st) (hx : mg x = some (.ref C)) (b : Bnd "__init__" q st ps) (S : FnScope N ps (defScope st)) (len : ∀ vs H Q E, sp vs H Q E → vs.length = ps.length) (h : Bod P w K mg base N q st k sp) : Fk P w K mg base (k + 1) x C ps sp := by
  obtain ⟨f, fd, hm, F⟩ := D.ex
  exact ⟨f, fd, hx, hm, F.binds b, F.ok S len fun cdv A outer s H vs Q E hr hs => h f cdv A outer s H vs Q E hr hs⟩
theorem fcm_of (D : Dc K C m q st) (hx : mg x = some (.ref C)) (hr : ClX.CRead K C (.type "type")) (b : Bnd m q st ps) (S : FnScope N ps (defScope st)) (len : ∀ vs H Q E, sp vs H Q E → vs.length = ps.length) (h : Bod P w K mg base N q st k sp) : Fcm P w K mg base (k + 1) x C m ps sp := by
  obtain ⟨p, g, fd, hm, F⟩ := D.ex
  exact ⟨p, g, fd, hx, hr, hm, F.binds b, F.ok S len fun cdv A outer s H vs Q E hr hs => h g cdv A outer s H vs Q E hr hs⟩
end
/-! ### calls -/
def tCl (sp : Sp) (t : TA) : TE := fun σ H Q => t σ H fun vs H1 => sp vs H1 Q E0
def tMl (C : Addr) (m : Str) (sp : Sp) (ta : TE) (t : TA) : TE := fun σ H Q => ta σ H fun x H1 => ∃ a dx fs, x = .ref a ∧ H1 a = some (.ins C dx fs) ∧ fs.lookup m = none ∧ t σ H1 fun vs H2 => sp (x :: vs) H2 Q E0
def tMk (C : Addr) (sp : Sp) (t : TA) : TE := fun σ H Q => t σ H fun vs H1 => ∀ x dx, H1 x = none → H1 dx = none → dx ≠ x → sp (.ref x :: vs) (upd (upd H1 dx (.own x)) x (.ins C dx [])) (fun v H2 => v = .non ∧ Q (.ref x) H2) E0
section
variable {X : Cx} {k i : Nat} {x m : Str} {C : Addr} {ps : List Str} {sp : Sp} {p pos apos : Pos} {e o : Expr} {es : List Expr} {t : TA} {ta : TE}
theorem pe_c (F : Fc X.prog X.w X.K X.mg X.base k x ps sp) (hr : Room k X.A) (ha : PA X (e :: es) t) (hg : Gl X x := by rfl) (hx : Passes CX0 X E0 := by exact pass0) (hdb : (x == ("__debug__" : Str)) = false := by decide)
    (he : starEach (e :: es) X.env = (false, eval e X.env) :: starEach es X.env := by rfl) (hpl : (backTo pos (starEach es X.env)).any (·.1) = false := by rfl) : PE X (.Call (.Name x p) (e :: es) [] pos) (tCl sp t) := by
  obtain ⟨f, fd, hm, hk, hb, hF⟩ := F.ex
  have z := pe_call (p := p) hF hr hg hm hk hb .nil hx ha hdb he hpl
  refine ⟨fun pins s σ H Q I h => z.run pins s σ H Q I ?_⟩
  show t σ H fun vs H1 => sp (vs ++ []) H1 Q E0
  simp only [List.append_nil]
  exact h
theorem pe_m {pl : Sem Bool} (ho : PE X o ta) (c : Cls X.K C) (F : Fm X.prog X.w X.K X.mg X.base k C m ps sp) (hr : Room k X.A) (ha : PA X (e :: es) t) (hx : Passes CX0 X E0 := by exact pass0)
    (hst : starEach (e :: es) X.env = (false, eval e X.env) :: starEach es X.env := by rfl) (hpl : (backTo pos (starEach es X.env)).any (·.1) = false := by rfl)
    (ht : eval (.Call (.Attribute o m apos) (e :: es) [] pos) X.env = (do
      let ov ← eval o X.env
      standAt apos.atName
      let (f, first) ← holding [ov] (getMethod ov m pl)
      callWith pos f first (backTo pos (starEach (e :: es) X.env)) (backToKw pos (keywordEach [] X.env))) := by rfl) : PE X (.Call (.Attribute o m apos) (e :: es) [] pos) (tMl C m sp ta t) := by
  obtain ⟨f, fd, hm, hb, hF⟩ := F.ex
  have z := pe_meth (pl := pl) (apos := apos) (pos := pos) ho c hm hF hr hb .nil hx ha hst hpl ht
  refine ⟨fun pins s σ H Q I h => z.run pins s σ H Q I ?_⟩
  have h1 : ta σ H fun x H1 => ∃ a dx fs, x = V.ref a ∧ H1 a = some (.ins C dx fs) ∧ fs.lookup m = none ∧ t σ H1 fun vs H2 => sp (x :: vs) H2 Q E0 := h
  show ta σ H fun x H1 => ∃ a dx fs, x = V.ref a ∧ H1 a = some (.ins C dx fs) ∧ fs.lookup m = none ∧ t σ H1 fun vs H2 => sp (x :: (vs ++ [])) H2 Q E0
  simp only [List.append_nil]
  exact h1
theorem pe_m0 {pl : Sem Bool} (ho : PE X o ta) (c : Cls X.K C) (F : Fm X.prog X.w X.K X.mg X.base k C m ps sp) (hr : Room k X.A) (hx : Passes CX0 X E0 := by exact pass0)
    (ht : eval (.Call (.Attribute o m apos) [] [] pos) X.env = (do
      let ov ← eval o X.env
      standAt apos.atName
      let (f, first) ← holding [ov] (getMethod ov m pl)
      callWith pos f first (backTo pos (starEach [] X.env)) (backToKw pos (keywordEach [] X.env))) := by rfl) : PE X (.Call (.Attribute o m apos) [] [] pos) (tMl C m sp ta tNil) := by
  obtain ⟨f, fd, hm, hb, hF⟩ := F.ex
  have z := pe_meth0 (pl := pl) (apos := apos) (pos := pos) ho c hm hF hr hb .nil hx ht
  refine ⟨fun pins s σ H Q I h => z.run pins s σ H Q I ?_⟩
  have h1 : ta σ H fun x H1 => ∃ a dx fs, x = V.ref a ∧ H1 a = some (.ins C dx fs) ∧ fs.lookup m = none ∧ tNil σ H1 fun vs H2 => sp (x :: vs) H2 Q E0 := h
  show ta σ H fun x H1 => ∃ a dx fs, x = V.ref a ∧ H1 a = some (.ins C dx fs) ∧ fs.lookup m = none ∧ tNil σ H1 fun vs H2 => sp (x :: (vs ++ [])) H2 Q E0
  simp only [List.append_nil]
  exact h1
theorem pe_mk (F : Fk X.prog X.w X.K X.mg X.base k x C ps sp) (hr : Room (k + 1) X.A) (ha : PA X (e :: es) t) (hg : Gl X x := by rfl) (hx : Passes CX0 X E0 := by exact pass0) (hdb : (x == ("__debug__" : Str)) = false := by decide)
    (he : starEach (e :: es) X.env = (false, eval e X.env) :: starEach es X.env := by rfl) (hpl : (backTo pos (starEach es X.env)).any (·.1) = false := by rfl) : PE X (.Call (.Name x p) (e :: es) [] pos) (tMk C sp t) := by
  obtain ⟨f, fd, hm, hk, hb, hF⟩ := F.ex
  have z := pe_make (p := p) hk hF hr hg hm hb .nil hx ha hdb he hpl
  refine ⟨fun pins s σ H Q I h => z.run pins s σ H Q I ?_⟩
  show t σ H fun vs H1 => ∀ x dx, H1 x = none → H1 dx = none → dx ≠ x → sp (.ref x :: (vs ++ [])) (upd (upd H1 dx (.own x)) x (.ins C dx [])) (fun v H2 => v = .non ∧ Q (.ref x) H2) E0
  simp only [List.append_nil]
  exact h
theorem pe_mk0 (F : Fk X.prog X.w X.K X.mg X.base k x C ps sp) (hr : Room (k + 1) X.A) (hg : Gl X x := by rfl) (hx : Passes CX0 X E0 := by exact pass0) (hdb : (x == ("__debug__" : Str)) = false := by decide) : PE X (.Call (.Name x p) [] [] pos) (tMk C sp tNil) := by
  obtain ⟨f, fd, hm, hk, hb, hF⟩ := F.ex
  have z := pe_make0 (p := p) (pos := pos) hk hF hr hg hm hb .nil hx hdb
  refine ⟨fun pins s σ H Q I h => z.run pins s σ H Q I ?_⟩
  show tNil σ H fun vs H1 => ∀ x dx, H1 x = none → H1 dx = none → dx ≠ x → sp (.ref x :: (vs ++ [])) (upd (upd H1 dx (.own x)) x (.ins C dx [])) (fun v H2 => v = .non ∧ Q (.ref x) H2) E0
  simp only [List.append_nil]
  exact h
/-- a class that stands in a slot -/
theorem pe_mkl {y : Str} (F : Fk X.prog X.w X.K X.mg X.base k x C ps sp) (hr : Room (k + 1) X.A) (ha : PA X (e :: es) t) (hN : X.N[i]? = some y := by rfl) (hv : Vis X.env.scope y := by first | exact Or.inl rfl | exact Or.inr (Or.inl rfl)) (hx : Passes CX0 X E0 := by exact pass0)
    (hdb : (y == ("__debug__" : Str)) = false := by decide) (hcd : (y == ("__classdict__" : Str)) = false := by decide)
    (he : starEach (e :: es) X.env = (false, eval e X.env) :: starEach es X.env := by rfl) (hpl : (backTo pos (starEach es X.env)).any (·.1) = false := by rfl) : PE X (.Call (.Name y p) (e :: es) [] pos) (fun σ H Q => σ[i]? = some (some (.ref C)) ∧ tMk C sp t σ H Q) := by
  obtain ⟨f, fd, hm, hk, hb, hF⟩ := F.ex
  refine ⟨fun pins s σ H Q I h => ?_⟩
  obtain ⟨hs, ht⟩ := h
  refine wpAny_Call_Name_kw (thn ((pe_var (pos := p) hN hv hdb hcd).run pins s σ H (fun v H1 => v = .ref C ∧ H1 = H) I ⟨.ref C, hs, rfl, rfl⟩) fun u s1 ⟨v, H1, I1, r1, q1⟩ => ?_)
  obtain ⟨rfl, rfl⟩ := q1
  cases r1
  have ht' : t σ H1 fun vs H1 => ∀ x dx, H1 x = none → H1 dx = none → dx ≠ x → sp (.ref x :: (vs ++ [])) (upd (upd H1 dx (.own x)) x (.ins C dx [])) (fun v H2 => v = .non ∧ Q (.ref x) H2) E0 := by
    simp only [List.append_nil]
    exact ht
  refine PySem.W.callWith_K (h₀ := X.base) I.ok.mod.kin hk.kp (thn (ha.run pos pins s1 σ _ _ I1 ht') fun us s2 ⟨vs, H2, I2, r, q⟩ => ⟨I2.kIn, ?_⟩) he hpl
  exact run_make hk hF hr hb .nil hx I2 r q
/-- C.m(e, ..), a classmethod -/
theorem pe_cm {p2 : Pos} {pl : Sem Bool} (F : Fcm X.prog X.w X.K X.mg X.base k x C m ps sp) (hr : Room k X.A) (ha : PA X (e :: es) t) (hg : Gl X x := by rfl) (hx : Passes CX0 X E0 := by exact pass0) (hdb : (x == ("__debug__" : Str)) = false := by decide)
    (hst : starEach (e :: es) X.env = (false, eval e X.env) :: starEach es X.env := by rfl) (hpl : (backTo pos (starEach es X.env)).any (·.1) = false := by rfl)
    (ht : eval (.Call (.Attribute (.Name x p2) m apos) (e :: es) [] pos) X.env = (do
      let ov ← eval (.Name x p2) X.env
      standAt apos.atName
      let (f, first) ← holding [ov] (getMethod ov m pl)
      callWith pos f first (backTo pos (starEach (e :: es) X.env)) (backToKw pos (keywordEach [] X.env))) := by rfl) : PE X (.Call (.Attribute (.Name x p2) m apos) (e :: es) [] pos) (fun σ H Q => t σ H fun vs H1 => sp (.ref C :: vs) H1 Q E0) := by
  obtain ⟨q, g, fd, hm, hc, hM, hb, hF⟩ := F.ex
  have R := FnOk.raw hF hb .nil
  have z := ClX.pe_cmeth (pl := pl) (E := E0) (apos := apos) (pos := pos) (pe_glob (v := V.ref C) (pos := p2) hg hm rfl hdb) hc hM R hr hx ha hst hpl ht
  refine ⟨fun pins s σ H Q I h => z.run pins s σ H Q I ?_⟩
  refine ⟨rfl, ?_⟩
  show t σ H fun vs H1 => sp (.ref C :: vs ++ []) H1 Q E0
  simp only [List.append_nil]
  exact h
theorem pe_gi {n : Int} (h : ∃ u, X.mg x = some (.int n u)) (hg : Gl X x := by rfl) (hdb : (x == ("__debug__" : Str)) = false := by decide) : PE X (.Name x pos) (tC (.int n)) := by
  obtain ⟨u, h⟩ := h
  exact pe_glob hg h ⟨u, rfl⟩ hdb
theorem pe_gs {n : Str} (h : ∃ u, X.mg x = some (.str n u)) (hg : Gl X x := by rfl) (hdb : (x == ("__debug__" : Str)) = false := by decide) : PE X (.Name x pos) (tC (.str n)) := by
  obtain ⟨u, h⟩ := h
  exact pe_glob hg h ⟨u, rfl⟩ hdb
end
/-- the letters, ascending -/
def letS : Str := " !\"#$&'()*+,-./0123456789:;<=>?@ABCDEFGHIJKLMNOPQRSTUVWXYZ[\\]^_`abcdefghijklmnopqrstuvwxyz{|}~"
/-- what of the top is asked: the class Text at C, Builder at D, the constants, the free names -/
structure Tx (w : World) (K : PySem.W.Frag) (mg : Str → Option Value) (C D S : Addr) : Prop where
  clT : Cls K C
  tR : NoAttr K C "rules"
  tL : NoAttr K C "lengths"
  tN : NoAttr K C "length"
  mgT : mg "Text" = some (.ref C)
  rdT : ClX.CRead K C (.type "type")
  clB : Cls K D
  bR : NoAttr K D "rules"
  bL : NoAttr K D "lengths"
  mgB : mg "Builder" = some (.ref D)
  MOST_RULES : ∃ u, mg "MOST_RULES" = some (.int 60 u)
  MOST_WRITTEN : ∃ u, mg "MOST_WRITTEN" = some (.int 64 u)
  MOST_LETTERS : ∃ u, mg "MOST_LETTERS" = some (.int 1000000000000 u)
  MOST_TOLD : ∃ u, mg "MOST_TOLD" = some (.int 1000 u)
  MOST_AT_ONCE : ∃ u, mg "MOST_AT_ONCE" = some (.int 10 u)
  LETTERS : ∃ u, mg "LETTERS" = some (.str letS u)
  mgS : mg "SIZES" = some (.ref S)
  kS : ∃ es n, KDict K w S es n
  vS : ∀ q ∈ ([("letters", 2), ("join", 3), ("power", 3), ("part", 4), ("back", 2)] : List (Str × Int)), ∃ u, PySem.W.nsIn K S q.1 = some (some u) ∧ RelV (.int q.2) u
  len_ : mg "len" = none
  all_ : mg "all" = none
  tuple_ : mg "tuple" = none
  enumerate_ : mg "enumerate" = none
  range_ : mg "range" = none
  max_ : mg "max" = none
  min_ : mg "min" = none
  int_ : mg "int" = none
  isinstance_ : mg "isinstance" = none
  list_ : mg "list" = none
  bool_ : mg "bool" = none
  str_ : mg "str" = none
end Sh
set_option Elab.async false
set_option linter.all false
set_option maxRecDepth 100000
set_option maxHeartbeats 0
/-! the head: the run of the top, and the facts that it leaves -/
namespace Sh
open PySem PySem.Spec PyProof.Rows L2
def fa0 : List He.Fa := [.cls "Text", .noat "Text" "rules", .noat "Text" "lengths", .noat "Text" "length", .glo "Text", .cls "Builder", .noat "Builder" "rules", .noat "Builder" "lengths", .glo "Builder", .int "MOST_RULES" 60, .int "MOST_WRITTEN" 64, .int "MOST_LETTERS" 1000000000000, .int "MOST_TOLD" 1000, .int "MOST_AT_ONCE" 10, .str "LETTERS" letS, .glo "SIZES", .free "len", .free "all", .free "tuple", .free "enumerate", .free "range", .free "max", .free "min", .free "int", .free "isinstance"]
def fa1 : List He.Fa := [.free "list", .free "bool", .free "str", .mkr "Text", .mkr "Builder", .meth "Text" "letter", .meth "Text" "check_part", .meth "Text" "letters", .meth "Builder" "add", .meth "Builder" "text", .meth "Builder" "part", .meth "Builder" "join", .meth "Builder" "row", .glo "rule_length", .glo "earlier", .glo "fault", .glo "lengths_of", .glo "check_rules", .glo "inner_place", .glo "inner_parts", .glo "moved_rule", .glo "settled", .glo "check_size", .glo "check_place", .glo "check_times"]
def fa2 : List He.Fa := [.glo "replace_part", .glo "insert_at", .glo "remove_part", .glo "part_of", .glo "move_part", .glo "turn_part", .glo "repeat_part", .glo "is_spelling", .glo "check_phrases", .glo "spelled_on", .glo "apply_phrases", .glo "_law_pool", .glo "_law_take", .glo "_law_written", .glo "_law_number", .glo "_law_next", .glo "_law_made", .glo "_law_rules", .glo "_law_great", .glo "_law_is_integer", .glo "_law_same", .glo "_law_alike", .glo "law"]
def fa : List He.Fa := fa0 ++ fa1 ++ fa2
def fn0 : List He5.DefA := [⟨fun K => He.ga K "rule_length", "rule_length", "rule_length", defArgs sRl, defBody sRl, defScope sRl, [], []⟩,
  ⟨fun K => He.ga K "earlier", "earlier", "earlier", defArgs sEa, defBody sEa, defScope sEa, [], []⟩,
  ⟨fun K => He.ga K "fault", "fault", "fault", defArgs sFa, defBody sFa, defScope sFa, [], []⟩,
  ⟨fun K => He.ga K "lengths_of", "lengths_of", "lengths_of", defArgs sLo, defBody sLo, defScope sLo, [], []⟩,
  ⟨fun K => He.ga K "check_rules", "check_rules", "check_rules", defArgs sCr, defBody sCr, defScope sCr, [], []⟩,
  ⟨fun K => He.ga K "inner_place", "inner_place", "inner_place", defArgs sIp, defBody sIp, defScope sIp, [], []⟩,
  ⟨fun K => He.ga K "inner_parts", "inner_parts", "inner_parts", defArgs sIb, defBody sIb, defScope sIb, [], []⟩,
  ⟨fun K => He.ga K "moved_rule", "moved_rule", "moved_rule", defArgs sMr, defBody sMr, defScope sMr, [], []⟩,
  ⟨fun K => He.ga K "settled", "settled", "settled", defArgs sSe, defBody sSe, defScope sSe, [], []⟩,
  ⟨fun K => He.ga K "check_size", "check_size", "check_size", defArgs sCs, defBody sCs, defScope sCs, [], []⟩,
  ⟨fun K => He.ga K "check_place", "check_place", "check_place", defArgs sCp, defBody sCp, defScope sCp, [], []⟩,
  ⟨fun K => He.ga K "check_times", "check_times", "check_times", defArgs sCt, defBody sCt, defScope sCt, [], []⟩,
  ⟨fun K => He.ga K "replace_part", "replace_part", "replace_part", defArgs sRp, defBody sRp, defScope sRp, [], []⟩,
  ⟨fun K => He.ga K "insert_at", "insert_at", "insert_at", defArgs sIa, defBody sIa, defScope sIa, [], []⟩,
  ⟨fun K => He.ga K "remove_part", "remove_part", "remove_part", defArgs sRm, defBody sRm, defScope sRm, [], []⟩]
def fn1 : List He5.DefA := [⟨fun K => He.ga K "part_of", "part_of", "part_of", defArgs sPo, defBody sPo, defScope sPo, [], []⟩,
  ⟨fun K => He.ga K "move_part", "move_part", "move_part", defArgs sMp, defBody sMp, defScope sMp, [], []⟩,
  ⟨fun K => He.ga K "turn_part", "turn_part", "turn_part", defArgs sTp, defBody sTp, defScope sTp, [], []⟩,
  ⟨fun K => He.ga K "repeat_part", "repeat_part", "repeat_part", defArgs sRe, defBody sRe, defScope sRe, [], []⟩,
  ⟨fun K => He.ga K "is_spelling", "is_spelling", "is_spelling", defArgs sIs, defBody sIs, defScope sIs, [], []⟩,
  ⟨fun K => He.ga K "check_phrases", "check_phrases", "check_phrases", defArgs sCh, defBody sCh, defScope sCh, [], []⟩,
  ⟨fun K => He.ga K "spelled_on", "spelled_on", "spelled_on", defArgs sSp, defBody sSp, defScope sSp, [], []⟩,
  ⟨fun K => He.ga K "apply_phrases", "apply_phrases", "apply_phrases", defArgs sAp, defBody sAp, defScope sAp, [], []⟩,
  ⟨fun K => He.ga K "_law_pool", "_law_pool", "_law_pool", defArgs sLp, defBody sLp, defScope sLp, [], []⟩,
  ⟨fun K => He.ga K "_law_take", "_law_take", "_law_take", defArgs sLt, defBody sLt, defScope sLt, [], []⟩,
  ⟨fun K => He.ga K "_law_written", "_law_written", "_law_written", defArgs sLw, defBody sLw, defScope sLw, [], []⟩,
  ⟨fun K => He.ga K "_law_number", "_law_number", "_law_number", defArgs sLn, defBody sLn, defScope sLn, [], []⟩,
  ⟨fun K => He.ga K "_law_next", "_law_next", "_law_next", defArgs sLx, defBody sLx, defScope sLx, [], []⟩,
  ⟨fun K => He.ga K "_law_made", "_law_made", "_law_made", defArgs sLm, defBody sLm, defScope sLm, [], []⟩,
  ⟨fun K => He.ga K "_law_rules", "_law_rules", "_law_rules", defArgs sLr, defBody sLr, defScope sLr, [], []⟩]
def fn2 : List He5.DefA := [⟨fun K => He.ga K "_law_great", "_law_great", "_law_great", defArgs sLg, defBody sLg, defScope sLg, [], []⟩,
  ⟨fun K => He.ga K "_law_is_integer", "_law_is_integer", "_law_is_integer", defArgs sLi, defBody sLi, defScope sLi, [], []⟩,
  ⟨fun K => He.ga K "_law_same", "_law_same", "_law_same", defArgs sLs, defBody sLs, defScope sLs, [], []⟩,
  ⟨fun K => He.ga K "_law_alike", "_law_alike", "_law_alike", defArgs sLa, defBody sLa, defScope sLa, [], []⟩,
  ⟨fun K => He.ga K "law", "law", "law", defArgs sLz, defBody sLz, defScope sLz, [], []⟩,
  ⟨fun K => He.ma K (He.ga K "Text") "letter", "letter", "Text.letter", defArgs sTl, defBody sTl, defScope sTl, [], []⟩,
  ⟨fun K => He.ma K (He.ga K "Text") "check_part", "check_part", "Text.check_part", defArgs sTc, defBody sTc, defScope sTc, [], []⟩,
  ⟨fun K => He.ma K (He.ga K "Text") "letters", "letters", "Text.letters", defArgs sTs, defBody sTs, defScope sTs, [], []⟩,
  ⟨fun K => He.ma K (He.ga K "Builder") "add", "add", "Builder.add", defArgs sBa, defBody sBa, defScope sBa, [], []⟩,
  ⟨fun K => He.ma K (He.ga K "Builder") "text", "text", "Builder.text", defArgs sBt, defBody sBt, defScope sBt, [], []⟩,
  ⟨fun K => He.ma K (He.ga K "Builder") "part", "part", "Builder.part", defArgs sBp, defBody sBp, defScope sBp, [], []⟩,
  ⟨fun K => He.ma K (He.ga K "Builder") "join", "join", "Builder.join", defArgs sBj, defBody sBj, defScope sBj, [], []⟩,
  ⟨fun K => He.ma K (He.ga K "Builder") "row", "row", "Builder.row", defArgs sBr, defBody sBr, defScope sBr, [], []⟩,
  ⟨fun K => He.ma K (He.ga K "Text") "__init__", "__init__", "Text.__init__", defArgs sTi, defBody sTi, defScope sTi, [], []⟩,
  ⟨fun K => He.ma K (He.ga K "Builder") "__init__", "__init__", "Builder.__init__", defArgs sBi, defBody sBi, defScope sBi, [], []⟩]
def fn3 : List He5.DefA := [⟨fun K => He5.wf K (He.ga K "Text") "classmethod" "made", "made", "Text.made", defArgs sTm, defBody sTm, defScope sTm, [], []⟩,
  ⟨fun K => He5.wf K (He.ga K "Text") "classmethod" "of_letters", "of_letters", "Text.of_letters", defArgs sTo, defBody sTo, defScope sTo, [], []⟩]
def fn : List He5.DefA := fn0 ++ fn1 ++ fn2 ++ fn3
/-- the objects looked at: the named ones of the module, what they lead to -/
def refsH (g : Addr → Option Obj) (a : Addr) : List Addr := match g a with
  | some o => (match o.data with
    | .func fd => He.refV fd.code
    | .cls cd => [cd.ns]
    | .dict es _ => es.toList.flatMap fun e => He.refV e.val
    | .fields vs => vs.toList.flatMap He.refV
    | _ => [])
  | none => []
def stepH (g : Addr → Option Obj) (as : List Addr) : List Addr := as.flatMap (refsH g)
def nmH : List Str := (["Text", "Builder", "SIZES", "rule_length", "earlier", "fault", "lengths_of", "check_rules", "inner_place", "inner_parts", "moved_rule", "settled", "check_size", "check_place", "check_times", "replace_part", "insert_at", "remove_part", "part_of", "move_part"] : List Str) ++ (["turn_part", "repeat_part", "is_spelling", "check_phrases", "spelled_on", "apply_phrases", "_law_pool", "_law_take", "_law_written", "_law_number", "_law_next", "_law_made", "_law_rules", "_law_great", "_law_is_integer", "_law_same", "_law_alike", "law"] : List Str)
def lvH (g : Addr → Option Obj) : Nat → List Addr → List Addr
  | 0, as => as
  | n + 1, as => as ++ lvH g n (stepH g as)
def asH (g : Addr → Option Obj) : List Addr := mainGlobals :: PySem.cStatics :: lvH g 4 (nmH.map fun x => He.ga (He.frG g [mainGlobals]) x)
def szs : List (Str × He.Dv) := [("letters", .int 2), ("join", .int 3), ("power", .int 3), ("part", .int 4), ("back", .int 2)]
def clm (K : PySem.W.Frag) (m : Str) : Bool := He5.wrapB K (He.ga K "Text") "classmethod" "classmethod.__get__" m && PySem.W.fnIn K (He5.wf K (He.ga K "Text") "classmethod" m)
def xtr (K : PySem.W.Frag) : Bool := PySem.W.readsIn K (He.ga K "Text") (.type "type") && (clm K "made" && (clm K "of_letters" && He.valsB K (He.ga K "SIZES") szs))
abbrev AlH : Type := (Bool × He.AlD) × Option (List (Option (Str × Int)))
def obsH (K : PySem.W.Frag) : AlH := ((xtr K, He5.obsA fa fn K), He.dicW K (He.ga K "SIZES"))
def valH (w : World) : AlH := ((true, He5.valA fn), some (He.keysIn w.params (szs.map fun q => q.1)))
def SaysH (w : World) (K : PySem.W.Frag) : Prop := obsH K = valH w
def obsHG (g : Addr → Option Obj) : AlH := obsH (He.frG g (asH g))
def hkH : PySem.W.Hook where
  α := AlH
  obs := fun s => obsHG s.heap.get?
  val := fun w => valH w
  says := fun w h => ∃ K : PySem.W.Frag, K.In h ∧ SaysH w K
  of := fun _ _ e => ⟨_, He.frG_in, e⟩
  keeps := fun _ _ _ ⟨K, hK, c⟩ k => ⟨K, PySem.W.Frag.In.keeps hK k, c⟩
def obT (s : PySem.W.SharedT) : AlH := obsHG (HandSHeadRun.getT s)
theorem obT_eq (s : PySem.W.SharedT) : obT s = hkH.obs s.abs := by
  have e : HandSHeadRun.getT s = s.abs.heap.get? := funext (HandSHeadRun.getT_eq s)
  show obsHG (HandSHeadRun.getT s) = obsHG s.abs.heap.get?
  rw [e]
abbrev RW : PySem.W.OpenRow := PySem.W.OpenLaw.row PySem.Challenge.rw_shortheld_k46_whole_there_and_back
abbrev QV : Program := PySem.W.view RW.prog [74]
def restN : List PySem.Str := (["HeldError", "BadRules", "NoPlace", "NoPart", "TooLong", "TooLarge", "BadTimes", "add_item", "items_of", "Grammar", "Unfolder", "add_text", "Cut", "Rounds", "run_ends", "pair_ends", "paired", "left_side", "symbol_lengths", "Store", "store_of", "LETTERS", "MOST_RULES", "MOST_WRITTEN", "MOST_LETTERS", "MOST_TOLD", "SIZES", "rule_length", "earlier", "fault" ] : List PySem.Str) ++ (["lengths_of", "check_rules", "inner_place", "inner_parts", "Text", "MOST_AT_ONCE", "BadPhrase", "moved_rule", "Builder", "retold", "settled", "check_size", "check_place", "check_times", "replace_part", "insert_at", "remove_part", "part_of", "move_part", "turn_part", "repeat_part", "copied", "is_spelling", "check_phrases", "spelled_on", "apply_phrases", "_law_pool", "_law_take", "_law_written", "_law_number" ] : List PySem.Str) ++ (["_law_next", "_law_made", "_law_rules", "_law_great", "_law_is_integer", "_law_same", "_law_alike" ] : List PySem.Str)
end Sh
set_option Elab.async false
set_option linter.all false
set_option maxRecDepth 100000
set_option maxHeartbeats 0
namespace Sh
open PySem PySem.Spec PyProof.Rows L2
open PySem.W HandSHeadRun
theorem runF (w : World) : HandSHeadRun.RunEq RW QV hkH obT 12000 restN (w.withFollow "special-get-raises" false) := by
  intro os
  kernel_rfl
theorem runT (w : World) : HandSHeadRun.RunEq RW QV hkH obT 12000 restN (w.withFollow "special-get-raises" true) := by
  intro os
  kernel_rfl
theorem runH (w : World) : HandSHeadRun.RunEq RW QV hkH obT 12000 restN w :=
  byRow2 "special-get-raises" (P := fun w => HandSHeadRun.RunEq RW QV hkH obT 12000 restN w) runF runT w
end Sh
set_option Elab.async false
set_option linter.all false
set_option maxRecDepth 100000
set_option maxHeartbeats 2000000
/-! what stands in the heap -/
namespace Sh
open PySem PySem.Spec PyProof.Rows L2
open SX (S)
theorem MX_eq : MX = 1000000000000 := rfl
theorem ifP {c : Prop} [Decidable c] {A B : Prop} (h : c) (a : A) : if decide c = true then A else B := by
  rw [decide_eq_true h, if_pos rfl]
  exact a
theorem ifN {c : Prop} [Decidable c] {A B : Prop} (h : ¬ c) (b : B) : if decide c = true then A else B := by
  rw [decide_eq_false h, if_neg Bool.false_ne_true]
  exact b
/-- of !c -/
theorem inP {c : Prop} [Decidable c] {A B : Prop} (h : ¬ c) (a : A) : if (!decide c) = true then A else B := by
  rw [decide_eq_false h]
  exact iteT a
theorem inN {c : Prop} [Decidable c] {A B : Prop} (h : c) (b : B) : if (!decide c) = true then A else B := by
  rw [decide_eq_true h]
  exact iteF b
theorem nT {A B : Prop} (a : A) : if (!false) = true then A else B := iteT a
theorem nF {A B : Prop} (b : B) : if (!true) = true then A else B := iteF b
/-- len, tuple(..), the written part told -/
def rLn (K : PySem.W.Frag) : List V → Hp → VK → Prop := fun xs H Q => ∃ p ys, xs = [V.ref p] ∧ (SqL K H p ys ∨ SqT K H p ys) ∧ Q (.int ys.length) H
theorem call_lenK (K : PySem.W.Frag) {X : Cx} (h : X.K = K := by rfl) : CallR X (.builtin "len") (rLn K) := by
  subst h
  exact call_len_seq
def rTu (K : PySem.W.Frag) : List V → Hp → VK → Prop := fun xs H Q => ∃ p ys, xs = [.ref p] ∧ ((SqL K H p ys ∧ ∀ l, H l = none → Q (.ref l) (upd H l (.tup ys))) ∨ (SqT K H p ys ∧ Q (.ref p) H))
theorem call_tupK (K : PySem.W.Frag) {X : Cx} (h : X.K = K := by rfl) : CallR X (.type "tuple") (rTu K) := by
  subst h
  exact call_tuple_of
theorem wjl : ¬ (V.str "join" = V.str "letters") := by decide +kernel
theorem wjp : ¬ (V.str "join" = V.str "power") := by decide +kernel
theorem wjt : ¬ (V.str "join" = V.str "part") := by decide +kernel
theorem wjb : ¬ (V.str "join" = V.str "back") := by decide +kernel
theorem wpl : ¬ (V.str "power" = V.str "letters") := by decide +kernel
theorem wpj : ¬ (V.str "power" = V.str "join") := by decide +kernel
theorem wpt : ¬ (V.str "power" = V.str "part") := by decide +kernel
theorem wpb : ¬ (V.str "power" = V.str "back") := by decide +kernel
theorem wtl : ¬ (V.str "part" = V.str "letters") := by decide +kernel
theorem wtj : ¬ (V.str "part" = V.str "join") := by decide +kernel
theorem wtp : ¬ (V.str "part" = V.str "power") := by decide +kernel
theorem wtb : ¬ (V.str "part" = V.str "back") := by decide +kernel
theorem wbl : ¬ (V.str "back" = V.str "letters") := by decide +kernel
theorem wbj : ¬ (V.str "back" = V.str "join") := by decide +kernel
theorem wbp : ¬ (V.str "back" = V.str "power") := by decide +kernel
theorem wbt : ¬ (V.str "back" = V.str "part") := by decide +kernel
/-- the rule as a tuple -/
def Ru.vs : Ru → List V
  | .lt s => [.str "letters", .str (S s)]
  | .jn i j => [.str "join", .int i, .int j]
  | .pw i k => [.str "power", .int i, .int k]
  | .pt i a b => [.str "part", .int i, .int a, .int b]
  | .bk i => [.str "back", .int i]
def lens (ds : List L) : List V := ds.map fun d => V.int ((d.length : Nat) : Int)
theorem lens_at {ds : List L} {i : Nat} {d : L} (h : ds[i]? = some d) : (lens ds)[i]? = some (.int ((d.length : Nat) : Int)) := by
  unfold lens
  rw [List.getElem?_map, h]; rfl
theorem lens_atD {ds : List L} {i : Nat} (h : i < ds.length) : (lens ds)[i]? = some (.int (((ds.getD i []).length : Nat) : Int)) := by
  refine lens_at ?_
  rw [List.getD_eq_getElem?_getD, List.getElem?_eq_getElem h]; rfl
theorem lens_snoc (ds : List L) (d : L) : lens (ds ++ [d]) = lens ds ++ [.int ((d.length : Nat) : Int)] := by
  unfold lens
  rw [List.map_append]; rfl
theorem lens_len (ds : List L) : (lens ds).length = ds.length := by
  unfold lens
  rw [List.length_map]
theorem last_at {α : Type} {xs : List α} {x : α} (h : xs.getLast? = some x) : xs[xs.length - 1]? = some x := by
  rw [← List.getLast?_eq_getElem?]; exact h
theorem at_last {α : Type} {xs : List α} {x : α} (h : xs.getLast? = some x) : atI xs (-1) = some x := by
  obtain ⟨ys, e⟩ := List.getLast?_eq_some_iff.mp h
  rw [e]
  exact atI_last ys x
theorem lens_last {ds : List L} {d : L} (h : ds.getLast? = some d) : (lens ds).getLast? = some (.int ((d.length : Nat) : Int)) := by
  unfold lens
  rw [List.getLast?_map, h]; rfl
theorem at_int {α : Type} {xs : List α} {z : Int} {j : Nat} {v : α} (e : z = (j : Int)) (h : xs[j]? = some v) : atI xs z = some v := by
  rw [e]; exact atI_nat h
theorem sz {n : Nat} (h : n ≤ 100000) : n ≤ sizeLine := Nat.le_trans h (by decide)
theorem szl {n : Nat} (h : n < 100000) : n < sizeLine := Nat.lt_of_lt_of_le h (by decide)
/-- the rules rs stand at as -/
structure RusAt (H : Hp) (as : List Addr) (rs : List Ru) : Prop where
  len : as.length = rs.length
  at_ : ∀ (i : Nat) (a : Addr) (r : Ru), as[i]? = some a → rs[i]? = some r → H a = some (.tup r.vs)
theorem RusAt.get {H : Hp} {as : List Addr} {rs : List Ru} (h : RusAt H as rs) {i : Nat} {r : Ru} (hr : rs[i]? = some r) : ∃ a, as[i]? = some a ∧ (as.map V.ref)[i]? = some (.ref a) ∧ H a = some (.tup r.vs) := by
  have hi : i < as.length := by
    rw [h.len]; exact (List.getElem?_eq_some_iff.mp hr).1
  have e := List.getElem?_eq_getElem hi
  exact ⟨as[i], e, by rw [List.getElem?_map, e]; rfl, h.at_ i _ r e hr⟩
theorem RusAt.nil {H : Hp} : RusAt H [] [] := ⟨rfl, fun i a r h => by simp at h⟩
theorem RusAt.snoc {H : Hp} {as : List Addr} {rs : List Ru} {a : Addr} {r : Ru} (h : RusAt H as rs) (ha : H a = some (.tup r.vs)) : RusAt H (as ++ [a]) (rs ++ [r]) := by
  refine ⟨by simp [h.len], fun i b q hb hq => ?_⟩
  by_cases hi : i < as.length
  · rw [List.getElem?_append_left hi] at hb
    rw [List.getElem?_append_left (by rw [← h.len]; exact hi)] at hq
    exact h.at_ i b q hb hq
  · have h1 := (List.getElem?_eq_some_iff.mp hb).1
    rw [List.length_append, List.length_singleton] at h1
    have e : i = as.length := by omega
    subst e
    rw [List.getElem?_append_right (Nat.le_refl _), Nat.sub_self] at hb
    rw [h.len, List.getElem?_append_right (Nat.le_refl _), Nat.sub_self] at hq
    have e1 : a = b := Option.some.inj hb
    have e2 : r = q := Option.some.inj hq
    rw [← e1, ← e2]; exact ha
/-! ### tuples and instances stay -/
structure Gro (H H' : Hp) : Prop where
  tup : ∀ b xs, H b = some (.tup xs) → H' b = some (.tup xs)
  ins : ∀ b C dx fs, H b = some (.ins C dx fs) → H' b = some (.ins C dx fs)
theorem Gro.refl (H : Hp) : Gro H H := ⟨fun _ _ h => h, fun _ _ _ _ h => h⟩
theorem Gro.trans {H H1 H2 : Hp} (a : Gro H H1) (b : Gro H1 H2) : Gro H H2 := ⟨fun c xs h => b.tup c xs (a.tup c xs h), fun c C dx fs h => b.ins c C dx fs (a.ins c C dx fs h)⟩
theorem sGro {H H' : Hp} (s : Same H H') : Gro H H' := ⟨fun b xs h => s b _ h, fun b C dx fs h => s b _ h⟩
theorem same_upd {H : Hp} {p : Addr} {o : HO} (h : H p = none) : Same H (upd H p o) := fun b x e => by
  rw [upd_ne (ne_of_none e h)]
  exact e
/-- an object that H0 does not know changes -/
theorem sMut {H H' : Hp} {p : Addr} {o : HO} (e : Same H H') (h : H p = none) : Same H (upd H' p o) := fun a u ha => by
  rw [upd_ne (ne_of_none ha h)]
  exact e a u ha
/-- all but what stands at p is kept -/
def Keep (p : Addr) (H H' : Hp) : Prop := ∀ b o, H b = some o → b ≠ p → H' b = some o
theorem Keep.refl (p : Addr) (H : Hp) : Keep p H H := fun _ _ h _ => h
theorem Keep.trans {p : Addr} {H H1 H2 : Hp} (a : Keep p H H1) (b : Keep p H1 H2) : Keep p H H2 := fun c o h n => b c o (a c o h n) n
theorem sKeep {p : Addr} {H H' : Hp} (s : Same H H') : Keep p H H' := fun b o h _ => s b o h
theorem Keep.upd {p : Addr} {H : Hp} {o : HO} : Keep p H (upd H p o) := fun b u e n => by rw [upd_ne n]; exact e
theorem Keep.gro {p : Addr} {H H' : Hp} {xs : List V} (k : Keep p H H') (h : H p = some (.lst xs)) : Gro H H' :=
  ⟨fun b ys e => k b _ e (fun z => by
    rw [z, h] at e
    cases e), fun b C dx fs e => k b _ e (fun z => by
    rw [z, h] at e
    cases e)⟩
theorem upd_gro {H : Hp} {p : Addr} {xs : List V} {o : HO} (h : H p = some (.lst xs)) : Gro H (upd H p o) := Keep.gro Keep.upd h
theorem RusAt.gro {H H' : Hp} {as : List Addr} {rs : List Ru} (h : RusAt H as rs) (g : Gro H H') : RusAt H' as rs := ⟨h.len, fun i a r ha hr => g.tup _ _ (h.at_ i a r ha hr)⟩
/-! ### a Text -/
def tf (tr tl : Addr) (n : Int) : List (Str × V) := putF "length" (.int n) (putF "lengths" (.ref tl) (putF "rules" (.ref tr) []))
theorem n_rl : ¬ (("rules" : Str) = "lengths") := by decide +kernel
theorem n_rn : ¬ (("rules" : Str) = "length") := by decide +kernel
theorem n_ln : ¬ (("lengths" : Str) = "length") := by decide +kernel
theorem n_lr : ¬ (("lengths" : Str) = "rules") := by decide +kernel
theorem n_nr : ¬ (("length" : Str) = "rules") := by decide +kernel
theorem n_nl : ¬ (("length" : Str) = "lengths") := by decide +kernel
theorem tf_eq (tr tl : Addr) (n : Int) : tf tr tl n = ([("rules", V.ref tr), ("lengths", V.ref tl), ("length", V.int n)] : List (Str × V)) := by
  unfold tf
  simp only [putF, if_neg n_rl, if_neg n_rn, if_neg n_ln]
theorem tf_rules (tr tl : Addr) (n : Int) : (tf tr tl n).lookup ("rules" : Str) = some (.ref tr) := by
  unfold tf
  rw [lookup_putF, if_neg n_rn, lookup_putF, if_neg n_rl, lookup_putF, if_pos rfl]
theorem tf_lengths (tr tl : Addr) (n : Int) : (tf tr tl n).lookup ("lengths" : Str) = some (.ref tl) := by
  unfold tf
  rw [lookup_putF, if_neg n_ln, lookup_putF, if_pos rfl]
theorem tf_length (tr tl : Addr) (n : Int) : (tf tr tl n).lookup ("length" : Str) = some (.int n) := by
  unfold tf
  rw [lookup_putF, if_pos rfl]
theorem tf_no (tr tl : Addr) (n : Int) {m : Str} (h1 : ¬ m = "length") (h2 : ¬ m = "lengths") (h3 : ¬ m = "rules") : (tf tr tl n).lookup m = none := by
  unfold tf
  rw [lookup_putF, if_neg h1, lookup_putF, if_neg h2, lookup_putF, if_neg h3]
  all_goals rfl
theorem tf_put_rules (tr tl t : Addr) (n : Int) : putF "rules" (.ref t) (tf tr tl n) = tf t tl n := by
  rw [tf_eq, tf_eq]
  simp only [putF, ↓reduceIte]
theorem tf_put_lengths (tr tl t : Addr) (n : Int) : putF "lengths" (.ref t) (tf tr tl n) = tf tr t n := by
  rw [tf_eq, tf_eq]
  simp only [putF, if_neg n_rl, ↓reduceIte]
theorem tf_put_length (tr tl : Addr) (n m : Int) : putF "length" (.int m) (tf tr tl n) = tf tr tl m := by
  rw [tf_eq, tf_eq]
  simp only [putF, if_neg n_rn, if_neg n_ln, ↓reduceIte]
theorem tf_small (tr tl : Addr) (n : Int) : (tf tr tl n).length < 1000 := by
  rw [tf_eq]
  show 3 < 1000
  decide
/-- a Text of n rules that make the letters d stands at x -/
def TxtAt (C : Addr) (H : Hp) (x : Addr) (n : Nat) (d : L) : Prop := ∃ (rs : List Ru) (ds : List L) (as : List Addr) (dx tr tl : Addr),
  H x = some (.ins C dx (tf tr tl ((d.length : Nat) : Int))) ∧ H tr = some (.tup (as.map V.ref)) ∧ RusAt H as rs ∧ H tl = some (.tup (lens ds)) ∧ Dn rs ds ∧ ds.length = n ∧ ds.getLast? = some d
theorem TxtAt.gro {C : Addr} {H H' : Hp} {x : Addr} {n : Nat} {d : L} (h : TxtAt C H x n d) (g : Gro H H') : TxtAt C H' x n d := by
  obtain ⟨rs, ds, as, dx, tr, tl, h1, h2, h3, h4, h5⟩ := h
  exact ⟨rs, ds, as, dx, tr, tl, g.ins _ _ _ _ h1, g.tup _ _ h2, h3.gro g, g.tup _ _ h4, h5⟩
theorem Dn.last {rs : List Ru} {ds : List L} {d : L} (h : Dn rs ds) (hd : ds.getLast? = some d) : d.length ≤ MX := by
  have h1 := last_at hd
  have hi : ds.length - 1 < rs.length := by
    have := (List.getElem?_eq_some_iff.mp h1).1
    have := h.len
    omega
  obtain ⟨k, e⟩ := h.at_ _ _ (List.getElem?_eq_getElem hi)
  rw [h1] at e
  rw [Option.some.inj e]
  exact k.1
theorem TxtAt.le {C : Addr} {H : Hp} {x : Addr} {n : Nat} {d : L} (h : TxtAt C H x n d) : d.length ≤ MX := by
  obtain ⟨rs, ds, as, dx, tr, tl, h1, h2, h3, h4, h5, h6, h7⟩ := h
  exact h5.last h7
theorem TxtAt.pos {C : Addr} {H : Hp} {x : Addr} {n : Nat} {d : L} (h : TxtAt C H x n d) : 0 < n := by
  obtain ⟨rs, ds, as, dx, tr, tl, h1, h2, h3, h4, h5, h6, h7⟩ := h
  cases ds with
  | nil => cases h7
  | cons a b => rw [← h6]; exact Nat.succ_pos _
/-- what hands back a new Text -/
def RT (C : Addr) (H : Hp) (n : Nat) (d : L) (Q : VK) : Prop := ∀ z H', Same H H' → TxtAt C H' z n d → Q (.ref z) H'
/-! ### a Builder -/
def bf (r l : Addr) : List (Str × V) := putF "lengths" (.ref l) (putF "rules" (.ref r) [])
theorem bf_rules (r l : Addr) : (bf r l).lookup ("rules" : Str) = some (.ref r) := by
  unfold bf
  rw [lookup_putF, if_neg n_rl, lookup_putF, if_pos rfl]
theorem bf_lengths (r l : Addr) : (bf r l).lookup ("lengths" : Str) = some (.ref l) := by
  unfold bf
  rw [lookup_putF, if_pos rfl]
theorem bf_no (r l : Addr) {m : Str} (h2 : ¬ m = "lengths") (h3 : ¬ m = "rules") : (bf r l).lookup m = none := by
  unfold bf
  rw [lookup_putF, if_neg h2, lookup_putF, if_neg h3]
  all_goals rfl
/-- behind the heap H0, which stands as it stood, a Builder at b, whose lists at r and l H0 does not know, holds rules that make ds -/
def BuAt (D : Addr) (H0 H : Hp) (b r l : Addr) (ds : List L) : Prop := Same H0 H ∧ H0 r = none ∧ H0 l = none ∧ r ≠ l ∧ ∃ (rs : List Ru) (as : List Addr) (dx : Addr),
  H b = some (.ins D dx (bf r l)) ∧ H r = some (.lst (as.map V.ref)) ∧ H l = some (.lst (lens ds)) ∧ RusAt H as rs ∧ Dn rs ds
theorem BuAt.same {D : Addr} {H0 H : Hp} {b r l : Addr} {ds : List L} (h : BuAt D H0 H b r l ds) : Same H0 H := h.1
/-- a new thing beside it -/
theorem BuAt.more {D : Addr} {H0 H H' : Hp} {b r l : Addr} {ds : List L} (h : BuAt D H0 H b r l ds) (s : Same H H') : BuAt D H0 H' b r l ds := by
  obtain ⟨s0, r0, l0, ne, rs, as, dx, h1, h2, h3, h4, h5⟩ := h
  exact ⟨s0.trans s, r0, l0, ne, rs, as, dx, s _ _ h1, s _ _ h2, s _ _ h3, h4.gro (sGro s), h5⟩
end Sh
set_option Elab.async false
set_option linter.all false
set_option maxRecDepth 100000
set_option maxHeartbeats 4000000
namespace Sh
open PySem PySem.Spec PyProof.Rows L2
open SX (S)
section
variable {P : Program} {w : World} {K : PySem.W.Frag} {mg : Str → Option Value} {base : Heap} {C D Z : Addr}
/-! ### rule_length -/
def spRl (K : PySem.W.Frag) : Sp := fun vs H Q _ => ∃ (a l : Addr) (r : Ru) (ds : List L), vs = [.ref a, .ref l] ∧ H a = some (.tup r.vs) ∧ (SqL K H l (lens ds) ∨ SqT K H l (lens ds)) ∧ r.ok ds.length ds ∧ Q (.int (((r.den ds).length : Nat) : Int)) H
theorem rix {K : PySem.W.Frag} {H : Hp} {l : Addr} {ds : List L} {Q : VK} {i : Nat} (hl : SqL K H l (lens ds) ∨ SqT K H l (lens ds)) (hi : i < ds.length) (q : Q (.int (((ds.getD i []).length : Nat) : Int)) H) : rIx K (.ref l) (.int (i : Int)) H Q := by
  rcases hl with h | h
  · exact .inl ⟨l, _, _, _, rfl, rfl, h, atI_nat (lens_atD hi), q⟩
  · exact .inr (.inl ⟨l, _, _, _, rfl, rfl, h, atI_nat (lens_atD hi), q⟩)
theorem ok_Rl (T : Tx w K mg C D Z) (F : Df K mg "rule_length" sRl) : Fc P w K mg base 1 "rule_length" ["rule", "lengths"] (spRl K) := by
  refine fc_of F (fun _ _ _ _ _ _ us hl => match us, hl with | [_, _], _ => rfl) scRl (fun vs H Q E h => ?_) (fun f cdv A outer s H vs Q E hr h => ?_)
  · obtain ⟨a, l, r, ds, rfl, _⟩ := h
    rfl
  · obtain ⟨a, l, r, ds, rfl, ha, hl, ok, q⟩ := h
    refine ⟨_, (pss_cons (ps_set (i := 2) scRl.nd rfl (by first | exact Or.inl rfl | exact Or.inr rfl) (pe_ix ix_tup (pv 0) pe_int (fun _ _ => rfl)))
      (pss_cons (ps_if (pt_cmpR op_eq (pv 2) pe_str (nomark _)) (pss_one (ps_ret (pe_callB (id := "len") call_len_str (by rfl) T.len_ (by decide +kernel) (pa_cons (pe_ix ix_tup (pv 0) pe_int (fun _ _ => rfl)) pa_nil)))) pss_nil)
      (pss_cons (ps_if (pt_cmpR op_eq (pv 2) pe_str (nomark _)) (pss_one (ps_ret (pe_op op_add (pe_ix ix_seq (pv 1) (pe_ix ix_tup (pv 0) pe_int (fun _ _ => rfl)) (fun _ _ => rfl)) (pe_ix ix_seq (pv 1) (pe_ix ix_tup (pv 0) pe_int (fun _ _ => rfl)) (fun _ _ => rfl))))) pss_nil)
      (pss_cons (ps_if (pt_cmpR op_eq (pv 2) pe_str (nomark _)) (pss_one (ps_ret (pe_op op_mul (pe_ix ix_seq (pv 1) (pe_ix ix_tup (pv 0) pe_int (fun _ _ => rfl)) (fun _ _ => rfl)) (pe_ix ix_tup (pv 0) pe_int (fun _ _ => rfl))))) pss_nil)
      (pss_cons (ps_if (pt_cmpR op_eq (pv 2) pe_str (nomark _)) (pss_one (ps_ret (pe_op op_sub (pe_ix ix_tup (pv 0) pe_int (fun _ _ => rfl)) (pe_ix ix_tup (pv 0) pe_int (fun _ _ => rfl))))) pss_nil)
      (pss_one (ps_ret (pe_ix ix_seq (pv 1) (pe_ix ix_tup (pv 0) pe_int (fun _ _ => rfl)) (fun _ _ => rfl))))))))), ?_⟩
    rw [Ru.den_len] at q
    have ok0 := ok.1
    rw [Ru.den_len] at ok0
    have ok1 := ok.2
    cases r with
    | lt s =>
      refine ⟨_, rfl, a, _, _, _, rfl, rfl, SqT.of ha, atI_nat (j := 0) rfl, _, rfl, rfl, _, rfl, ifP rfl ?_⟩
      refine ⟨_, rfl, a, _, _, _, rfl, rfl, SqT.of ha, atI_nat (j := 1) rfl, S s, rfl, ?_, ?_⟩
      · have := ok1.1
        rw [SX.S_len]
        exact sz (by omega)
      · show Q (V.int (((S s).length : Nat) : Int)) H
        rw [SX.S_len]
        exact q
    | jn i j =>
      refine ⟨_, rfl, a, _, _, _, rfl, rfl, SqT.of ha, atI_nat (j := 0) rfl, _, rfl, rfl, _, rfl, ifN (by decide +kernel) ?_⟩
      refine ⟨_, rfl, rfl, _, rfl, ifP rfl ?_⟩
      refine ⟨_, rfl, _, rfl, a, _, _, _, rfl, rfl, SqT.of ha, atI_nat (j := 1) rfl, rix hl ok1.1 ?_⟩
      refine ⟨_, rfl, _, rfl, a, _, _, _, rfl, rfl, SqT.of ha, atI_nat (j := 2) rfl, rix hl ok1.2 ?_⟩
      refine ⟨_, _, rfl, rfl, ?_⟩
      show Q (V.int (((ds.getD i []).length : Int) + ((ds.getD j []).length : Int))) H
      rw [← Int.natCast_add]
      exact q
    | pw i k =>
      refine ⟨_, rfl, a, _, _, _, rfl, rfl, SqT.of ha, atI_nat (j := 0) rfl, _, rfl, rfl, _, rfl, ifN (by decide +kernel) ?_⟩
      refine ⟨_, rfl, rfl, _, rfl, ifN (by decide +kernel) ?_⟩
      refine ⟨_, rfl, rfl, _, rfl, ifP rfl ?_⟩
      refine ⟨_, rfl, _, rfl, a, _, _, _, rfl, rfl, SqT.of ha, atI_nat (j := 1) rfl, rix hl ok1.1 ?_⟩
      refine ⟨_, rfl, a, _, _, _, rfl, rfl, SqT.of ha, atI_nat (j := 2) rfl, _, _, rfl, rfl, .inr ?_, ?_⟩
      · have e := MX_eq
        have := ok1.2
        omega
      · show Q (V.int (((ds.getD i []).length : Int) * (k : Int))) H
        rw [← Int.natCast_mul]
        exact q
    | pt i b c =>
      refine ⟨_, rfl, a, _, _, _, rfl, rfl, SqT.of ha, atI_nat (j := 0) rfl, _, rfl, rfl, _, rfl, ifN (by decide +kernel) ?_⟩
      refine ⟨_, rfl, rfl, _, rfl, ifN (by decide +kernel) ?_⟩
      refine ⟨_, rfl, rfl, _, rfl, ifN (by decide +kernel) ?_⟩
      refine ⟨_, rfl, rfl, _, rfl, ifP rfl ?_⟩
      refine ⟨_, rfl, a, _, _, _, rfl, rfl, SqT.of ha, atI_nat (j := 3) rfl, _, rfl, a, _, _, _, rfl, rfl, SqT.of ha, atI_nat (j := 2) rfl, _, _, rfl, rfl, ?_⟩
      have e : (c : Int) - (b : Int) = ((min (c - b) ((ds.getD i []).length - b) : Nat) : Int) := by
        have := ok1.2
        omega
      show Q (V.int ((c : Int) - (b : Int))) H
      rw [e]
      exact q
    | bk i =>
      refine ⟨_, rfl, a, _, _, _, rfl, rfl, SqT.of ha, atI_nat (j := 0) rfl, _, rfl, rfl, _, rfl, ifN (by decide +kernel) ?_⟩
      refine ⟨_, rfl, rfl, _, rfl, ifN (by decide +kernel) ?_⟩
      refine ⟨_, rfl, rfl, _, rfl, ifN (by decide +kernel) ?_⟩
      refine ⟨_, rfl, rfl, _, rfl, ifN (by decide +kernel) ?_⟩
      exact ⟨_, rfl, _, rfl, a, _, _, _, rfl, rfl, SqT.of ha, atI_nat (j := 1) rfl, rix hl ok1 q⟩
end
end Sh
set_option Elab.async false
set_option linter.all false
set_option maxRecDepth 100000
set_option maxHeartbeats 4000000
namespace Sh
open PySem PySem.Spec PyProof.Rows L2
open SX (S)
/-- the earlier rules that a rule names -/
def Ru.refs : Ru → List Nat
  | .lt _ => []
  | .jn i j => [i, j]
  | .pw i _ => [i]
  | .pt i _ _ => [i]
  | .bk i => [i]
theorem Ru.refs_lt {n : Nat} {ds : List L} {r : Ru} (h : r.ok n ds) : ∀ i ∈ r.refs, i < n := by
  obtain ⟨_, h⟩ := h
  cases r with
  | lt s => intro i hi; cases hi
  | jn a b =>
    intro i hi
    simp only [Ru.refs, List.mem_cons, List.not_mem_nil, or_false] at hi
    rcases hi with rfl | rfl
    · exact h.1
    · exact h.2
  | pw a k =>
    intro i hi
    simp only [Ru.refs, List.mem_cons, List.not_mem_nil, or_false] at hi
    subst hi; exact h.1
  | pt a b c =>
    intro i hi
    simp only [Ru.refs, List.mem_cons, List.not_mem_nil, or_false] at hi
    subst hi; exact h.1
  | bk a =>
    intro i hi
    simp only [Ru.refs, List.mem_cons, List.not_mem_nil, or_false] at hi
    subst hi; exact h
theorem six1 {n : Nat} (h : 0 < n) : HT.sIx n 0 (some 1) ≠ 0 := by
  rw [show (1 : Int) = ((1 : Nat) : Int) from rfl, HT.sIx_nat]
  omega
section
variable {P : Program} {w : World} {K : PySem.W.Frag} {mg : Str → Option Value} {base : Heap} {C D Z : Addr}
/-! ### earlier -/
def spEa : Sp := fun vs H Q _ => ∃ (a : Addr) (r : Ru), vs = [.ref a] ∧ H a = some (.tup r.vs) ∧ ∀ p H', Same H H' → H' p = some (.tup (r.refs.map fun (n : Nat) => V.int (n : Int))) → Q (.ref p) H'
theorem ok_Ea (T : Tx w K mg C D Z) (F : Df K mg "earlier" sEa) : Fc P w K mg base 1 "earlier" ["rule"] spEa := by
  refine fc_of F (fun _ _ _ _ _ _ us hl => match us, hl with | [_], _ => rfl) scEa (fun vs H Q E h => ?_) (fun f cdv A outer s H vs Q E hr h => ?_)
  · obtain ⟨a, r, rfl, _⟩ := h
    rfl
  · obtain ⟨a, r, rfl, ha, q⟩ := h
    refine ⟨_, (pss_cons (ps_if (pt_cmpR op_eq (pe_ix ix_tup (pv 0) pe_int (fun _ _ => rfl)) pe_str (nomark _)) (pss_one (ps_ret (pe_tup pa_nil))) pss_nil)
      (pss_one (ps_ret (pe_ifExp (pt_cmpR op_eq (pe_ix ix_tup (pv 0) pe_int (fun _ _ => rfl)) pe_str (nomark _)) (pe_slice sl_tupA (pv 0) (po_some pe_int) (po_some pe_int)) (pe_slice sl_tupA (pv 0) (po_some pe_int) (po_some pe_int)))))), ?_⟩
    cases r with
    | lt s =>
      refine ⟨_, rfl, a, _, _, _, rfl, rfl, SqT.of ha, atI_nat (j := 0) rfl, rfl, _, rfl, ifP rfl ?_⟩
      exact ⟨Nat.zero_le _, fun p hp => q p _ (same_upd hp) upd_same⟩
    | jn i j =>
      refine ⟨_, rfl, a, _, _, _, rfl, rfl, SqT.of ha, atI_nat (j := 0) rfl, rfl, _, rfl, ifN (by decide +kernel) ?_⟩
      refine ⟨_, rfl, a, _, _, _, rfl, rfl, SqT.of ha, atI_nat (j := 0) rfl, rfl, _, rfl, ifP rfl ?_⟩
      exact ⟨_, rfl, 1, rfl, 3, rfl, a, _, rfl, SqT.of ha, fun z => absurd z.1 (six1 (Nat.succ_pos _)), fun _ p hp => q p _ (same_upd hp) upd_same⟩
    | pw i k =>
      refine ⟨_, rfl, a, _, _, _, rfl, rfl, SqT.of ha, atI_nat (j := 0) rfl, rfl, _, rfl, ifN (by decide +kernel) ?_⟩
      refine ⟨_, rfl, a, _, _, _, rfl, rfl, SqT.of ha, atI_nat (j := 0) rfl, rfl, _, rfl, ifN (by decide +kernel) ?_⟩
      exact ⟨_, rfl, 1, rfl, 2, rfl, a, _, rfl, SqT.of ha, fun z => absurd z.1 (six1 (Nat.succ_pos _)), fun _ p hp => q p _ (same_upd hp) upd_same⟩
    | pt i b c =>
      refine ⟨_, rfl, a, _, _, _, rfl, rfl, SqT.of ha, atI_nat (j := 0) rfl, rfl, _, rfl, ifN (by decide +kernel) ?_⟩
      refine ⟨_, rfl, a, _, _, _, rfl, rfl, SqT.of ha, atI_nat (j := 0) rfl, rfl, _, rfl, ifN (by decide +kernel) ?_⟩
      exact ⟨_, rfl, 1, rfl, 2, rfl, a, _, rfl, SqT.of ha, fun z => absurd z.1 (six1 (Nat.succ_pos _)), fun _ p hp => q p _ (same_upd hp) upd_same⟩
    | bk i =>
      refine ⟨_, rfl, a, _, _, _, rfl, rfl, SqT.of ha, atI_nat (j := 0) rfl, rfl, _, rfl, ifN (by decide +kernel) ?_⟩
      refine ⟨_, rfl, a, _, _, _, rfl, rfl, SqT.of ha, atI_nat (j := 0) rfl, rfl, _, rfl, ifN (by decide +kernel) ?_⟩
      exact ⟨_, rfl, 1, rfl, 2, rfl, a, _, rfl, SqT.of ha, fun z => absurd z.1 (six1 (Nat.succ_pos _)), fun _ p hp => q p _ (same_upd hp) upd_same⟩
/-! ### lengths_of -/
def spLo (K : PySem.W.Frag) : Sp := fun vs H Q _ => ∃ (t : Addr) (as : List Addr) (rs : List Ru) (ds : List L), vs = [.ref t] ∧ H t = some (.tup (as.map V.ref)) ∧ RusAt H as rs ∧ Dn rs ds ∧ rs.length ≤ 1000 ∧
  ∀ p H', Same H H' → H' p = some (.tup (lens ds)) → Q (.ref p) H'
theorem ok_Lo (T : Tx w K mg C D Z) (GRl : Fc P w K mg base 1 "rule_length" ["rule", "lengths"] (spRl K)) (F : Df K mg "lengths_of" sLo) : Fc P w K mg base 2 "lengths_of" ["rules"] (spLo K) := by
  refine fc_of F (fun _ _ _ _ _ _ us hl => match us, hl with | [_], _ => rfl) scLo (fun vs H Q E h => ?_) (fun f cdv A outer s H vs Q E hr h => ?_)
  · obtain ⟨t, as, rs, ds, rfl, _⟩ := h
    rfl
  · obtain ⟨t, as, rs, ds, rfl, ht, hrs, hd, hlen, q⟩ := h
    refine ⟨_, (pss_cons (ps_set (i := 1) scLo.nd rfl (by first | exact Or.inl rfl | exact Or.inr rfl) (pe_lst pa_nil))
      (pss_cons (ps_for PassesOwn.never rfl (pi_tup (pv 0)) (pg_name (i := 2) scLo.nd rfl (Or.inl rfl)) (pss_one (ps_expr (pe_bm PySem.F.plainAttrs_list PySem.F.slot_list_append PySem.F.type_list_append mt_append (pv 1) (pa_cons (pe_c GRl (hr.mono (by decide)) (pa_cons (pv 2) (pa_cons (pv 1) pa_nil))) pa_nil)))))
      (pss_one (ps_ret (pe_callTy (T := "tuple") (call_tupK K) (by rfl) T.tuple_ (by decide +kernel) (pa_cons (pv 1) pa_nil)))))), ?_⟩
    refine ⟨Nat.zero_le _, fun l hl => ?_⟩
    have s0 : Same H (upd H l (.lst [])) := same_upd hl
    refine ⟨.ref t, rfl, t, rfl, ⟨_, SqT.of (s0 _ _ ht)⟩, for_tup (K := K) (a := t) (xs := as.map V.ref) (fun i σ H' => ∃ v, σ = [some (.ref t), some (.ref l), v] ∧ Same H H' ∧ H' l = some (.lst (lens (ds.take i))))
      ⟨none, rfl, s0, upd_same⟩ (fun i σ H' _ ⟨_, _, s1, _⟩ => SqT.of (s1 _ _ ht)) ?_ ?_⟩
    · rintro i x σ H' hi ⟨v, rfl, s1, hl'⟩
      have hia : i < as.length := by
        have := (List.getElem?_eq_some_iff.mp hi).1
        rw [List.length_map] at this
        exact this
      have hir : i < rs.length := by rw [← hrs.len]; exact hia
      have er := List.getElem?_eq_getElem hir
      obtain ⟨a, ea, ea2, ha⟩ := hrs.get er
      have ex : x = .ref a := Option.some.inj (hi.symm.trans ea2)
      subst ex
      obtain ⟨k1, k2⟩ := hd.take er
      have htl : (ds.take i).length = i := by
        have := hd.len
        rw [List.length_take]; omega
      refine ⟨_, rfl, .inl ⟨rfl, _, SqL.of hl'⟩, _, rfl, _, rfl, a, l, rs[i], ds.take i, rfl, s1 _ _ ha, .inl (SqL.of hl'), by rw [htl]; exact k1, ?_⟩
      refine ⟨l, _, _, rfl, rfl, hl', ?_, ?_⟩
      · rw [lens_len, htl]
        exact szl (by omega)
      · refine ⟨some (.ref a), rfl, sMut s1 hl, ?_⟩
        rw [upd_same, List.take_add_one, k2]
        show some (HO.lst _) = some (HO.lst (lens (ds.take i ++ [_])))
        rw [lens_snoc]
    · rintro σ H' ⟨v, rfl, s1, hl'⟩
      have e : ds.take (as.map V.ref).length = ds := List.take_of_length_le (by rw [List.length_map, hrs.len, hd.len]; exact Nat.le_refl _)
      rw [e] at hl'
      refine ⟨_, rfl, l, _, rfl, .inl ⟨SqL.of hl', fun p hp => ?_⟩⟩
      exact q p _ (s1.trans (same_upd hp)) upd_same
end
end Sh
set_option Elab.async false
set_option linter.all false
set_option maxRecDepth 100000
set_option maxHeartbeats 4000000
namespace Sh
open PySem PySem.Spec PyProof.Rows L2
open SX (S)
def Ru.word : Ru → Str
  | .lt _ => "letters"
  | .jn _ _ => "join"
  | .pw _ _ => "power"
  | .pt _ _ _ => "part"
  | .bk _ => "back"
theorem Ru.vs_word (r : Ru) : r.vs[0]? = some (.str r.word) := by cases r <;> rfl
theorem Ru.vs_some (r : Ru) : (!r.vs.isEmpty) = true := by cases r <;> rfl
theorem Ru.size (r : Ru) : (r.word, (r.vs.length : Int)) ∈ ([("letters", 2), ("join", 3), ("power", 3), ("part", 4), ("back", 2)] : List (Str × Int)) := by
  cases r with
  | lt s => exact .head _
  | jn i j => exact .tail _ (.head _)
  | pw i k => exact .tail _ (.tail _ (.head _))
  | pt i a b => exact .tail _ (.tail _ (.tail _ (.head _)))
  | bk i => exact .tail _ (.tail _ (.tail _ (.tail _ (.head _))))
theorem letS_mem {c : Nat} (h : isL c = true) : c ∈ letS.cps.toList := by
  have all : ∀ c, c < 127 → isL c = true → c ∈ letS.cps.toList := by decide +kernel
  refine all c ?_ h
  unfold isL at h
  simp only [Bool.and_eq_true, decide_eq_true_eq] at h
  omega
theorem rep_true (n : Nat) : (List.replicate n (V.bl true)) = (List.replicate n true).map V.bl := by
  rw [List.map_replicate]
theorem rep_all (n : Nat) : (List.replicate n true).all id = true := by
  rw [List.all_eq_true]
  intro x hx
  rw [(List.mem_replicate.mp hx).2]
  rfl
section
variable {P : Program} {w : World} {K : PySem.W.Frag} {mg : Str → Option Value} {base : Heap} {C D Z : Addr}
/-! ### fault -/
def spFa : Sp := fun vs H Q _ => ∃ (a l : Addr) (r : Ru) (ds : List L), vs = [.ref a, .ref l] ∧ H a = some (.tup r.vs) ∧ H l = some (.lst (lens ds)) ∧ r.ok ds.length ds ∧ ∀ H', Same H H' → Q .non H'
theorem ok_Fa (T : Tx w K mg C D Z) (GRl : Fc P w K mg base 1 "rule_length" ["rule", "lengths"] (spRl K)) (GEa : Fc P w K mg base 1 "earlier" ["rule"] spEa) (F : Df K mg "fault" sFa) : Fc P w K mg base 2 "fault" ["rule", "lengths"] spFa := by
  obtain ⟨es, nn, kS⟩ := T.kS
  refine fc_of F (fun _ _ _ _ _ _ us hl => match us, hl with | [_, _], _ => rfl) scFa (fun vs H Q E h => ?_) (fun f cdv A outer s H vs Q E hr h => ?_)
  · obtain ⟨a, l, r, ds, rfl, _⟩ := h
    rfl
  · obtain ⟨a, l, r, ds, rfl, ha, hl, ok, q⟩ := h
    obtain ⟨u, hu, ru⟩ := T.vS _ r.size
    have hu : PySem.W.nsIn K Z r.word = some (some u) := hu
    refine ⟨_, (pss_cons (ps_set (i := 2) scFa.nd rfl (by first | exact Or.inl rfl | exact Or.inr rfl) (pe_ifExp (pt_truth (pv 0) (by intro _; rfl)) (pe_ix ix_tup (pv 0) pe_int (fun _ _ => rfl)) pe_str))
      (pss_cons (ps_if (pt_cmpR (op_notIn_kd kS) (pv 2) (pe_glob (v := .ref Z) (by rfl) T.mgS rfl) rfl) (pss_one (ps_ret pe_str)) pss_nil)
      (pss_cons (ps_if (pt_cmpR op_ne (pe_callB (id := "len") (call_lenK K) (by rfl) T.len_ (by decide +kernel) (pa_cons (pv 0) pa_nil)) (pe_ix ix_kdict (pe_glob (v := .ref Z) (by rfl) T.mgS rfl) (pv 2) (fun _ _ => rfl)) (nomark _)) (pss_one (ps_ret pe_str)) pss_nil)
      (pss_cons (ps_if (pt_cmpR op_eq (pv 2) pe_str (nomark _)) (pss_cons (ps_set (i := 3) scFa.nd rfl (by first | exact Or.inl rfl | exact Or.inr rfl) (pe_and (pe_cmpR op_le (pe_callB (id := "len") call_len_str (by rfl) T.len_ (by decide +kernel) (pa_cons (pe_ix ix_tup (pv 0) pe_int (fun _ _ => rfl)) pa_nil)) (pe_gi T.MOST_WRITTEN) (nomark _)) (pe_one (pe_callB (id := "all") (cr_all rfl) (by rfl) T.all_ (by decide +kernel) (pa_cons (pe_lc (own := [("letter", 4)]) (g := gName 4) (tt := tYes) rfl scFa.nd (pi_str (pe_ix ix_tup (pv 0) pe_int (fun _ _ => rfl))) (blkOk_by (N := ["rule", "lengths", "word", "is_allowed", "letter", "number"]) (sc := defScope sFa) (by decide +kernel)) (fun _ _ _ _ _ => pg_name (i := 4) scFa.nd rfl (Or.inl rfl)) (fun _ _ _ _ _ => pts_nil) (fun _ _ _ _ _ => (pe_cmpR op_in_sign (pv 4) (pe_gs T.LETTERS) rfl))) pa_nil)))))
      (pss_one (ps_ret (pe_ifExp (pt_val (pv 3)) pe_non pe_str)))) pss_nil)
      (pss_cons (ps_if (pt_not (pt_val (pe_callB (id := "all") (cr_all rfl) (by rfl) T.all_ (by decide +kernel) (pa_cons (pe_lc (own := [("number", 5)]) (g := gName 5) (tt := tYes) rfl scFa.nd (pi_tup (pe_c GEa (hr.mono (by decide)) (pa_cons (pv 0) pa_nil))) (blkOk_by (N := ["rule", "lengths", "word", "is_allowed", "letter", "number"]) (sc := defScope sFa) (by decide +kernel)) (fun _ _ _ _ _ => pg_name (i := 5) scFa.nd rfl (Or.inl rfl)) (fun _ _ _ _ _ => pts_nil) (fun _ _ _ _ _ => (pe_chain op_le op_lt pe_int (pv 5) (pe_callB (id := "len") (call_lenK K) (by rfl) T.len_ (by decide +kernel) (pa_cons (pv 1) pa_nil))))) pa_nil)))) (pss_one (ps_ret pe_str)) pss_nil)
      (pss_cons (ps_if (PW.pt (pw_and (pt_cmpR op_eq (pv 2) pe_str (nomark _)) (pw_and1 (pt_not (pt_chain op_le op_le pe_int (pe_ix ix_tup (pv 0) pe_int (fun _ _ => rfl)) (pe_gi T.MOST_LETTERS)))))) (pss_one (ps_ret pe_str)) pss_nil)
      (pss_cons (ps_if (PW.pt (pw_and (pt_cmpR op_eq (pv 2) pe_str (nomark _)) (pw_and1 (pt_not (pt_chain3 op_le op_le op_le pe_int (pe_ix ix_tup (pv 0) pe_int (fun _ _ => rfl)) (pe_ix ix_tup (pv 0) pe_int (fun _ _ => rfl)) (pe_ix ix_list (pv 1) (pe_ix ix_tup (pv 0) pe_int (fun _ _ => rfl)) (fun _ _ => rfl))))))) (pss_one (ps_ret pe_str)) pss_nil)
      (pss_one (ps_ret (pe_ifExp (pt_cmpR op_gt (pe_c GRl (hr.mono (by decide)) (pa_cons (pv 0) (pa_cons (pv 1) pa_nil))) (pe_gi T.MOST_LETTERS) (nomark _)) pe_str pe_non)))))))))), ?_⟩
    -- word = rule[0] if rule else ''
    refine ⟨_, rfl, true, .inr (.inl ⟨_, SqT.of ha, r.vs_some.symm⟩), iteT ?_⟩
    refine ⟨_, rfl, a, _, _, _, rfl, rfl, SqT.of ha, atI_nat (j := 0) r.vs_word, ?_⟩
    -- word not in SIZES, len(rule) != SIZES[word]
    refine ⟨_, rfl, _, _, rfl, rfl, hu, _, rfl, iteF ?_⟩
    refine ⟨_, rfl, a, _, rfl, .inr (SqT.of ha), _, rfl, Z, _, .int (r.vs.length : Int), rfl, rfl, ⟨es, nn, u, kS.at_, kS.lit, hu, ru⟩, rfl, _, rfl, inN rfl ?_⟩
    by_cases hlt : ∃ s, r = .lt s
    · obtain ⟨t, rfl⟩ := hlt
      refine ⟨_, rfl, rfl, _, rfl, ifP rfl ?_⟩
      obtain ⟨h64, hall⟩ := ok.2
      -- len(rule[1]) <= MOST_WRITTEN and all(..)
      refine ⟨_, rfl, a, _, _, _, rfl, rfl, SqT.of ha, atI_nat (j := 1) rfl, S t, rfl, (by rw [SX.S_len]; exact sz (by omega)), _, _, rfl, rfl, _, rfl, ifP (show (((S t).length : Nat) : Int) ≤ 64 by rw [SX.S_len]; omega) ?_⟩
      refine ⟨_, rfl, a, _, _, _, rfl, rfl, SqT.of ha, atI_nat (j := 1) rfl, S t, rfl, fun D hD => ?_⟩
      refine lc_it (walk_str (z := S t)) (fun i H' => Same H H' ∧ H' D = some (.lst (List.replicate i (V.bl true)))) ⟨same_upd hD, upd_same⟩ (fun _ _ _ _ => trivial) ?_ ?_
      · rintro i x H1 H2 hi ⟨s1, h1⟩ ⟨rfl, c, hc, rfl⟩
        have hm : isL c = true := by
          have e : (S t).cps[i]? = t[i]? := by simp [S]
          rw [e] at hc
          exact List.all_eq_true.mp hall c (List.mem_of_getElem? hc)
        refine ⟨rfl, ?_⟩
        dsimp only [tYes]
        rw [if_pos rfl]
        refine ⟨_, rfl, c, letS, rfl, rfl, ?_⟩
        rw [decide_eq_true (letS_mem hm)]
        have hi64 : i < t.length := by
          have e : (S t).cps.size = t.length := SX.S_len t
          rw [← e]; exact hi
        refine ⟨_, h1, ?_, sMut s1 hD, ?_⟩
        · rw [List.length_replicate]
          exact szl (by omega)
        · rw [upd_same, List.replicate_succ']
      · rintro H1 ⟨s1, h1⟩
        refine ⟨D, List.replicate (S t).cps.size true, rfl, ?_, ?_⟩
        · rw [← rep_true]
          exact SqL.of h1
        · rw [rep_all]
          -- return None
          exact ⟨_, rfl, true, rfl, iteT (q _ s1)⟩
    · have hw : ¬ (V.str r.word = V.str "letters") := by
        cases r with
        | lt s => exact absurd ⟨s, rfl⟩ hlt
        | jn i j => exact wjl
        | pw i k => exact wpl
        | pt i b c => exact wtl
        | bk i => exact wbl
      refine ⟨_, rfl, rfl, _, rfl, ifN hw ?_⟩
      -- all([0 <= number < len(lengths) for number in earlier(rule)])
      refine ⟨_, rfl, a, r, rfl, ha, fun p H1 s1 hp => ?_⟩
      refine ⟨p, rfl, ⟨_, SqT.of hp⟩, fun D hD => ?_⟩
      refine lc_tup (K := K) (a := p) (xs := r.refs.map fun (n : Nat) => V.int (n : Int)) (fun i H' => Same H1 H' ∧ H' D = some (.lst (List.replicate i (V.bl true)))) ⟨same_upd hD, upd_same⟩ (fun i H' _ ⟨s2, _⟩ => SqT.of (s2 _ _ hp)) ?_ ?_
      · rintro i x H2 hi ⟨s2, h2⟩
        obtain ⟨n, hn, rfl⟩ : ∃ n, r.refs[i]? = some n ∧ x = V.int (n : Int) := by
          rw [List.getElem?_map] at hi
          cases e : r.refs[i]? with
          | none => rw [e] at hi; cases hi
          | some n => rw [e] at hi; exact ⟨n, rfl, (Option.some.inj hi).symm⟩
        have hlt2 := Ru.refs_lt ok n (List.mem_of_getElem? hn)
        have hl2 : H2 l = some (.lst (lens ds)) := s2 _ _ (s1 _ _ hl)
        have h5 : i < 5 := by
          have e := (List.getElem?_eq_some_iff.mp hn).1
          have : r.refs.length ≤ 2 := by cases r <;> simp [Ru.refs]
          omega
        refine ⟨rfl, ?_⟩
        dsimp only [tYes]
        rw [if_pos rfl]
        refine ⟨_, rfl, _, _, rfl, rfl, _, rfl, ifP (show (0 : Int) ≤ (n : Int) by omega) ?_⟩
        refine ⟨_, rfl, l, _, rfl, .inl (SqL.of hl2), _, _, rfl, rfl, ?_⟩
        have e : decide ((n : Int) < (((lens ds).length : Nat) : Int)) = true := decide_eq_true (by rw [lens_len]; omega)
        refine ⟨_, h2, ?_, sMut s2 hD, ?_⟩
        · rw [List.length_replicate]
          exact szl (by omega)
        · show upd H2 D (.lst (List.replicate i (V.bl true) ++ [V.bl (decide ((n : Int) < (((lens ds).length : Nat) : Int)))])) D = _
          rw [upd_same, e, List.replicate_succ']
      · rintro H2 ⟨s2, h2⟩
        have s12 := s1.trans s2
        refine ⟨D, List.replicate (r.refs.map fun (n : Nat) => V.int (n : Int)).length true, rfl, ?_, ?_⟩
        · rw [← rep_true]
          exact SqL.of h2
        rw [rep_all]
        refine ⟨true, rfl, nF ?_⟩
        have ha2 := s12 _ _ ha
        have hl2 := s12 _ _ hl
        -- the last
        have fin : ¬ ((1000000000000 : Int) < (((r.den ds).length : Nat) : Int)) := by
          have := ok.1
          have := MX_eq
          omega
        have last := fun (z : Unit) => q _ s12
        cases r with
        | lt s => exact absurd ⟨s, rfl⟩ hlt
        | jn i j =>
          refine ⟨_, rfl, rfl, _, rfl, ifN wjp (iteF ?_)⟩
          refine ⟨_, rfl, rfl, _, rfl, ifN wjt (iteF ?_)⟩
          exact ⟨_, rfl, _, rfl, a, l, _, ds, rfl, ha2, .inl (SqL.of hl2), ok, _, _, rfl, rfl, _, rfl, ifN fin (last ())⟩
        | pw i k =>
          have hk := ok.2.2
          have hx := MX_eq
          refine ⟨_, rfl, rfl, _, rfl, ifP rfl ?_⟩
          refine ⟨_, rfl, a, _, _, _, rfl, rfl, SqT.of ha2, atI_nat (j := 2) rfl, _, _, rfl, rfl, _, rfl, ifP (show (0 : Int) ≤ (k : Int) by omega) ?_⟩
          refine ⟨_, _, rfl, rfl, _, rfl, inN (show (k : Int) ≤ 1000000000000 by omega) ?_⟩
          refine ⟨_, rfl, rfl, _, rfl, ifN wpt (iteF ?_)⟩
          exact ⟨_, rfl, _, rfl, a, l, _, ds, rfl, ha2, .inl (SqL.of hl2), ok, _, _, rfl, rfl, _, rfl, ifN fin (last ())⟩
        | pt i b c =>
          obtain ⟨o1, o2, o3⟩ := ok.2
          refine ⟨_, rfl, rfl, _, rfl, ifN wtp (iteF ?_)⟩
          refine ⟨_, rfl, rfl, _, rfl, ifP rfl ?_⟩
          refine ⟨_, rfl, a, _, _, _, rfl, rfl, SqT.of ha2, atI_nat (j := 2) rfl, _, _, rfl, rfl, _, rfl, ifP (show (0 : Int) ≤ (b : Int) by omega) ?_⟩
          refine ⟨_, rfl, a, _, _, _, rfl, rfl, SqT.of ha2, atI_nat (j := 3) rfl, _, _, rfl, rfl, _, rfl, ifP (show (b : Int) ≤ (c : Int) by omega) ?_⟩
          refine ⟨_, rfl, _, rfl, a, _, _, _, rfl, rfl, SqT.of ha2, atI_nat (j := 1) rfl, l, _, _, _, rfl, rfl, SqL.of hl2, atI_nat (lens_atD o1), _, _, rfl, rfl, _, rfl, inN (show (c : Int) ≤ (((ds.getD i []).length : Nat) : Int) by omega) ?_⟩
          exact ⟨_, rfl, _, rfl, a, l, _, ds, rfl, ha2, .inl (SqL.of hl2), ok, _, _, rfl, rfl, _, rfl, ifN fin (last ())⟩
        | bk i =>
          refine ⟨_, rfl, rfl, _, rfl, ifN wbp (iteF ?_)⟩
          refine ⟨_, rfl, rfl, _, rfl, ifN wbt (iteF ?_)⟩
          exact ⟨_, rfl, _, rfl, a, l, _, ds, rfl, ha2, .inl (SqL.of hl2), ok, _, _, rfl, rfl, _, rfl, ifN fin (last ())⟩
end
end Sh
set_option Elab.async false
set_option linter.all false
set_option maxRecDepth 100000
set_option maxHeartbeats 4000000
namespace Sh
open PySem PySem.Spec PyProof.Rows L2
open SX (S)
theorem walk_enumT {a : Addr} {xs : List V} : Walk (Itet a) xs.length (fun H => H a = some (.tup xs)) (YPair (fun i => some (.int (i : Nat))) (fun i => xs[i]?)) := by
  refine ⟨fun i _ hi q => ⟨xs, xs[i], q, by simp [hi]⟩, fun _ q => ⟨xs, q, rfl⟩, fun i H v H' _ q y => ?_⟩
  obtain ⟨T, x, h1, h2, h3, h4⟩ := y
  exact ⟨T, .int (i : Nat), x, h1, h2, h3, rfl, h4 xs q⟩
section
variable {P : Program} {w : World} {K : PySem.W.Frag} {mg : Str → Option Value} {base : Heap} {C D Z : Addr}
/-! ### check_rules -/
/-- a list or a tuple of these stands at t -/
def LT (H : Hp) (t : Addr) (xs : List V) : Prop := H t = some (.lst xs) ∨ H t = some (.tup xs)
theorem LT.same {H H' : Hp} {t : Addr} {xs : List V} (h : LT H t xs) (s : Same H H') : LT H' t xs := h.elim (fun h => .inl (s _ _ h)) (fun h => .inr (s _ _ h))
theorem LT.sq {H : Hp} {t : Addr} {xs : List V} (h : LT H t xs) : SqL K H t xs ∨ SqT K H t xs := h.elim (fun h => .inl (SqL.of h)) (fun h => .inr (SqT.of h))
def spCr : Sp := fun vs H Q _ => ∃ (t : Addr) (as : List Addr) (rs : List Ru) (ds : List L), vs = [.ref t] ∧ LT H t (as.map V.ref) ∧ RusAt H as rs ∧ Dn rs ds ∧ 1 ≤ rs.length ∧ rs.length ≤ 60 ∧ ∀ H', Same H H' → Q .non H'
theorem ok_Cr (T : Tx w K mg C D Z) (GFa : Fc P w K mg base 2 "fault" ["rule", "lengths"] spFa) (GRl : Fc P w K mg base 1 "rule_length" ["rule", "lengths"] (spRl K)) (F : Df K mg "check_rules" sCr) : Fc P w K mg base 3 "check_rules" ["rules"] spCr := by
  refine fc_of F (fun _ _ _ _ _ _ us hl => match us, hl with | [_], _ => rfl) scCr (fun vs H Q E h => ?_) (fun f cdv A outer s H vs Q E hr h => ?_)
  · obtain ⟨t, as, rs, ds, rfl, _⟩ := h
    rfl
  · obtain ⟨t, as, rs, ds, rfl, ht, hrs, hd, h1, h60, q⟩ := h
    have hlen : (((as.map V.ref).length : Nat) : Int) = (rs.length : Int) := by rw [List.length_map, hrs.len]
    -- a turn
    have turn : ∀ (l : Addr) (i : Nat) (x1 x2 : V) (T' : Addr) (H1 : Hp), i < rs.length → (as.map V.ref)[i]? = some x2 → Same H H1 → H1 l = some (.lst (lens (ds.take i))) → H1 T' = none →
        ∀ ra : Ru, rs[i]? = some ra → ∃ a, x2 = .ref a ∧ (upd H1 T' (.tup [x1, x2])) a = some (.tup ra.vs) ∧ ra.ok (ds.take i).length (ds.take i) ∧ ds[i]? = some (ra.den (ds.take i)) ∧ Same H (upd H1 T' (.tup [x1, x2])) ∧ (upd H1 T' (.tup [x1, x2])) l = some (.lst (lens (ds.take i))) := by
      intro l i x1 x2 T' H1 hi hx2 s1 hl1 hT ra hra
      obtain ⟨a, ea, ea2, ha⟩ := hrs.get hra
      have ex : x2 = .ref a := Option.some.inj (hx2.symm.trans ea2)
      obtain ⟨k1, k2⟩ := hd.take hra
      have htl : (ds.take i).length = i := by
        have := hd.len
        rw [List.length_take]; omega
      have s2 : Same H1 (upd H1 T' (.tup [x1, x2])) := same_upd hT
      exact ⟨a, ex, s2 _ _ (s1 _ _ ha), by rw [htl]; exact k1, k2, s1.trans s2, s2 _ _ hl1⟩
    have e0 : ds.take 0 = [] := List.take_zero
    have step : ∀ (l : Addr) (i : Nat) (ra : Ru) (H3 : Hp), H l = none → i < rs.length → Same H H3 → ds[i]? = some (ra.den (ds.take i)) →
        Same H (upd H3 l (.lst (lens (ds.take i) ++ [.int (((ra.den (ds.take i)).length : Nat) : Int)]))) ∧ (upd H3 l (.lst (lens (ds.take i) ++ [.int (((ra.den (ds.take i)).length : Nat) : Int)]))) l = some (.lst (lens (ds.take (i + 1)))) := by
      intro l i ra H3 hl hi s3 k2
      refine ⟨sMut s3 hl, ?_⟩
      rw [upd_same, List.take_add_one, k2]
      show some (HO.lst _) = some (HO.lst (lens (ds.take i ++ [_])))
      rw [lens_snoc]
    rcases ht with ht | ht
    · refine ⟨_, (pss_cons (ps_if (pt_not (pt_chain op_le op_le pe_int (pe_callB (id := "len") (call_lenK K) (by rfl) T.len_ (by decide +kernel) (pa_cons (pv 0) pa_nil)) (pe_gi T.MOST_RULES))) (pss_one ps_never) pss_nil)
      (pss_cons (ps_set (i := 1) scCr.nd rfl (by first | exact Or.inl rfl | exact Or.inr rfl) (pe_lst pa_nil))
      (pss_one (ps_for PassesOwn.never rfl (pi_enum (by rfl) T.enumerate_ (pa_cons (pv 0) pa_nil)) (pg_tup rfl (pgs_cons (pg_name (i := 2) scCr.nd rfl (Or.inl rfl)) (pgs_cons (pg_name (i := 3) scCr.nd rfl (Or.inl rfl)) pgs_nil))) (pss_cons (ps_set (i := 4) scCr.nd rfl (by first | exact Or.inl rfl | exact Or.inr rfl) (pe_c GFa (hr.mono (by decide)) (pa_cons (pv 3) (pa_cons (pv 1) pa_nil))))
      (pss_cons (ps_if (pt_cmpR op_notN (pv 4) pe_non (nomark _)) (pss_one ps_never) pss_nil)
      (pss_one (ps_expr (pe_bm PySem.F.plainAttrs_list PySem.F.slot_list_append PySem.F.type_list_append mt_append (pv 1) (pa_cons (pe_c GRl (hr.mono (by decide)) (pa_cons (pv 3) (pa_cons (pv 1) pa_nil))) pa_nil)))))))))), ?_⟩
      refine ⟨_, rfl, t, _, rfl, .inl (SqL.of ht), _, _, rfl, rfl, _, rfl, ifP (show (1 : Int) ≤ _ by rw [hlen]; omega) ?_⟩
      refine ⟨_, _, rfl, rfl, _, rfl, inN (show _ ≤ (60 : Int) by rw [hlen]; omega) ?_⟩
      refine ⟨Nat.zero_le _, fun l hl => ?_⟩
      have s0 : Same H (upd H l (.lst [])) := same_upd hl
      refine ⟨_, rfl, t, _, rfl, SqL.of (s0 _ _ ht), for_it walk_enum (fun i σ H' => ∃ v2 v3 v4, σ = [some (.ref t), some (.ref l), v2, v3, v4] ∧ Same H H' ∧ H' l = some (.lst (lens (ds.take i))))
        ⟨none, none, none, rfl, s0, by rw [e0]; exact upd_same⟩ (fun i σ H' _ ⟨_, _, _, _, s1, _⟩ => SqL.of (s1 _ _ ht)) ?_ ?_⟩
      · rintro i v σ H1 H2 hi ⟨v2, v3, v4, rfl, s1, hl1⟩ ⟨T', x1, x2, rfl, hT, rfl, e1, e2⟩
        have hir : i < rs.length := by rw [← hrs.len]; rw [List.length_map] at hi; exact hi
        obtain ⟨a, rfl, ha, k1, k2, s2, hl2⟩ := turn l i x1 x2 T' H1 hir e2 s1 hl1 hT _ (List.getElem?_eq_getElem hir)
        refine ⟨T', [x1, .ref a], rfl, SqT.of upd_same, rfl, x1, [.ref a], rfl, .ref a, [], rfl, rfl, ?_⟩
        refine ⟨_, rfl, _, rfl, a, l, rs[i], ds.take i, rfl, ha, hl2, k1, fun H3 s3 => ?_⟩
        refine ⟨_, rfl, rfl, _, rfl, inN rfl ?_⟩
        have s23 := s2.trans s3
        refine ⟨_, rfl, .inl ⟨rfl, _, SqL.of (s3 _ _ hl2)⟩, _, rfl, _, rfl, a, l, rs[i], ds.take i, rfl, s3 _ _ ha, .inl (SqL.of (s3 _ _ hl2)), k1, ?_⟩
        refine ⟨l, _, _, rfl, rfl, s3 _ _ hl2, ?_, ?_⟩
        · rw [lens_len, List.length_take]
          exact szl (by omega)
        · obtain ⟨f1, f2⟩ := step l i rs[i] H3 hl hir s23 k2
          exact ⟨some x1, some (.ref a), some .non, rfl, f1, f2⟩
      · rintro σ H' ⟨v2, v3, v4, rfl, s1, _⟩
        exact q _ s1
    · refine ⟨_, (pss_cons (ps_if (pt_not (pt_chain op_le op_le pe_int (pe_callB (id := "len") (call_lenK K) (by rfl) T.len_ (by decide +kernel) (pa_cons (pv 0) pa_nil)) (pe_gi T.MOST_RULES))) (pss_one ps_never) pss_nil)
      (pss_cons (ps_set (i := 1) scCr.nd rfl (by first | exact Or.inl rfl | exact Or.inr rfl) (pe_lst pa_nil))
      (pss_one (ps_for PassesOwn.never rfl (pi_enumT (by rfl) T.enumerate_ (pa_cons (pv 0) pa_nil)) (pg_tup rfl (pgs_cons (pg_name (i := 2) scCr.nd rfl (Or.inl rfl)) (pgs_cons (pg_name (i := 3) scCr.nd rfl (Or.inl rfl)) pgs_nil))) (pss_cons (ps_set (i := 4) scCr.nd rfl (by first | exact Or.inl rfl | exact Or.inr rfl) (pe_c GFa (hr.mono (by decide)) (pa_cons (pv 3) (pa_cons (pv 1) pa_nil))))
      (pss_cons (ps_if (pt_cmpR op_notN (pv 4) pe_non (nomark _)) (pss_one ps_never) pss_nil)
      (pss_one (ps_expr (pe_bm PySem.F.plainAttrs_list PySem.F.slot_list_append PySem.F.type_list_append mt_append (pv 1) (pa_cons (pe_c GRl (hr.mono (by decide)) (pa_cons (pv 3) (pa_cons (pv 1) pa_nil))) pa_nil)))))))))), ?_⟩
      refine ⟨_, rfl, t, _, rfl, .inr (SqT.of ht), _, _, rfl, rfl, _, rfl, ifP (show (1 : Int) ≤ _ by rw [hlen]; omega) ?_⟩
      refine ⟨_, _, rfl, rfl, _, rfl, inN (show _ ≤ (60 : Int) by rw [hlen]; omega) ?_⟩
      refine ⟨Nat.zero_le _, fun l hl => ?_⟩
      have s0 : Same H (upd H l (.lst [])) := same_upd hl
      refine ⟨_, rfl, t, _, rfl, s0 _ _ ht, for_it walk_enumT (fun i σ H' => ∃ v2 v3 v4, σ = [some (.ref t), some (.ref l), v2, v3, v4] ∧ Same H H' ∧ H' l = some (.lst (lens (ds.take i))))
        ⟨none, none, none, rfl, s0, by rw [e0]; exact upd_same⟩ (fun i σ H' _ ⟨_, _, _, _, s1, _⟩ => s1 _ _ ht) ?_ ?_⟩
      · rintro i v σ H1 H2 hi ⟨v2, v3, v4, rfl, s1, hl1⟩ ⟨T', x1, x2, rfl, hT, rfl, e1, e2⟩
        have hir : i < rs.length := by rw [← hrs.len]; rw [List.length_map] at hi; exact hi
        obtain ⟨a, rfl, ha, k1, k2, s2, hl2⟩ := turn l i x1 x2 T' H1 hir e2 s1 hl1 hT _ (List.getElem?_eq_getElem hir)
        refine ⟨T', [x1, .ref a], rfl, SqT.of upd_same, rfl, x1, [.ref a], rfl, .ref a, [], rfl, rfl, ?_⟩
        refine ⟨_, rfl, _, rfl, a, l, rs[i], ds.take i, rfl, ha, hl2, k1, fun H3 s3 => ?_⟩
        refine ⟨_, rfl, rfl, _, rfl, inN rfl ?_⟩
        have s23 := s2.trans s3
        refine ⟨_, rfl, .inl ⟨rfl, _, SqL.of (s3 _ _ hl2)⟩, _, rfl, _, rfl, a, l, rs[i], ds.take i, rfl, s3 _ _ ha, .inl (SqL.of (s3 _ _ hl2)), k1, ?_⟩
        refine ⟨l, _, _, rfl, rfl, s3 _ _ hl2, ?_, ?_⟩
        · rw [lens_len, List.length_take]
          exact szl (by omega)
        · obtain ⟨f1, f2⟩ := step l i rs[i] H3 hl hir s23 k2
          exact ⟨some x1, some (.ref a), some .non, rfl, f1, f2⟩
      · rintro σ H' ⟨v2, v3, v4, rfl, s1, _⟩
        exact q _ s1
end
end Sh
set_option Elab.async false
set_option linter.all false
set_option maxRecDepth 100000
set_option maxHeartbeats 4000000
namespace Sh
open PySem PySem.Spec PyProof.Rows L2
open SX (S)
section
variable {P : Program} {w : World} {K : PySem.W.Frag} {mg : Str → Option Value} {base : Heap} {C D Z : Addr}
/-! ### Text.__init__ -/
def spTi (C : Addr) : Sp := fun vs H Q _ => ∃ (x dx t : Addr) (as : List Addr) (rs : List Ru) (ds : List L) (d : L), vs = [.ref x, .ref t] ∧ H x = some (.ins C dx []) ∧ LT H t (as.map V.ref) ∧ RusAt H as rs ∧ Dn rs ds ∧ ds.getLast? = some d ∧ rs.length ≤ 60 ∧
  ∀ H', (∀ b o, H b = some o → b ≠ x → H' b = some o) → TxtAt C H' x ds.length d → Q .non H'
theorem ok_Ti (T : Tx w K mg C D Z) (GCr : Fc P w K mg base 3 "check_rules" ["rules"] spCr) (GLo : Fc P w K mg base 2 "lengths_of" ["rules"] (spLo K)) (F : Dk K C "Text.__init__" sTi) : Fk P w K mg base 4 "Text" C ["self", "rules"] (spTi C) := by
  refine fk_of F T.mgT (fun _ _ _ _ _ _ us hl => match us, hl with | [_, _], _ => rfl) scTi (fun vs H Q E h => ?_) (fun f cdv A outer s H vs Q E hr h => ?_)
  · obtain ⟨x, dx, t, as, rs, ds, d, rfl, _⟩ := h
    rfl
  · obtain ⟨x, dx, t, as, rs, ds, d, rfl, hx, ht, hrs, hd, hlast, h60, q⟩ := h
    have h1 : 1 ≤ rs.length := by
      rw [hd.len]
      cases ds with
      | nil => cases hlast
      | cons a b => exact Nat.succ_pos _
    -- behind the rules' tuple
    have rest : ∀ (tr : Addr) (H3 : Hp), Same H H3 → H3 tr = none → ∀ (tl : Addr) (H5 : Hp), Same (upd (upd H3 tr (.tup (as.map V.ref))) x (.ins C dx (putF "rules" (.ref tr) []))) H5 → H5 tl = some (.tup (lens ds)) → Q .non (upd (upd H5 x (.ins C dx (putF "lengths" (.ref tl) (putF "rules" (.ref tr) [])))) x (.ins C dx (tf tr tl ((d.length : Nat) : Int)))) := by
      intro tr H3 s3 htr tl H5 s5 htl
      have nxt : x ≠ tr := ne_of_none (s3 _ _ hx) htr
      have up : ∀ b o, H b = some o → b ≠ x → H5 b = some o := fun b o e n => by
        refine s5 _ _ ?_
        rw [upd_ne n, upd_ne (ne_of_none (s3 _ _ e) htr)]
        exact s3 _ _ e
      have hx5 : H5 x = some (.ins C dx (putF "rules" (.ref tr) [])) := s5 _ _ upd_same
      have g : ∀ b xs, H5 b = some (.tup xs) → (upd (upd H5 x (.ins C dx (putF "lengths" (.ref tl) (putF "rules" (.ref tr) [])))) x (.ins C dx (tf tr tl ((d.length : Nat) : Int)))) b = some (.tup xs) := fun b xs e => by
        have n : b ≠ x := fun z => by
          rw [z, hx5] at e
          cases e
        rw [upd_ne n, upd_ne n]
        exact e
      refine q _ (fun b o e n => ?_) ⟨rs, ds, as, dx, tr, tl, upd_same, g _ _ (s5 _ _ ?_), ⟨hrs.len, fun i a r ha hr => ?_⟩, g _ _ htl, hd, rfl, hlast⟩
      · rw [upd_ne n, upd_ne n]
        exact up b o e n
      · rw [upd_ne nxt.symm, upd_same]
      · have e := hrs.at_ i a r ha hr
        have n : a ≠ x := fun z => by
          rw [z, hx] at e
          cases e
        exact g _ _ (up _ _ e n)
    rcases ht with ht | ht
    · refine ⟨_, (pss_cons (ps_expr (pe_c GCr (hr.mono (by decide)) (pa_cons (pv 1) pa_nil)))
      (pss_cons (ps_fld (pv 0) (pe_callTy (T := "tuple") (call_tupK K) (by rfl) T.tuple_ (by decide +kernel) (pa_cons (pe_lc (own := [("rule", 2)]) (g := gName 2) (tt := tYes) rfl scTi.nd (pi_list (pv 1)) (blkOk_by (N := ["self", "rules", "rule"]) (sc := defScope sTi) (by decide +kernel)) (fun _ _ _ _ _ => pg_name (i := 2) scTi.nd rfl (Or.inl rfl)) (fun _ _ _ _ _ => pts_nil) (fun _ _ _ _ _ => (pe_callTy (T := "tuple") (call_tupK K) (by rfl) T.tuple_ (by decide +kernel) (pa_cons (pv 2) pa_nil)))) pa_nil)) rfl)
      (pss_cons (ps_fld (pv 0) (pe_c GLo (hr.mono (by decide)) (pa_cons (pe_fld (pv 0) rfl) pa_nil)) rfl)
      (pss_one (ps_fld (pv 0) (pe_ix ix_tup (pe_fld (pv 0) rfl) (pe_un un_neg pe_int) (fun _ _ => rfl)) rfl))))), ?_⟩
      refine ⟨_, rfl, t, as, rs, ds, rfl, .inl ht, hrs, hd, h1, h60, fun H1 s1 => ?_⟩
      refine ⟨_, rfl, t, rfl, ⟨_, SqL.of (s1 _ _ ht)⟩, fun l hl => ?_⟩
      refine lc_it (walk_list (K := K) (a := t) (xs := as.map V.ref)) (fun i H' => Same H1 H' ∧ H' l = some (.lst ((as.map V.ref).take i))) ⟨same_upd hl, upd_same⟩ (fun i H' _ ⟨s2, _⟩ => SqL.of (s2 _ _ (s1 _ _ ht))) ?_ ?_
      · rintro i y H2 H2' hi ⟨s2, hl2⟩ ⟨rfl, hy⟩
        have hir : i < rs.length := by rw [← hrs.len]; rw [List.length_map] at hi; exact hi
        obtain ⟨a, ea, ea2, ha⟩ := hrs.get (List.getElem?_eq_getElem hir)
        have ey : y = .ref a := Option.some.inj (hy.symm.trans ea2)
        subst ey
        refine ⟨rfl, ?_⟩
        dsimp only [tYes]
        rw [if_pos rfl]
        refine ⟨_, rfl, a, _, rfl, .inr ⟨SqT.of (s2 _ _ (s1 _ _ ha)), ?_⟩⟩
        refine ⟨_, hl2, ?_, sMut s2 hl, ?_⟩
        · rw [List.length_take]
          exact szl (by omega)
        · rw [upd_same, List.take_add_one, hy]
          rfl
      · rintro H2 ⟨s2, hl2⟩
        rw [List.take_length] at hl2
        have s12 := s1.trans s2
        refine ⟨l, _, rfl, .inl ⟨SqL.of hl2, fun tr htr => ?_⟩⟩
        have nxt : x ≠ tr := ne_of_none (s12 _ _ hx) htr
        have sT : Same H2 (upd H2 tr (.tup (as.map V.ref))) := same_upd htr
        refine ⟨_, rfl, x, C, dx, [], rfl, sT _ _ (s12 _ _ hx), T.clT, T.tR, (by show 0 < 1000; decide), ?_⟩
        have hxA : ∀ b xs, H b = some (.tup xs) → (upd (upd H2 tr (.tup (as.map V.ref))) x (.ins C dx (putF "rules" (.ref tr) []))) b = some (.tup xs) := fun b xs e => by
          have n : b ≠ x := fun z => by
            rw [z, hx] at e
            cases e
          rw [upd_ne n]
          exact sT _ _ (s12 _ _ e)
        refine ⟨_, rfl, x, C, dx, _, _, rfl, upd_same, T.clT, T.tR, (by rw [lookup_putF, if_pos rfl]), tr, as, rs, ds, rfl, (by rw [upd_ne nxt.symm, upd_same]), ⟨hrs.len, fun i a r ha hr => hxA _ _ (hrs.at_ i a r ha hr)⟩, hd, by omega, fun tl H5 s5 htl => ?_⟩
        have hx5 := s5 _ _ upd_same
        refine ⟨_, rfl, x, C, dx, _, rfl, hx5, T.clT, T.tL, (by show 1 < 1000; decide), ?_⟩
        have ntl : tl ≠ x := fun z => by
          rw [z, hx5] at htl
          cases htl
        refine ⟨_, rfl, x, C, dx, _, _, rfl, upd_same, T.clT, T.tL, (by rw [lookup_putF, if_pos rfl]), _, rfl, tl, _, _, _, rfl, rfl, SqT.of (by rw [upd_ne ntl]; exact htl), at_last (lens_last hlast), ?_⟩
        refine ⟨_, rfl, x, C, dx, _, rfl, upd_same, T.clT, T.tN, (by simp only [putF, if_neg n_rl]; show 2 < 1000; decide), ?_⟩
        exact rest tr H2 s12 htr tl H5 s5 htl
    · refine ⟨_, (pss_cons (ps_expr (pe_c GCr (hr.mono (by decide)) (pa_cons (pv 1) pa_nil)))
      (pss_cons (ps_fld (pv 0) (pe_callTy (T := "tuple") (call_tupK K) (by rfl) T.tuple_ (by decide +kernel) (pa_cons (pe_lc (own := [("rule", 2)]) (g := gName 2) (tt := tYes) rfl scTi.nd (pi_tup (pv 1)) (blkOk_by (N := ["self", "rules", "rule"]) (sc := defScope sTi) (by decide +kernel)) (fun _ _ _ _ _ => pg_name (i := 2) scTi.nd rfl (Or.inl rfl)) (fun _ _ _ _ _ => pts_nil) (fun _ _ _ _ _ => (pe_callTy (T := "tuple") (call_tupK K) (by rfl) T.tuple_ (by decide +kernel) (pa_cons (pv 2) pa_nil)))) pa_nil)) rfl)
      (pss_cons (ps_fld (pv 0) (pe_c GLo (hr.mono (by decide)) (pa_cons (pe_fld (pv 0) rfl) pa_nil)) rfl)
      (pss_one (ps_fld (pv 0) (pe_ix ix_tup (pe_fld (pv 0) rfl) (pe_un un_neg pe_int) (fun _ _ => rfl)) rfl))))), ?_⟩
      refine ⟨_, rfl, t, as, rs, ds, rfl, .inr ht, hrs, hd, h1, h60, fun H1 s1 => ?_⟩
      refine ⟨_, rfl, t, rfl, ⟨_, SqT.of (s1 _ _ ht)⟩, fun l hl => ?_⟩
      refine lc_it (walk_tup (K := K) (a := t) (xs := as.map V.ref)) (fun i H' => Same H1 H' ∧ H' l = some (.lst ((as.map V.ref).take i))) ⟨same_upd hl, upd_same⟩ (fun i H' _ ⟨s2, _⟩ => SqT.of (s2 _ _ (s1 _ _ ht))) ?_ ?_
      · rintro i y H2 H2' hi ⟨s2, hl2⟩ ⟨rfl, hy⟩
        have hir : i < rs.length := by rw [← hrs.len]; rw [List.length_map] at hi; exact hi
        obtain ⟨a, ea, ea2, ha⟩ := hrs.get (List.getElem?_eq_getElem hir)
        have ey : y = .ref a := Option.some.inj (hy.symm.trans ea2)
        subst ey
        refine ⟨rfl, ?_⟩
        dsimp only [tYes]
        rw [if_pos rfl]
        refine ⟨_, rfl, a, _, rfl, .inr ⟨SqT.of (s2 _ _ (s1 _ _ ha)), ?_⟩⟩
        refine ⟨_, hl2, ?_, sMut s2 hl, ?_⟩
        · rw [List.length_take]
          exact szl (by omega)
        · rw [upd_same, List.take_add_one, hy]
          rfl
      · rintro H2 ⟨s2, hl2⟩
        rw [List.take_length] at hl2
        have s12 := s1.trans s2
        refine ⟨l, _, rfl, .inl ⟨SqL.of hl2, fun tr htr => ?_⟩⟩
        have nxt : x ≠ tr := ne_of_none (s12 _ _ hx) htr
        have sT : Same H2 (upd H2 tr (.tup (as.map V.ref))) := same_upd htr
        refine ⟨_, rfl, x, C, dx, [], rfl, sT _ _ (s12 _ _ hx), T.clT, T.tR, (by show 0 < 1000; decide), ?_⟩
        have hxA : ∀ b xs, H b = some (.tup xs) → (upd (upd H2 tr (.tup (as.map V.ref))) x (.ins C dx (putF "rules" (.ref tr) []))) b = some (.tup xs) := fun b xs e => by
          have n : b ≠ x := fun z => by
            rw [z, hx] at e
            cases e
          rw [upd_ne n]
          exact sT _ _ (s12 _ _ e)
        refine ⟨_, rfl, x, C, dx, _, _, rfl, upd_same, T.clT, T.tR, (by rw [lookup_putF, if_pos rfl]), tr, as, rs, ds, rfl, (by rw [upd_ne nxt.symm, upd_same]), ⟨hrs.len, fun i a r ha hr => hxA _ _ (hrs.at_ i a r ha hr)⟩, hd, by omega, fun tl H5 s5 htl => ?_⟩
        have hx5 := s5 _ _ upd_same
        refine ⟨_, rfl, x, C, dx, _, rfl, hx5, T.clT, T.tL, (by show 1 < 1000; decide), ?_⟩
        have ntl : tl ≠ x := fun z => by
          rw [z, hx5] at htl
          cases htl
        refine ⟨_, rfl, x, C, dx, _, _, rfl, upd_same, T.clT, T.tL, (by rw [lookup_putF, if_pos rfl]), _, rfl, tl, _, _, _, rfl, rfl, SqT.of (by rw [upd_ne ntl]; exact htl), at_last (lens_last hlast), ?_⟩
        refine ⟨_, rfl, x, C, dx, _, rfl, upd_same, T.clT, T.tN, (by simp only [putF, if_neg n_rl]; show 2 < 1000; decide), ?_⟩
        exact rest tr H2 s12 htr tl H5 s5 htl
end
end Sh
set_option Elab.async false
set_option linter.all false
set_option maxRecDepth 100000
set_option maxHeartbeats 4000000
namespace Sh
open PySem PySem.Spec PyProof.Rows L2
open SX (S)
theorem S_nil : (S []) = (Str.ofString "") := by decide +kernel
theorem dn_one {s : L} (h : s.length ≤ 64) (h2 : s.all isL = true) : Dn [.lt s] [s] := by
  have e := MX_eq
  refine Dn.snoc (r := .lt s) Dn.nil ⟨?_, h, h2⟩
  show s.length ≤ MX
  omega
section
variable {P : Program} {w : World} {K : PySem.W.Frag} {mg : Str → Option Value} {base : Heap} {C D Z : Addr}
/-! ### Text.made -/
def spTm (C : Addr) : Sp := fun vs H Q _ => ∃ (t : Addr) (as : List Addr) (rs : List Ru) (ds : List L) (d : L), vs = [.ref C, .ref t] ∧ H t = some (.lst (as.map V.ref)) ∧ RusAt H as rs ∧ Dn rs ds ∧ ds.getLast? = some d ∧ rs.length ≤ 1000 ∧ RT C H ds.length d Q
theorem ok_Tm (T : Tx w K mg C D Z) (GTi : Fk P w K mg base 4 "Text" C ["self", "rules"] (spTi C)) (GLo : Fc P w K mg base 2 "lengths_of" ["rules"] (spLo K)) (F : Dc K C "made" "Text.made" sTm) : Fcm P w K mg base 6 "Text" C "made" ["cls", "rules"] (spTm C) := by
  refine fcm_of F T.mgT T.rdT (fun _ _ _ _ _ _ us hl => match us, hl with | [_, _], _ => rfl) scTm (fun vs H Q E h => ?_) (fun f cdv A outer s H vs Q E hr h => ?_)
  · obtain ⟨t, as, rs, ds, d, rfl, _⟩ := h
    rfl
  · obtain ⟨t, as, rs, ds, d, rfl, ht, hrs, hd, hlast, hlen, q⟩ := h
    refine ⟨_, (pss_cons (ps_set (i := 2) scTm.nd rfl (by first | exact Or.inl rfl | exact Or.inr rfl) (pe_mkl (i := 0) GTi (hr.mono (by decide)) (pa_cons (pe_tup (pa_cons (pe_tup (pa_cons pe_str (pa_cons pe_str pa_nil))) pa_nil)) pa_nil)))
      (pss_cons (ps_fld (pv 2) (pe_callTy (T := "tuple") (call_tupK K) (by rfl) T.tuple_ (by decide +kernel) (pa_cons (pv 1) pa_nil)) rfl)
      (pss_cons (ps_fld (pv 2) (pe_c GLo (hr.mono (by decide)) (pa_cons (pe_fld (pv 2) rfl) pa_nil)) rfl)
      (pss_cons (ps_fld (pv 2) (pe_ix ix_tup (pe_fld (pv 2) rfl) (pe_un un_neg pe_int) (fun _ _ => rfl)) rfl)
      (pss_one (ps_ret (pv 2))))))), ?_⟩
    refine ⟨rfl, by show 2 ≤ sizeLine; decide, fun a1 h1 => ⟨by show 1 ≤ sizeLine; decide, fun a2 h2 => ?_⟩⟩
    intro x dx nx ndx nex
    have s2 : Same H (upd (upd H a1 (.tup [.str "letters", .str ""])) a2 (.tup [.ref a1])) := (same_upd h1).trans (same_upd h2)
    have s4 : Same (upd (upd H a1 (.tup [.str "letters", .str ""])) a2 (.tup [.ref a1])) (upd (upd (upd (upd H a1 (.tup [.str "letters", .str ""])) a2 (.tup [.ref a1])) dx (.own x)) x (.ins C dx [])) := fun b o e => by
      rw [upd_ne (ne_of_none e nx), upd_ne (ne_of_none e ndx)]
      exact e
    have n12 : a1 ≠ a2 := ne_of_none upd_same h2
    refine ⟨x, dx, a2, [a1], [.lt []], [[]], [], rfl, upd_same, .inr (s4 _ _ upd_same), ⟨rfl, fun i a r ha hr => ?_⟩, dn_one (by decide) (by decide), rfl, by decide, fun H1 k1 x1 => ⟨rfl, ?_⟩⟩
    · match i, ha, hr with
      | 0, ha, hr =>
        have e1 : a1 = a := Option.some.inj ha
        have e2 : Ru.lt [] = r := Option.some.inj hr
        subst e1 e2
        refine s4 _ _ ?_
        rw [upd_ne n12, upd_same]
        show some (HO.tup [V.str "letters", V.str ""]) = some (HO.tup [V.str "letters", V.str (S [])])
        rw [S_nil]
      | i + 1, ha, hr => cases ha
    -- text.rules = tuple(rules)
    have s1 : Same H H1 := fun b o e => k1 _ _ (s4 _ _ (s2 _ _ e)) (ne_of_none (s2 _ _ e) nx)
    have x0 : H x = none := s2.free nx
    obtain ⟨rs0, ds0, as0, dx0, tr0, tl0, hx1, _⟩ := x1
    refine ⟨_, rfl, t, _, rfl, .inl ⟨SqL.of (s1 _ _ ht), fun tr htr => ?_⟩⟩
    have nxt : x ≠ tr := ne_of_none hx1 htr
    refine ⟨_, rfl, x, C, dx0, _, rfl, (by rw [upd_ne nxt]; exact hx1), T.clT, T.tR, tf_small _ _ _, ?_⟩
    rw [tf_put_rules]
    have up : ∀ b o, H b = some o → (upd (upd H1 tr (.tup (as.map V.ref))) x (.ins C dx0 (tf tr tl0 (([] : L).length : Nat)))) b = some o := fun b o e => by
      rw [upd_ne (ne_of_none e x0), upd_ne (ne_of_none (s1 _ _ e) htr)]
      exact s1 _ _ e
    -- text.lengths = lengths_of(text.rules)
    refine ⟨_, rfl, x, C, dx0, _, _, rfl, upd_same, T.clT, T.tR, tf_rules _ _ _, tr, as, rs, ds, rfl, (by rw [upd_ne nxt.symm, upd_same]), ⟨hrs.len, fun i a r ha hr => up _ _ (hrs.at_ i a r ha hr)⟩, hd, hlen, fun tl H5 s5 htl => ?_⟩
    have hx5 := s5 _ _ upd_same
    refine ⟨_, rfl, x, C, dx0, _, rfl, hx5, T.clT, T.tL, tf_small _ _ _, ?_⟩
    rw [tf_put_lengths]
    have ntl : tl ≠ x := fun z => by
      rw [z, hx5] at htl
      cases htl
    -- text.length = text.lengths[-1]
    refine ⟨_, rfl, x, C, dx0, _, _, rfl, upd_same, T.clT, T.tL, tf_lengths _ _ _, _, rfl, tl, _, _, _, rfl, rfl, SqT.of (by rw [upd_ne ntl]; exact htl), at_last (lens_last hlast), ?_⟩
    refine ⟨_, rfl, x, C, dx0, _, rfl, upd_same, T.clT, T.tN, tf_small _ _ _, ?_⟩
    rw [tf_put_length]
    refine ⟨_, rfl, ?_⟩
    have g : ∀ b xs, H5 b = some (.tup xs) → (upd (upd H5 x (.ins C dx0 (tf tr tl (([] : L).length : Nat)))) x (.ins C dx0 (tf tr tl ((d.length : Nat) : Int)))) b = some (.tup xs) := fun b xs e => by
      have n : b ≠ x := fun z => by
        rw [z, hx5] at e
        cases e
      rw [upd_ne n, upd_ne n]
      exact e
    refine q x _ (fun b o e => ?_) ⟨rs, ds, as, dx0, tr, tl, upd_same, g _ _ (s5 _ _ ?_), ⟨hrs.len, fun i a r ha hr => g _ _ (s5 _ _ (up _ _ (hrs.at_ i a r ha hr)))⟩, g _ _ htl, hd, rfl, hlast⟩
    · rw [upd_ne (ne_of_none e x0), upd_ne (ne_of_none e x0)]
      exact s5 _ _ (up _ _ e)
    · rw [upd_ne nxt.symm, upd_same]
/-! ### Text.of_letters -/
def spTo (C : Addr) : Sp := fun vs H Q _ => ∃ (z : L), vs = [.ref C, .str (S z)] ∧ z.length ≤ 64 ∧ z.all isL = true ∧ RT C H 1 z Q
theorem ok_To (T : Tx w K mg C D Z) (GTi : Fk P w K mg base 4 "Text" C ["self", "rules"] (spTi C)) (F : Dc K C "of_letters" "Text.of_letters" sTo) : Fcm P w K mg base 6 "Text" C "of_letters" ["cls", "letters"] (spTo C) := by
  refine fcm_of F T.mgT T.rdT (fun _ _ _ _ _ _ us hl => match us, hl with | [_, _], _ => rfl) scTo (fun vs H Q E h => ?_) (fun f cdv A outer s H vs Q E hr h => ?_)
  · obtain ⟨z, rfl, _⟩ := h
    rfl
  · obtain ⟨z, rfl, hz, hall, q⟩ := h
    refine ⟨_, (pss_one (ps_ret (pe_mkl (i := 0) GTi (hr.mono (by decide)) (pa_cons (pe_tup (pa_cons (pe_tup (pa_cons pe_str (pa_cons (pv 1) pa_nil))) pa_nil)) pa_nil)))), ?_⟩
    refine ⟨rfl, _, rfl, by show 2 ≤ sizeLine; decide, fun a1 h1 => ⟨by show 1 ≤ sizeLine; decide, fun a2 h2 => ?_⟩⟩
    intro x dx nx ndx nex
    have s2 : Same H (upd (upd H a1 (.tup [.str "letters", .str (S z)])) a2 (.tup [.ref a1])) := (same_upd h1).trans (same_upd h2)
    have s4 : Same (upd (upd H a1 (.tup [.str "letters", .str (S z)])) a2 (.tup [.ref a1])) (upd (upd (upd (upd H a1 (.tup [.str "letters", .str (S z)])) a2 (.tup [.ref a1])) dx (.own x)) x (.ins C dx [])) := fun b o e => by
      rw [upd_ne (ne_of_none e nx), upd_ne (ne_of_none e ndx)]
      exact e
    have n12 : a1 ≠ a2 := ne_of_none upd_same h2
    refine ⟨x, dx, a2, [a1], [.lt z], [z], z, rfl, upd_same, .inr (s4 _ _ upd_same), ⟨rfl, fun i a r ha hr => ?_⟩, dn_one hz hall, rfl, by show 1 ≤ 60; decide, fun H1 k1 x1 => ⟨rfl, ?_⟩⟩
    · match i, ha, hr with
      | 0, ha, hr =>
        have e1 : a1 = a := Option.some.inj ha
        have e2 : Ru.lt z = r := Option.some.inj hr
        subst e1 e2
        refine s4 _ _ ?_
        rw [upd_ne n12, upd_same]
        rfl
      | i + 1, ha, hr => cases ha
    exact q x _ (fun b o e => k1 _ _ (s4 _ _ (s2 _ _ e)) (ne_of_none (s2 _ _ e) nx)) x1
end
end Sh
set_option Elab.async false
set_option linter.all false
set_option maxRecDepth 100000
set_option maxHeartbeats 4000000
namespace Sh
open PySem PySem.Spec PyProof.Rows L2
open SX (S)
theorem wide_ok {i : Int} {n : Nat} (h0 : 0 < n) (h : n ≤ MX) : CDivW i (n : Int) := by
  have e := MX_eq
  refine wide_div (b := 64) (by omega) ?_ (by decide) (by decide)
  rw [Int.natAbs_natCast]
  omega
theorem modc (p m : Nat) : (p : Int) - (m : Int) * ((p : Int) / (m : Int)) = ((p % m : Nat) : Int) := by
  have h := Nat.div_add_mod p m
  have h2 : ((m * (p / m) + p % m : Nat) : Int) = (p : Int) := by rw [h]
  rw [Int.natCast_add, Int.natCast_mul, Int.natCast_ediv] at h2
  omega
section
variable {P : Program} {w : World} {K : PySem.W.Frag} {mg : Str → Option Value} {base : Heap} {C D Z : Addr}
/-! ### inner_place -/
def spIp : Sp := fun vs H Q _ => ∃ (a tl : Addr) (r : Ru) (ds : List L) (n p : Nat), vs = [.ref a, .ref tl, .int (p : Int)] ∧ H a = some (.tup r.vs) ∧ H tl = some (.tup (lens ds)) ∧ r.ok n ds ∧ n ≤ ds.length ∧ (¬ ∃ s, r = .lt s) ∧ p < (r.den ds).length ∧
  ∀ (t : Addr) (H' : Hp) (i q : Nat), Same H H' → H' t = some (.tup [.int (i : Int), .int (q : Int)]) → i < n → q < (ds.getD i []).length → (ds.getD i [])[q]? = (r.den ds)[p]? → Q (.ref t) H'
theorem ok_Ip (T : Tx w K mg C D Z) (F : Df K mg "inner_place" sIp) : Fc P w K mg base 1 "inner_place" ["rule", "lengths", "place"] spIp := by
  refine fc_of F (fun _ _ _ _ _ _ us hl => match us, hl with | [_, _, _], _ => rfl) scIp (fun vs H Q E h => ?_) (fun f cdv A outer s H vs Q E hr h => ?_)
  · obtain ⟨a, tl, r, ds, n, p, rfl, _⟩ := h
    rfl
  · obtain ⟨a, tl, r, ds, n, p, rfl, ha, hl, ok, hn, nlt, hp, q⟩ := h
    have eM := MX_eq
    have ok0 := ok.1
    have ok1 := ok.2
    have hlen := hp
    rw [Ru.den_len] at hlen ok0
    have atl : ∀ i, i < n → SqT K H tl (lens ds) ∧ atI (lens ds) (i : Int) = some (.int (((ds.getD i []).length : Nat) : Int)) := fun i hi => ⟨SqT.of hl, atI_nat (lens_atD (by omega))⟩
    refine ⟨_, (pss_cons (ps_set (i := 3) scIp.nd rfl (by first | exact Or.inl rfl | exact Or.inr rfl) (pe_ix ix_tup (pv 0) pe_int (fun _ _ => rfl)))
      (pss_cons (ps_if (pt_cmpR op_eq (pv 3) pe_str (nomark _)) (pss_cons (ps_set (i := 4) scIp.nd rfl (by first | exact Or.inl rfl | exact Or.inr rfl) (pe_ix ix_tup (pv 1) (pe_ix ix_tup (pv 0) pe_int (fun _ _ => rfl)) (fun _ _ => rfl)))
      (pss_one (ps_ret (pe_ifExp (pt_cmpR op_lt (pv 2) (pv 4) (nomark _)) (pe_tup (pa_cons (pe_ix ix_tup (pv 0) pe_int (fun _ _ => rfl)) (pa_cons (pv 2) pa_nil))) (pe_tup (pa_cons (pe_ix ix_tup (pv 0) pe_int (fun _ _ => rfl)) (pa_cons (pe_op op_sub (pv 2) (pv 4)) pa_nil))))))) pss_nil)
      (pss_cons (ps_if (pt_cmpR op_eq (pv 3) pe_str (nomark _)) (pss_cons (ps_set (i := 5) scIp.nd rfl (by first | exact Or.inl rfl | exact Or.inr rfl) (pe_ix ix_tup (pv 1) (pe_ix ix_tup (pv 0) pe_int (fun _ _ => rfl)) (fun _ _ => rfl)))
      (pss_one (ps_ret (pe_tup (pa_cons (pe_ix ix_tup (pv 0) pe_int (fun _ _ => rfl)) (pa_cons (pe_op op_sub (pv 2) (pe_op op_mul (pv 5) (pe_op op_fdivW (pv 2) (pv 5)))) pa_nil)))))) pss_nil)
      (pss_cons (ps_if (pt_cmpR op_eq (pv 3) pe_str (nomark _)) (pss_one (ps_ret (pe_tup (pa_cons (pe_ix ix_tup (pv 0) pe_int (fun _ _ => rfl)) (pa_cons (pe_op op_add (pv 2) (pe_ix ix_tup (pv 0) pe_int (fun _ _ => rfl))) pa_nil))))) pss_nil)
      (pss_one (ps_ret (pe_tup (pa_cons (pe_ix ix_tup (pv 0) pe_int (fun _ _ => rfl)) (pa_cons (pe_op op_sub (pe_op op_sub (pe_ix ix_tup (pv 1) (pe_ix ix_tup (pv 0) pe_int (fun _ _ => rfl)) (fun _ _ => rfl)) pe_int) (pv 2)) pa_nil))))))))), ?_⟩
    cases r with
    | lt s => exact absurd ⟨s, rfl⟩ nlt
    | jn i j =>
      obtain ⟨o1, o2⟩ := ok1
      have hlen : p < (ds.getD i []).length + (ds.getD j []).length := hlen
      refine ⟨_, rfl, a, _, _, _, rfl, rfl, SqT.of ha, atI_nat (j := 0) rfl, _, rfl, rfl, _, rfl, ifP rfl ?_⟩
      refine ⟨_, rfl, _, rfl, a, _, _, _, rfl, rfl, SqT.of ha, atI_nat (j := 1) rfl, tl, _, _, _, rfl, rfl, (atl i o1).1, (atl i o1).2, ?_⟩
      refine ⟨_, rfl, _, rfl, _, _, rfl, rfl, _, rfl, ite2 (fun h => ?_) (fun h => ?_)⟩
      · have h := of_decide_eq_true h
        refine ⟨_, rfl, a, _, _, _, rfl, rfl, SqT.of ha, atI_nat (j := 1) rfl, _, rfl, by show 2 ≤ sizeLine; decide, fun t ht => ?_⟩
        refine q t _ i p (same_upd ht) upd_same o1 (by omega) ?_
        show _ = (ds.getD i [] ++ ds.getD j [])[p]?
        rw [List.getElem?_append_left (by omega)]
      · have h : ¬ ((p : Int) < (((ds.getD i []).length : Nat) : Int)) := fun z => h (decide_eq_true z)
        refine ⟨_, rfl, a, _, _, _, rfl, rfl, SqT.of ha, atI_nat (j := 2) rfl, _, rfl, _, rfl, _, _, rfl, rfl, by show 2 ≤ sizeLine; decide, fun t ht => ?_⟩
        have e : (p : Int) - (((ds.getD i []).length : Nat) : Int) = ((p - (ds.getD i []).length : Nat) : Int) := by omega
        refine q t _ j (p - (ds.getD i []).length) (same_upd ht) ?_ o2 (by omega) ?_
        · rw [upd_same, ← e]
        · show _ = (ds.getD i [] ++ ds.getD j [])[p]?
          rw [List.getElem?_append_right (by omega)]
    | pw i k =>
      obtain ⟨o1, o2⟩ := ok1
      have hlen : p < (ds.getD i []).length * k := hlen
      have ok0 : (ds.getD i []).length * k ≤ MX := ok0
      have hx : 0 < (ds.getD i []).length := by
        rcases Nat.eq_zero_or_pos (ds.getD i []).length with z | z
        · rw [z] at hlen; omega
        · exact z
      have hk : 0 < k := by
        rcases Nat.eq_zero_or_pos k with z | z
        · rw [z] at hlen; omega
        · exact z
      have hm : (ds.getD i []).length ≤ MX := Nat.le_trans (Nat.le_mul_of_pos_right _ hk) ok0
      refine ⟨_, rfl, a, _, _, _, rfl, rfl, SqT.of ha, atI_nat (j := 0) rfl, _, rfl, rfl, _, rfl, ifN wpj ?_⟩
      refine ⟨_, rfl, rfl, _, rfl, ifP rfl ?_⟩
      refine ⟨_, rfl, _, rfl, a, _, _, _, rfl, rfl, SqT.of ha, atI_nat (j := 1) rfl, tl, _, _, _, rfl, rfl, (atl i o1).1, (atl i o1).2, ?_⟩
      refine ⟨_, rfl, a, _, _, _, rfl, rfl, SqT.of ha, atI_nat (j := 1) rfl, _, rfl, _, rfl, _, rfl, _, rfl, _, _, rfl, rfl, wide_ok hx hm, _, _, rfl, rfl, .inl (by omega), _, _, rfl, rfl, by show 2 ≤ sizeLine; decide, fun t ht => ?_⟩
      have e := modc p (ds.getD i []).length
      refine q t _ i (p % (ds.getD i []).length) (same_upd ht) ?_ o1 (Nat.mod_lt _ hx) ?_
      · rw [upd_same]
        show some (HO.tup [V.int (i : Int), V.int ((p : Int) - (((ds.getD i []).length : Nat) : Int) * ((p : Int) / (((ds.getD i []).length : Nat) : Int)))]) = _
        rw [e]
      · exact (flat_get k _ p (by rw [Nat.mul_comm]; exact hlen)).symm
    | pt i b c =>
      obtain ⟨o1, o2, o3⟩ := ok1
      have hlen : p < min (c - b) ((ds.getD i []).length - b) := hlen
      refine ⟨_, rfl, a, _, _, _, rfl, rfl, SqT.of ha, atI_nat (j := 0) rfl, _, rfl, rfl, _, rfl, ifN wtj ?_⟩
      refine ⟨_, rfl, rfl, _, rfl, ifN wtp ?_⟩
      refine ⟨_, rfl, rfl, _, rfl, ifP rfl ?_⟩
      refine ⟨_, rfl, a, _, _, _, rfl, rfl, SqT.of ha, atI_nat (j := 1) rfl, _, rfl, _, rfl, a, _, _, _, rfl, rfl, SqT.of ha, atI_nat (j := 2) rfl, _, _, rfl, rfl, by show 2 ≤ sizeLine; decide, fun t ht => ?_⟩
      refine q t _ i (p + b) (same_upd ht) ?_ o1 (by omega) ?_
      · rw [upd_same, Int.natCast_add]
      · show _ = (((ds.getD i []).drop b).take (c - b))[p]?
        rw [List.getElem?_take_of_lt (by omega), List.getElem?_drop, Nat.add_comm]
    | bk i =>
      have hlen : p < (ds.getD i []).length := hlen
      refine ⟨_, rfl, a, _, _, _, rfl, rfl, SqT.of ha, atI_nat (j := 0) rfl, _, rfl, rfl, _, rfl, ifN wbj ?_⟩
      refine ⟨_, rfl, rfl, _, rfl, ifN wbp ?_⟩
      refine ⟨_, rfl, rfl, _, rfl, ifN wbt ?_⟩
      refine ⟨_, rfl, a, _, _, _, rfl, rfl, SqT.of ha, atI_nat (j := 1) rfl, _, rfl, _, rfl, a, _, _, _, rfl, rfl, SqT.of ha, atI_nat (j := 1) rfl, tl, _, _, _, rfl, rfl, (atl i ok1).1, (atl i ok1).2, _, _, rfl, rfl, _, rfl, _, _, rfl, rfl, by show 2 ≤ sizeLine; decide, fun t ht => ?_⟩
      have e : (((ds.getD i []).length : Nat) : Int) - 1 - (p : Int) = (((ds.getD i []).length - 1 - p : Nat) : Int) := by omega
      refine q t _ i ((ds.getD i []).length - 1 - p) (same_upd ht) ?_ ok1 (by omega) ?_
      · rw [upd_same, ← e]
      · show _ = (ds.getD i []).reverse[p]?
        rw [List.getElem?_reverse hlen]
/-! ### Text.check_part -/
def spTc (C : Addr) : Sp := fun vs H Q _ => ∃ (x : Addr) (n a b : Nat) (d : L), vs = [.ref x, .int (a : Int), .int (b : Int)] ∧ TxtAt C H x n d ∧ a ≤ b ∧ b ≤ d.length ∧ Q .non H
theorem ok_Tc (T : Tx w K mg C D Z) (F : Dm K C "check_part" "Text.check_part" sTc) : Fm P w K mg base 1 C "check_part" ["self", "start", "stop"] (spTc C) := by
  refine fm_of F (fun _ _ _ _ _ _ us hl => match us, hl with | [_, _, _], _ => rfl) scTc (fun vs H Q E h => ?_) (fun f cdv A outer s H vs Q E hr h => ?_)
  · obtain ⟨x, n, a, b, d, rfl, _⟩ := h
    rfl
  · obtain ⟨x, n, a, b, d, rfl, ⟨rs, ds, as, dx, tr, tl, hx, _⟩, h1, h2, q⟩ := h
    refine ⟨_, (pss_one (ps_if (pt_not (pt_chain3 op_le op_le op_le pe_int (pv 1) (pv 2) (pe_fld (pv 0) rfl))) (pss_one ps_never) pss_nil)), ?_⟩
    refine ⟨_, rfl, _, _, rfl, rfl, _, rfl, ifP (show (0 : Int) ≤ (a : Int) by omega) ?_⟩
    refine ⟨_, rfl, _, _, rfl, rfl, _, rfl, ifP (show (a : Int) ≤ (b : Int) by omega) ?_⟩
    refine ⟨_, rfl, x, C, dx, _, _, rfl, hx, T.clT, T.tN, tf_length _ _ _, _, _, rfl, rfl, _, rfl, inN (show (b : Int) ≤ ((d.length : Nat) : Int) by omega) ?_⟩
    exact q
/-! ### Text.letter -/
def spTl (C : Addr) : Sp := fun vs H Q _ => ∃ (x : Addr) (n p c : Nat) (d : L), vs = [.ref x, .int (p : Int)] ∧ TxtAt C H x n d ∧ d[p]? = some c ∧ ∀ H', Same H H' → Q (.str ⟨#[c]⟩) H'
theorem ok_Tl (T : Tx w K mg C D Z) (GIp : Fc P w K mg base 1 "inner_place" ["rule", "lengths", "place"] spIp) (F : Dm K C "letter" "Text.letter" sTl) : Fm P w K mg base 2 C "letter" ["self", "place"] (spTl C) := by
  refine fm_of F (fun _ _ _ _ _ _ us hl => match us, hl with | [_, _], _ => rfl) scTl (fun vs H Q E h => ?_) (fun f cdv A outer s H vs Q E hr h => ?_)
  · obtain ⟨x, n, p, c, d, rfl, _⟩ := h
    rfl
  · obtain ⟨x, n, p, c, d, rfl, ⟨rs, ds, as, dx, tr, tl, hx, htr, hrs, htl, hd, hn, hlast⟩, hc, q⟩ := h
    have hp : p < d.length := (List.getElem?_eq_some_iff.mp hc).1
    refine ⟨_, (pss_cons (ps_if (pt_not (pt_chain op_le op_lt pe_int (pv 1) (pe_fld (pv 0) rfl))) (pss_one ps_never) pss_nil)
      (pss_cons (ps_set (i := 2) scTl.nd rfl (by first | exact Or.inl rfl | exact Or.inr rfl) (pe_ix ix_tup (pe_fld (pv 0) rfl) (pe_un un_neg pe_int) (fun _ _ => rfl)))
      (pss_cons (ps_while PassesOwn.never (pt_cmpR op_ne (pe_ix ix_tup (pv 2) pe_int (fun _ _ => rfl)) pe_str (nomark _)) (pss_cons (ps_asg (pe_c GIp (hr.mono (by decide)) (pa_cons (pv 2) (pa_cons (pe_fld (pv 0) rfl) (pa_cons (pv 1) pa_nil)))) (pg_tup (by rfl) (pgs_cons (pg_name (i := 3) scTl.nd rfl (Or.inl rfl)) (pgs_cons (pg_name (i := 1) scTl.nd rfl (Or.inl rfl)) pgs_nil))))
      (pss_one (ps_set (i := 2) scTl.nd rfl (by first | exact Or.inl rfl | exact Or.inr rfl) (pe_ix ix_tup (pe_fld (pv 0) rfl) (pv 3) (fun _ _ => rfl))))))
      (pss_one (ps_ret (pe_ix ix_str (pe_ix ix_tup (pv 2) pe_int (fun _ _ => rfl)) (pv 1) (fun _ _ => rfl))))))), ?_⟩
    refine ⟨_, rfl, _, _, rfl, rfl, _, rfl, ifP (show (0 : Int) ≤ (p : Int) by omega) ?_⟩
    refine ⟨_, rfl, x, C, dx, _, _, rfl, hx, T.clT, T.tN, tf_length _ _ _, _, _, rfl, rfl, _, rfl, inN (show (p : Int) < ((d.length : Nat) : Int) by omega) ?_⟩
    -- rule = self.rules[-1]
    have hdl := last_at hlast
    have hi : ds.length - 1 < rs.length := by
      have := (List.getElem?_eq_some_iff.mp hdl).1
      have := hd.len
      omega
    obtain ⟨a0, ea, ea2, ha0⟩ := hrs.get (List.getElem?_eq_getElem hi)
    have hlr : (as.map V.ref).getLast? = some (.ref a0) := by
      rw [List.getLast?_eq_getElem?, List.length_map, hrs.len, hd.len]
      exact ea2
    refine ⟨_, rfl, x, C, dx, _, _, rfl, hx, T.clT, T.tR, tf_rules _ _ _, _, rfl, tr, _, _, _, rfl, rfl, SqT.of htr, at_last hlr, ?_⟩
    have k0 := hd.at_ _ _ (List.getElem?_eq_getElem hi)
    have ed : d = (rs[ds.length - 1]).den ds := Option.some.inj (hdl.symm.trans k0.2)
    refine ⟨fun m σ H' => ∃ (p' : Nat) (a : Addr) (r : Ru) (v : Option V), σ = [some (.ref x), some (.int (p' : Int)), some (.ref a), v] ∧ rs[m]? = some r ∧ H' a = some (.tup r.vs) ∧ (r.den ds)[p']? = some c ∧ Same H H',
      ⟨ds.length - 1, p, a0, _, none, rfl, List.getElem?_eq_getElem hi, ha0, by rw [← ed]; exact hc, Same.refl H⟩, fun m σ H' hW => ?_⟩
    obtain ⟨p', a, r, v, rfl, hr, ha, hc', s1⟩ := hW
    obtain ⟨k1, k2⟩ := hd.at_ m r hr
    have hm : m < ds.length := by
      have := (List.getElem?_eq_some_iff.mp hr).1
      have := hd.len
      omega
    refine ⟨_, rfl, a, _, _, _, rfl, rfl, SqT.of ha, atI_nat (j := 0) r.vs_word, rfl, _, rfl, ?_⟩
    by_cases hlt : ∃ t, r = .lt t
    · obtain ⟨t, rfl⟩ := hlt
      refine inN rfl ?_
      have hc2 : t[p']? = some c := hc'
      have h64 := k1.2.1
      refine ⟨_, rfl, a, _, _, _, rfl, rfl, SqT.of ha, atI_nat (j := 1) rfl, _, rfl, S t, _, c, rfl, rfl, (by rw [SX.S_len]; exact sz (by omega)), atI_nat (j := p') (by simpa [S] using hc2), ?_⟩
      exact q _ s1
    · refine inP ?_ ?_
      · cases r with
        | lt t => exact absurd ⟨t, rfl⟩ hlt
        | jn i j => exact wjl
        | pw i k => exact wpl
        | pt i b c => exact wtl
        | bk i => exact wbl
      · refine ⟨fun σ' H2 => ∃ m', m' < m ∧ ∃ (p' : Nat) (a : Addr) (r : Ru) (v : Option V), σ' = [some (.ref x), some (.int (p' : Int)), some (.ref a), v] ∧ rs[m']? = some r ∧ H2 a = some (.tup r.vs) ∧ (r.den ds)[p']? = some c ∧ Same H H2, fun σ' H2 h => h, ?_⟩
        refine ⟨_, rfl, _, rfl, x, C, dx, _, _, rfl, s1 _ _ hx, T.clT, T.tL, tf_lengths _ _ _, _, rfl, a, tl, r, ds, m, p', rfl, ha, s1 _ _ htl, k1, by omega, hlt, (List.getElem?_eq_some_iff.mp hc').1, fun t H2 i q' s2 ht hi' hq' e => ?_⟩
        have s12 := s1.trans s2
        have hir : i < rs.length := by
          have := hd.len
          omega
        obtain ⟨a', eb, eb2, ha'⟩ := hrs.get (List.getElem?_eq_getElem hir)
        obtain ⟨j1, j2⟩ := hd.at_ i _ (List.getElem?_eq_getElem hir)
        refine ⟨t, _, rfl, SqT.of ht, rfl, _, _, rfl, _, _, rfl, rfl, ?_⟩
        refine ⟨_, rfl, x, C, dx, _, _, rfl, s12 _ _ hx, T.clT, T.tR, tf_rules _ _ _, _, rfl, tr, _, _, _, rfl, rfl, SqT.of (s12 _ _ htr), atI_nat eb2, ?_⟩
        refine ⟨i, hi', q', a', _, _, rfl, List.getElem?_eq_getElem hir, s12 _ _ ha', ?_, s12⟩
        rw [gD j2, hc'] at e
        exact e
end
end Sh
set_option Elab.async false
set_option linter.all false
set_option maxRecDepth 100000
set_option maxHeartbeats 4000000
namespace Sh
open PySem PySem.Spec PyProof.Rows L2
open SX (S)
/-! ### parts of what rules make -/
/-- the letters from a up to b of what the rule i makes, turned round or not -/
structure Pc where
  i : Nat
  a : Nat
  b : Nat
  t : Bool
def Pc.vs (e : Pc) : List V := [.int (e.i : Int), .int (e.a : Int), .int (e.b : Int), .bl e.t]
def Pc.out (ds : List L) (e : Pc) : L := if e.t = true then (cutL (ds.getD e.i []) e.a e.b).reverse else cutL (ds.getD e.i []) e.a e.b
structure Pc.ok (n : Nat) (ds : List L) (e : Pc) : Prop where
  i : e.i < n
  ab : e.a < e.b
  b : e.b ≤ (ds.getD e.i []).length
def outs (ds : List L) (es : List Pc) : L := (es.map (Pc.out ds)).flatten
def total (es : List Pc) : Nat := (es.map fun e => e.b - e.a).sum
theorem outs_snoc (ds : List L) (es : List Pc) (e : Pc) : outs ds (es ++ [e]) = outs ds es ++ e.out ds := by
  unfold outs
  rw [List.map_append, List.flatten_append]
  simp
theorem total_snoc (es : List Pc) (e : Pc) : total (es ++ [e]) = total es + (e.b - e.a) := by
  unfold total
  rw [List.map_append, List.sum_append_nat]
  simp
theorem len_total {n : Nat} {ds : List L} : ∀ {es : List Pc}, (∀ e ∈ es, e.ok n ds) → es.length ≤ total es
  | [], _ => Nat.le_refl _
  | e :: r, h => by
    have h1 := (h e List.mem_cons_self).ab
    have h2 := len_total (es := r) fun x hx => h x (List.mem_cons_of_mem _ hx)
    show r.length + 1 ≤ (e.b - e.a) + total r
    omega
/-- tuples of these stand at as -/
structure TupsAt {α : Type} (f : α → List V) (H : Hp) (as : List Addr) (es : List α) : Prop where
  len : as.length = es.length
  at_ : ∀ (i : Nat) (a : Addr) (e : α), as[i]? = some a → es[i]? = some e → H a = some (.tup (f e))
section
variable {α : Type} {f : α → List V} {H H' : Hp} {as : List Addr} {es : List α}
theorem TupsAt.nil : TupsAt f H [] [] := ⟨rfl, fun i a r h => by simp at h⟩
theorem TupsAt.gro (h : TupsAt f H as es) (g : Gro H H') : TupsAt f H' as es := ⟨h.len, fun i a r ha hr => g.tup _ _ (h.at_ i a r ha hr)⟩
theorem TupsAt.get (h : TupsAt f H as es) {i : Nat} {r : α} (hr : es[i]? = some r) : ∃ a, as[i]? = some a ∧ (as.map V.ref)[i]? = some (.ref a) ∧ H a = some (.tup (f r)) := by
  have hi : i < as.length := by
    rw [h.len]; exact (List.getElem?_eq_some_iff.mp hr).1
  have e := List.getElem?_eq_getElem hi
  exact ⟨as[i], e, by rw [List.getElem?_map, e]; rfl, h.at_ i _ r e hr⟩
theorem TupsAt.snoc {a : Addr} {r : α} (h : TupsAt f H as es) (ha : H a = some (.tup (f r))) : TupsAt f H (as ++ [a]) (es ++ [r]) := by
  refine ⟨by simp [h.len], fun i b q hb hq => ?_⟩
  by_cases hi : i < as.length
  · rw [List.getElem?_append_left hi] at hb
    rw [List.getElem?_append_left (by rw [← h.len]; exact hi)] at hq
    exact h.at_ i b q hb hq
  · have h1 := (List.getElem?_eq_some_iff.mp hb).1
    rw [List.length_append, List.length_singleton] at h1
    have e : i = as.length := by omega
    subst e
    rw [List.getElem?_append_right (Nat.le_refl _), Nat.sub_self] at hb
    rw [h.len, List.getElem?_append_right (Nat.le_refl _), Nat.sub_self] at hq
    have e1 : a = b := Option.some.inj hb
    have e2 : r = q := Option.some.inj hq
    rw [← e1, ← e2]; exact ha
theorem TupsAt.rev (h : TupsAt f H as es) : TupsAt f H as.reverse es.reverse := by
  refine ⟨by simp [h.len], fun i a e ha he => ?_⟩
  have h1 := (List.getElem?_eq_some_iff.mp ha).1
  rw [List.length_reverse] at h1
  rw [List.getElem?_reverse h1] at ha
  rw [List.getElem?_reverse (by rw [← h.len]; exact h1), ← h.len] at he
  exact h.at_ _ a e ha he
theorem TupsAt.dropLast (h : TupsAt f H as es) : TupsAt f H as.dropLast es.dropLast := by
  refine ⟨by rw [List.length_dropLast, List.length_dropLast, h.len], fun i a e ha he => ?_⟩
  have h1 := (List.getElem?_eq_some_iff.mp ha).1
  rw [List.length_dropLast] at h1
  rw [List.getElem?_dropLast, if_pos (by omega)] at ha
  rw [List.getElem?_dropLast, if_pos (by rw [← h.len]; omega)] at he
  exact h.at_ i a e ha he
end
/-! ### the parts of a power -/
def endE (s t m lo j : Nat) : Nat := if j = 0 then s else min t ((lo + j) * m)
theorem endE_last {s t m : Nat} (hm : 0 < m) (hst : s < t) : endE s t m (s / m) ((t - 1) / m + 1 - s / m) = t := by
  have h1 : s / m ≤ (t - 1) / m := Nat.div_le_div_right (by omega)
  unfold endE
  rw [if_neg (by omega)]
  have e : s / m + ((t - 1) / m + 1 - s / m) = (t - 1) / m + 1 := by omega
  rw [e]
  have h2 := Nat.div_add_mod (t - 1) m
  have h3 := Nat.mod_lt (t - 1) hm
  have e2 : ((t - 1) / m + 1) * m = m * ((t - 1) / m) + m := by rw [Nat.add_mul, Nat.one_mul, Nat.mul_comm]
  rw [e2]
  omega
theorem pw_step {x : L} {k s t j : Nat} (hm : 0 < x.length) (hst : s < t) (ht : t ≤ k * x.length) (hj : s / x.length + j < (t - 1) / x.length + 1) :
    (s - (s / x.length + j) * x.length) < min (t - (s / x.length + j) * x.length) x.length ∧ (s / x.length + j) * x.length < t ∧
    cutL (List.replicate k x).flatten s (endE s t x.length (s / x.length) j) ++ cutL x (s - (s / x.length + j) * x.length) (min (t - (s / x.length + j) * x.length) x.length) = cutL (List.replicate k x).flatten s (endE s t x.length (s / x.length) (j + 1)) ∧
    (endE s t x.length (s / x.length) j - s) + (min (t - (s / x.length + j) * x.length) x.length - (s - (s / x.length + j) * x.length)) = endE s t x.length (s / x.length) (j + 1) - s ∧ s ≤ endE s t x.length (s / x.length) j ∧ endE s t x.length (s / x.length) (j + 1) ≤ t := by
  have a1 := Nat.div_add_mod s x.length
  have a2 := Nat.mod_lt s hm
  have a3 := Nat.div_add_mod (t - 1) x.length
  have f1 : (s / x.length + j) * x.length ≤ (t - 1) / x.length * x.length := Nat.mul_le_mul_right _ (by omega)
  have f2 : (t - 1) / x.length * x.length ≤ t - 1 := Nat.div_mul_le_self _ _
  have f3 : s / x.length * x.length ≤ s := Nat.div_mul_le_self _ _
  have ft : (s / x.length + j) * x.length < t := by omega
  have fk : s / x.length + j < k := by
    refine Nat.lt_of_mul_lt_mul_right (a := x.length) ?_
    omega
  have fn : (s / x.length + (j + 1)) * x.length = (s / x.length + j) * x.length + x.length := by rw [← Nat.add_assoc, Nat.add_mul, Nat.one_mul]
  have f5 : s < (s / x.length + 1) * x.length := by
    rw [Nat.add_mul, Nat.one_mul, Nat.mul_comm]
    omega
  have eE1 : endE s t x.length (s / x.length) (j + 1) = min t ((s / x.length + j) * x.length + x.length) := by
    unfold endE
    rw [if_neg (Nat.succ_ne_zero _), fn]
  -- where this piece begins
  have eE0 : endE s t x.length (s / x.length) j = (s / x.length + j) * x.length + (s - (s / x.length + j) * x.length) ∧ (s - (s / x.length + j) * x.length) < x.length ∧ s ≤ endE s t x.length (s / x.length) j ∧ (s / x.length + j) * x.length + (s - (s / x.length + j) * x.length) < t := by
    unfold endE
    by_cases h0 : j = 0
    · subst h0
      rw [if_pos rfl, Nat.add_zero]
      have : s / x.length * x.length = x.length * (s / x.length) := Nat.mul_comm _ _
      omega
    · rw [if_neg h0]
      have f4 : (s / x.length + 1) * x.length ≤ (s / x.length + j) * x.length := Nat.mul_le_mul_right _ (by omega)
      omega
  obtain ⟨e0, e1, e2, e3⟩ := eE0
  have eb : (s / x.length + j) * x.length + min (t - (s / x.length + j) * x.length) x.length = min t ((s / x.length + j) * x.length + x.length) := by omega
  refine ⟨by omega, ft, ?_, ?_, e2, by rw [eE1]; omega⟩
  · rw [← cutL_flat fk (Nat.min_le_right _ _), eb, ← e0, eE1]
    exact cutL_cat e2 (by omega)
  · rw [eE1, e0]
    omega
theorem min_int (i j : Nat) : (if (j : Int) < (i : Int) then (j : Int) else (i : Int)) = ((min i j : Nat) : Int) := by
  split <;> omega
theorem max_int (i j : Nat) : (if (0 : Int) > (i : Int) - (j : Int) then (0 : Int) else (i : Int) - (j : Int)) = ((i - j : Nat) : Int) := by
  split <;> omega
section
variable {P : Program} {w : World} {K : PySem.W.Frag} {mg : Str → Option Value} {base : Heap} {C D Z : Addr}
/-! ### inner_parts -/
def spIb : Sp := fun vs H Q _ => ∃ (a tl : Addr) (r : Ru) (ds : List L) (n s t : Nat), vs = [.ref a, .ref tl, .int (s : Int), .int (t : Int)] ∧ H a = some (.tup r.vs) ∧ H tl = some (.tup (lens ds)) ∧ r.ok n ds ∧ n ≤ ds.length ∧ (¬ ∃ z, r = .lt z) ∧
  s < t ∧ t ≤ (r.den ds).length ∧ t - s ≤ 1000 ∧
  ∀ (l : Addr) (H' : Hp) (as : List Addr) (es : List Pc), Same H H' → H l = none → H' l = some (.lst (as.map V.ref)) → TupsAt Pc.vs H' as es → (∀ e ∈ es, e.ok n ds) → outs ds es = cutL (r.den ds) s t → total es = t - s → Q (.ref l) H'
theorem ok_Ib (T : Tx w K mg C D Z) (F : Df K mg "inner_parts" sIb) : Fc P w K mg base 1 "inner_parts" ["rule", "lengths", "start", "stop"] spIb := by
  refine fc_of F (fun _ _ _ _ _ _ us hl => match us, hl with | [_, _, _, _], _ => rfl) scIb (fun vs H Q E h => ?_) (fun f cdv A outer st H vs Q E hr h => ?_)
  · obtain ⟨a, tl, r, ds, n, s, t, rfl, _⟩ := h
    rfl
  · obtain ⟨a, tl, r, ds, n, s, t, rfl, ha, hl, ok, hn, nlt, hst, ht, h1000, q⟩ := h
    have eM := MX_eq
    have ok0 := ok.1
    have ok1 := ok.2
    have atl : ∀ i, i < n → SqT K H tl (lens ds) ∧ atI (lens ds) (i : Int) = some (.int (((ds.getD i []).length : Nat) : Int)) := fun i hi => ⟨SqT.of hl, atI_nat (lens_atD (by omega))⟩
    -- one piece alone
    have one : ∀ (e : Pc), e.ok n ds → e.out ds = cutL (r.den ds) s t → e.b - e.a = t - s → ∀ p H1, H p = none → H1 = upd H p (.tup e.vs) → ∀ l, H1 l = none → Q (.ref l) (upd H1 l (.lst [V.ref p])) := by
      intro e he ho hb p H1 hp eH l hl'
      subst eH
      have s1 : Same H (upd H p (.tup e.vs)) := same_upd hp
      have s2 : Same (upd H p (.tup e.vs)) (upd (upd H p (.tup e.vs)) l (.lst [V.ref p])) := same_upd hl'
      refine q l _ [p] [e] (s1.trans s2) (s1.free hl') upd_same (TupsAt.snoc (as := []) (es := []) TupsAt.nil (s2 _ _ upd_same)) ?_ ?_ ?_
      · intro z hz
        rw [List.mem_singleton.mp hz]; exact he
      · unfold outs
        simpa using ho
      · unfold total
        simpa using hb
    refine ⟨_, (pss_cons (ps_set (i := 4) scIb.nd rfl (by first | exact Or.inl rfl | exact Or.inr rfl) (pe_ix ix_tup (pv 0) pe_int (fun _ _ => rfl)))
      (pss_cons (ps_set (i := 5) scIb.nd rfl (by first | exact Or.inl rfl | exact Or.inr rfl) (pe_ix ix_tup (pv 0) pe_int (fun _ _ => rfl)))
      (pss_cons (ps_set (i := 6) scIb.nd rfl (by first | exact Or.inl rfl | exact Or.inr rfl) (pe_ix ix_tup (pv 1) (pv 5) (fun _ _ => rfl)))
      (pss_cons (ps_if (pt_cmpR op_eq (pv 4) pe_str (nomark _)) (pss_one (ps_ret (pe_lst (pa_cons (pe_tup (pa_cons (pv 5) (pa_cons (pe_op op_add (pv 2) (pe_ix ix_tup (pv 0) pe_int (fun _ _ => rfl))) (pa_cons (pe_op op_add (pv 3) (pe_ix ix_tup (pv 0) pe_int (fun _ _ => rfl))) (pa_cons pe_bl pa_nil))))) pa_nil)))) pss_nil)
      (pss_cons (ps_if (pt_cmpR op_eq (pv 4) pe_str (nomark _)) (pss_one (ps_ret (pe_lst (pa_cons (pe_tup (pa_cons (pv 5) (pa_cons (pe_op op_sub (pv 6) (pv 3)) (pa_cons (pe_op op_sub (pv 6) (pv 2)) (pa_cons pe_bl pa_nil))))) pa_nil)))) pss_nil)
      (pss_cons (ps_if (pt_cmpR op_eq (pv 4) pe_str (nomark _)) (pss_cons (ps_set (i := 7) scIb.nd rfl (by first | exact Or.inl rfl | exact Or.inr rfl) (pe_lst pa_nil))
      (pss_cons (ps_for PassesOwn.never rfl (pi_range2 rfl T.range_ (pa_cons (pe_op op_fdivW (pv 2) (pv 6)) (pa_cons (pe_op op_add (pe_op op_fdivW (pe_op op_sub (pv 3) pe_int) (pv 6)) pe_int) pa_nil))) (pg_name (i := 8) scIb.nd rfl (Or.inl rfl)) (pss_cons (ps_set (i := 9) scIb.nd rfl (by first | exact Or.inl rfl | exact Or.inr rfl) (pe_op op_mul (pv 8) (pv 6)))
      (pss_one (ps_expr (pe_bm PySem.F.plainAttrs_list PySem.F.slot_list_append PySem.F.type_list_append mt_append (pv 7) (pa_cons (pe_tup (pa_cons (pv 5) (pa_cons (pe_callB (id := "max") (call_max2 rfl) (by rfl) T.max_ (by decide +kernel) (pa_cons (pe_op op_sub (pv 2) (pv 9)) (pa_cons pe_int pa_nil))) (pa_cons (pe_callB (id := "min") (call_min2 rfl) (by rfl) T.min_ (by decide +kernel) (pa_cons (pe_op op_sub (pv 3) (pv 9)) (pa_cons (pv 6) pa_nil))) (pa_cons pe_bl pa_nil))))) pa_nil))))))
      (pss_one (ps_ret (pv 7))))) pss_nil)
      (pss_cons (ps_set (i := 7) scIb.nd rfl (by first | exact Or.inl rfl | exact Or.inr rfl) (pe_lst pa_nil))
      (pss_cons (ps_if (pt_cmpR op_lt (pv 2) (pv 6) (nomark _)) (pss_one (ps_expr (pe_bm PySem.F.plainAttrs_list PySem.F.slot_list_append PySem.F.type_list_append mt_append (pv 7) (pa_cons (pe_tup (pa_cons (pv 5) (pa_cons (pv 2) (pa_cons (pe_callB (id := "min") (call_min2 rfl) (by rfl) T.min_ (by decide +kernel) (pa_cons (pv 3) (pa_cons (pv 6) pa_nil))) (pa_cons pe_bl pa_nil))))) pa_nil)))) pss_nil)
      (pss_cons (ps_if (pt_cmpR op_gt (pv 3) (pv 6) (nomark _)) (pss_one (ps_expr (pe_bm PySem.F.plainAttrs_list PySem.F.slot_list_append PySem.F.type_list_append mt_append (pv 7) (pa_cons (pe_tup (pa_cons (pe_ix ix_tup (pv 0) pe_int (fun _ _ => rfl)) (pa_cons (pe_callB (id := "max") (call_max2 rfl) (by rfl) T.max_ (by decide +kernel) (pa_cons (pe_op op_sub (pv 2) (pv 6)) (pa_cons pe_int pa_nil))) (pa_cons (pe_op op_sub (pv 3) (pv 6)) (pa_cons pe_bl pa_nil))))) pa_nil)))) pss_nil)
      (pss_one (ps_ret (pv 7)))))))))))), ?_⟩
    cases r with
    | lt z => exact absurd ⟨z, rfl⟩ nlt
    | jn i j =>
      obtain ⟨o1, o2⟩ := ok1
      have ht : t ≤ (ds.getD i [] ++ ds.getD j []).length := ht
      rw [List.length_append] at ht
      refine ⟨_, rfl, a, _, _, _, rfl, rfl, SqT.of ha, atI_nat (j := 0) rfl, _, rfl, a, _, _, _, rfl, rfl, SqT.of ha, atI_nat (j := 1) rfl, _, rfl, _, rfl, tl, _, _, _, rfl, rfl, (atl i o1).1, (atl i o1).2, ?_⟩
      refine ⟨_, rfl, rfl, _, rfl, ifN wjt ?_⟩
      refine ⟨_, rfl, rfl, _, rfl, ifN wjb ?_⟩
      refine ⟨_, rfl, rfl, _, rfl, ifN wjp ?_⟩
      refine ⟨Nat.zero_le _, fun l hl' => ?_⟩
      have s0 : Same H (upd H l (.lst [])) := same_upd hl'
      -- behind the first
      have second : ∀ (as : List Addr) (es : List Pc) (H1 : Hp), Same H H1 → H1 l = some (.lst (as.map V.ref)) → TupsAt Pc.vs H1 as es → as.length ≤ 1 → (∀ e ∈ es, e.ok n ds) → outs ds es = cutL (ds.getD i [] ++ ds.getD j []) s (min t (ds.getD i []).length) → total es = min t (ds.getD i []).length - s → (ds.getD i []).length < t → ∀ p, H1 p = none →
          Q (.ref l) (upd (upd H1 p (.tup [.int (j : Int), .int ((s - (ds.getD i []).length : Nat) : Int), .int ((t - (ds.getD i []).length : Nat) : Int), .bl false])) l (.lst (as.map V.ref ++ [V.ref p]))) := by
        intro as es H1 s1 h1 hT hz hok ho htot hlt p hp
        have e1 : V.ref p = V.ref p := rfl
        have sp : Same H1 (upd H1 p (.tup (Pc.mk j (s - (ds.getD i []).length) (t - (ds.getD i []).length) false).vs)) := same_upd hp
        have g : Gro (upd H1 p (.tup (Pc.mk j (s - (ds.getD i []).length) (t - (ds.getD i []).length) false).vs)) (upd (upd H1 p (.tup (Pc.mk j (s - (ds.getD i []).length) (t - (ds.getD i []).length) false).vs)) l (.lst ((as ++ [p]).map V.ref))) := upd_gro (sp _ _ h1)
        have em : as.map V.ref ++ [V.ref p] = (as ++ [p]).map V.ref := by rw [List.map_append]; rfl
        rw [em]
        refine q l _ (as ++ [p]) (es ++ [Pc.mk j (s - (ds.getD i []).length) (t - (ds.getD i []).length) false]) (sMut (s1.trans sp) hl') hl' upd_same (((hT.gro (sGro sp)).snoc upd_same).gro g) ?_ ?_ ?_
        · intro e he
          rcases List.mem_append.mp he with he | he
          · exact hok e he
          · rw [List.mem_singleton.mp he]
            exact ⟨o2, by show s - (ds.getD i []).length < t - (ds.getD i []).length; omega, by show t - (ds.getD i []).length ≤ (ds.getD j []).length; omega⟩
        · rw [outs_snoc, ho]
          show _ ++ cutL (ds.getD j []) (s - (ds.getD i []).length) (t - (ds.getD i []).length) = cutL (ds.getD i [] ++ ds.getD j []) s t
          by_cases hs : s < (ds.getD i []).length
          · have em : min t (ds.getD i []).length = (ds.getD i []).length := by omega
            rw [em]
            have e3 : s - (ds.getD i []).length = 0 := by omega
            have e4 : cutL (ds.getD j []) 0 (t - (ds.getD i []).length) = cutL (ds.getD i [] ++ ds.getD j []) (ds.getD i []).length t := by
              rw [cutL_app2 (Nat.le_refl _), Nat.sub_self]
            rw [e3, e4]
            exact cutL_cat (by omega) (by omega)
          · have em : cutL (ds.getD i [] ++ ds.getD j []) s (min t (ds.getD i []).length) = [] := by
              unfold cutL
              have : min t (ds.getD i []).length - s = 0 := by omega
              rw [this, List.take_zero]
            rw [em, List.nil_append, cutL_app2 (by omega)]
        · rw [total_snoc, htot]
          show _ + ((t - _) - (s - _)) = t - s
          omega
      refine ⟨_, rfl, _, rfl, _, _, rfl, rfl, _, rfl, ite2 (fun h => ?_) (fun h => ?_)⟩
      · have h := of_decide_eq_true h
        refine ⟨_, rfl, .inl ⟨rfl, _, SqL.of upd_same⟩, _, rfl, _, rfl, _, rfl, _, rfl, _, _, rfl, ?_⟩
        rw [min_int]
        refine ⟨by show 4 ≤ sizeLine; decide, fun p hp => ?_⟩
        have s1 : Same (upd H l (.lst [])) (upd (upd H l (.lst [])) p (.tup (Pc.mk i s (min t (ds.getD i []).length) false).vs)) := same_upd hp
        have g : Gro (upd (upd H l (.lst [])) p (.tup (Pc.mk i s (min t (ds.getD i []).length) false).vs)) (upd (upd (upd H l (.lst [])) p (.tup (Pc.mk i s (min t (ds.getD i []).length) false).vs)) l (.lst (([p] : List Addr).map V.ref))) := upd_gro (s1 _ _ upd_same)
        have hT : TupsAt Pc.vs (upd (upd (upd H l (.lst [])) p (.tup (Pc.mk i s (min t (ds.getD i []).length) false).vs)) l (.lst (([p] : List Addr).map V.ref))) [p] [Pc.mk i s (min t (ds.getD i []).length) false] := (TupsAt.snoc (as := []) (es := []) TupsAt.nil upd_same).gro g
        have s2 : Same H (upd (upd (upd H l (.lst [])) p (.tup (Pc.mk i s (min t (ds.getD i []).length) false).vs)) l (.lst (([p] : List Addr).map V.ref))) := sMut (s0.trans s1) hl'
        have hok : ∀ e ∈ [Pc.mk i s (min t (ds.getD i []).length) false], e.ok n ds := by
          intro e he
          rw [List.mem_singleton.mp he]
          exact ⟨o1, by show s < min t (ds.getD i []).length; omega, by show min t (ds.getD i []).length ≤ (ds.getD i []).length; omega⟩
        have ho : outs ds [Pc.mk i s (min t (ds.getD i []).length) false] = cutL (ds.getD i [] ++ ds.getD j []) s (min t (ds.getD i []).length) := by
          have e : outs ds [Pc.mk i s (min t (ds.getD i []).length) false] = cutL (ds.getD i []) s (min t (ds.getD i []).length) := by
            unfold outs
            simp [Pc.out]
          rw [e, cutL_app1 (Nat.min_le_right _ _)]
        have htot : total [Pc.mk i s (min t (ds.getD i []).length) false] = min t (ds.getD i []).length - s := by
          unfold total
          simp
        refine ⟨l, [], _, rfl, rfl, s1 _ _ upd_same, by show 0 < sizeLine; decide, ?_⟩
        refine ⟨_, rfl, _, rfl, _, _, rfl, rfl, _, rfl, ite2 (fun h2 => ?_) (fun h2 => ?_)⟩
        · have h2 := of_decide_eq_true h2
          refine ⟨_, rfl, .inl ⟨rfl, _, SqL.of upd_same⟩, _, rfl, a, _, _, _, rfl, rfl, SqT.of (s2 _ _ ha), atI_nat (j := 2) rfl, _, rfl, _, rfl, _, _, rfl, rfl, _, _, rfl, ?_⟩
          rw [max_int]
          refine ⟨_, rfl, _, rfl, _, _, rfl, rfl, by show 4 ≤ sizeLine; decide, fun p2 hp2 => ?_⟩
          have e5 : (t : Int) - (((ds.getD i []).length : Nat) : Int) = ((t - (ds.getD i []).length : Nat) : Int) := by omega
          refine ⟨l, _, _, rfl, rfl, (same_upd hp2) _ _ upd_same, by show 1 < sizeLine; decide, ?_⟩
          refine ⟨_, rfl, ?_⟩
          have z := second [p] _ _ s2 upd_same hT (Nat.le_refl _) hok ho htot (by omega) p2 hp2
          rw [← e5] at z
          exact z
        · have h2 : ¬ ((((ds.getD i []).length : Nat) : Int) < (t : Int)) := fun z => h2 (decide_eq_true z)
          have em : min t (ds.getD i []).length = t := by omega
          refine ⟨_, rfl, ?_⟩
          refine q l _ [p] _ s2 hl' upd_same hT hok ?_ ?_
          · rw [ho, em]
            rfl
          · rw [htot, em]
      · have h : ¬ ((s : Int) < (((ds.getD i []).length : Nat) : Int)) := fun z => h (decide_eq_true z)
        refine ⟨_, rfl, _, rfl, _, _, rfl, rfl, _, rfl, ifP (show (((ds.getD i []).length : Nat) : Int) < (t : Int) by omega) ?_⟩
        refine ⟨_, rfl, .inl ⟨rfl, _, SqL.of upd_same⟩, _, rfl, a, _, _, _, rfl, rfl, SqT.of (s0 _ _ ha), atI_nat (j := 2) rfl, _, rfl, _, rfl, _, _, rfl, rfl, _, _, rfl, ?_⟩
        rw [max_int]
        refine ⟨_, rfl, _, rfl, _, _, rfl, rfl, by show 4 ≤ sizeLine; decide, fun p2 hp2 => ?_⟩
        have e5 : (t : Int) - (((ds.getD i []).length : Nat) : Int) = ((t - (ds.getD i []).length : Nat) : Int) := by omega
        refine ⟨l, _, _, rfl, rfl, (same_upd hp2) _ _ upd_same, by show 0 < sizeLine; decide, ?_⟩
        refine ⟨_, rfl, ?_⟩
        have z := second [] [] _ s0 upd_same TupsAt.nil (Nat.zero_le _) (fun e he => by cases he) (by
          unfold outs cutL
          have : min t (ds.getD i []).length - s = 0 := by omega
          rw [this, List.take_zero]
          rfl) (by
          show 0 = _
          omega) (by omega) p2 hp2
        rw [← e5] at z
        exact z
    | pw i k =>
      obtain ⟨o1, o2⟩ := ok1
      have ht : t ≤ ((List.replicate k (ds.getD i [])).flatten).length := ht
      have ok0 : ((List.replicate k (ds.getD i [])).flatten).length ≤ MX := ok0
      rw [flat_rep] at ht ok0
      have hx : 0 < (ds.getD i []).length := by
        rcases Nat.eq_zero_or_pos (ds.getD i []).length with z | z
        · rw [z] at ht; omega
        · exact z
      have hk : 0 < k := by
        rcases Nat.eq_zero_or_pos k with z | z
        · rw [z] at ht; omega
        · exact z
      have hm : (ds.getD i []).length ≤ MX := Nat.le_trans (Nat.le_mul_of_pos_left _ hk) ok0
      refine ⟨_, rfl, a, _, _, _, rfl, rfl, SqT.of ha, atI_nat (j := 0) rfl, _, rfl, a, _, _, _, rfl, rfl, SqT.of ha, atI_nat (j := 1) rfl, _, rfl, _, rfl, tl, _, _, _, rfl, rfl, (atl i o1).1, (atl i o1).2, ?_⟩
      refine ⟨_, rfl, rfl, _, rfl, ifN wpt ?_⟩
      refine ⟨_, rfl, rfl, _, rfl, ifN wpb ?_⟩
      refine ⟨_, rfl, rfl, _, rfl, ifP rfl ?_⟩
      refine ⟨Nat.zero_le _, fun l hl' => ?_⟩
      have s0 : Same H (upd H l (.lst [])) := same_upd hl'
      have d1 : (s : Int) / (((ds.getD i []).length : Nat) : Int) = ((s / (ds.getD i []).length : Nat) : Int) := (Int.natCast_ediv _ _).symm
      have d2 : ((t : Int) - 1) / (((ds.getD i []).length : Nat) : Int) + 1 = (((t - 1) / (ds.getD i []).length + 1 : Nat) : Int) := by
        have e : (t : Int) - 1 = ((t - 1 : Nat) : Int) := by omega
        rw [e, Int.natCast_add, Int.natCast_ediv]
        rfl
      have b1 : s / (ds.getD i []).length ≤ s := Nat.div_le_self _ _
      have b2 : (t - 1) / (ds.getD i []).length ≤ t - 1 := Nat.div_le_self _ _
      have b3 : s / (ds.getD i []).length ≤ (t - 1) / (ds.getD i []).length := Nat.div_le_div_right (by omega)
      refine ⟨_, rfl, _, rfl, _, _, rfl, rfl, wide_ok hx hm, _, rfl, _, _, rfl, rfl, _, rfl, _, _, rfl, rfl, wide_ok hx hm, _, _, rfl, rfl, ((s / (ds.getD i []).length : Nat) : Int), (((t - 1) / (ds.getD i []).length + 1 : Nat) : Int), ?_, ?_, ?_⟩
      · show [V.int ((s : Int) / (((ds.getD i []).length : Nat) : Int)), V.int (((t : Int) - 1) / (((ds.getD i []).length : Nat) : Int) + 1)] = _
        rw [d1, d2]
      · have b5 : (0 : Int) ≤ ((s / (ds.getD i []).length : Nat) : Int) := Int.natCast_nonneg _
        have b6 : (0 : Int) ≤ (((t - 1) / (ds.getD i []).length + 1 : Nat) : Int) := Int.natCast_nonneg _
        generalize s / (ds.getD i []).length = u1 at *
        generalize (t - 1) / (ds.getD i []).length = u2 at *
        omega
      have en : ((((t - 1) / (ds.getD i []).length + 1 : Nat) : Int) - ((s / (ds.getD i []).length : Nat) : Int)).toNat = (t - 1) / (ds.getD i []).length + 1 - s / (ds.getD i []).length := by omega
      rw [en]
      refine for_range (lo := ((s / (ds.getD i []).length : Nat) : Int)) (n := (t - 1) / (ds.getD i []).length + 1 - s / (ds.getD i []).length) (fun j σ H' => ∃ (v8 v9 : Option V) (as : List Addr) (es : List Pc), σ = [some (.ref a), some (.ref tl), some (.int (s : Int)), some (.int (t : Int)), some (.str "power"), some (.int (i : Int)), some (.int (((ds.getD i []).length : Nat) : Int)), some (.ref l), v8, v9] ∧
        Same H H' ∧ H' l = some (.lst (as.map V.ref)) ∧ TupsAt Pc.vs H' as es ∧ (∀ e ∈ es, e.ok n ds) ∧ outs ds es = cutL (List.replicate k (ds.getD i [])).flatten s (endE s t (ds.getD i []).length (s / (ds.getD i []).length) j) ∧ total es = endE s t (ds.getD i []).length (s / (ds.getD i []).length) j - s)
        ⟨none, none, [], [], rfl, s0, upd_same, TupsAt.nil, (fun e he => by cases he), by
          unfold endE
          rw [if_pos rfl, cutL_self]
          rfl, by
          unfold endE
          rw [if_pos rfl, Nat.sub_self]
          rfl⟩ ?_ ?_
      · rintro j σ H1 hj ⟨v8, v9, as, es, rfl, s1, h1, hT, hok, ho, htot⟩
        obtain ⟨g1, g2, g3, g4, g5, g6⟩ := pw_step (x := ds.getD i []) (k := k) (s := s) (t := t) (j := j) hx hst ht (by omega)
        have cf : (((s / (ds.getD i []).length : Nat) : Int) + (j : Int)) * (((ds.getD i []).length : Nat) : Int) = (((s / (ds.getD i []).length + j) * (ds.getD i []).length : Nat) : Int) := by
          rw [Int.natCast_mul, Int.natCast_add]
        refine ⟨_, rfl, _, rfl, _, _, rfl, rfl, .inr (by omega), ?_⟩
        refine ⟨_, rfl, .inl ⟨rfl, _, SqL.of h1⟩, _, rfl, _, rfl, _, rfl, _, _, rfl, rfl, _, _, rfl, ?_⟩
        rw [cf, max_int]
        refine ⟨_, rfl, _, rfl, _, _, rfl, rfl, _, rfl, _, _, rfl, ?_⟩
        have e6 : (t : Int) - (((s / (ds.getD i []).length + j) * (ds.getD i []).length : Nat) : Int) = ((t - (s / (ds.getD i []).length + j) * (ds.getD i []).length : Nat) : Int) := by omega
        rw [cf, e6, min_int]
        refine ⟨by show 4 ≤ sizeLine; decide, fun p hp => ?_⟩
        have hlen := len_total hok
        rw [htot, ← hT.len] at hlen
        refine ⟨l, _, _, rfl, rfl, (same_upd hp) _ _ h1, ?_, ?_⟩
        · rw [List.length_map]
          exact szl (by omega)
        have sp : Same H1 (upd H1 p (.tup (Pc.mk i (s - (s / (ds.getD i []).length + j) * (ds.getD i []).length) (min (t - (s / (ds.getD i []).length + j) * (ds.getD i []).length) (ds.getD i []).length) false).vs)) := same_upd hp
        have em : as.map V.ref ++ [V.ref p] = (as ++ [p]).map V.ref := by rw [List.map_append]; rfl
        refine ⟨_, _, as ++ [p], es ++ [Pc.mk i (s - (s / (ds.getD i []).length + j) * (ds.getD i []).length) (min (t - (s / (ds.getD i []).length + j) * (ds.getD i []).length) (ds.getD i []).length) false], rfl, sMut (s1.trans sp) hl', ?_, ((hT.gro (sGro sp)).snoc upd_same).gro (upd_gro (sp _ _ h1)), ?_, ?_, ?_⟩
        · rw [upd_same, em]
        · intro e he
          rcases List.mem_append.mp he with he | he
          · exact hok e he
          · rw [List.mem_singleton.mp he]
            exact ⟨o1, g1, Nat.min_le_right _ _⟩
        · rw [outs_snoc, ho, ← g3]
          rfl
        · rw [total_snoc, htot, ← g4]
      · rintro σ H1 ⟨v8, v9, as, es, rfl, s1, h1, hT, hok, ho, htot⟩
        rw [endE_last hx hst] at ho htot
        exact ⟨_, rfl, q l _ as es s1 hl' h1 hT hok ho htot⟩
    | pt i b c =>
      obtain ⟨o1, o2, o3⟩ := ok1
      have ht2 : t ≤ c - b := by
        have e := Ru.den_len ds (.pt i b c)
        rw [e] at ht
        have ht : t ≤ min (c - b) ((ds.getD i []).length - b) := ht
        omega
      refine ⟨_, rfl, a, _, _, _, rfl, rfl, SqT.of ha, atI_nat (j := 0) rfl, _, rfl, a, _, _, _, rfl, rfl, SqT.of ha, atI_nat (j := 1) rfl, _, rfl, _, rfl, tl, _, _, _, rfl, rfl, (atl i o1).1, (atl i o1).2, ?_⟩
      refine ⟨_, rfl, rfl, _, rfl, ifP rfl ?_⟩
      refine ⟨_, rfl, _, rfl, _, rfl, a, _, _, _, rfl, rfl, SqT.of ha, atI_nat (j := 2) rfl, _, _, rfl, rfl, _, rfl, _, rfl, a, _, _, _, rfl, rfl, SqT.of ha, atI_nat (j := 2) rfl, _, _, rfl, rfl, by show 4 ≤ sizeLine; decide, fun p hp => ⟨by show 1 ≤ sizeLine; decide, fun l hl' => ?_⟩⟩
      refine one ⟨i, s + b, t + b, false⟩ ⟨o1, by show s + b < t + b; omega, by show t + b ≤ (ds.getD i []).length; omega⟩ (cutL_cut ht2).symm (by show t + b - (s + b) = _; omega) p _ hp ?_ l hl'
      show upd H p (.tup [.int (i : Int), .int ((s : Int) + (b : Int)), .int ((t : Int) + (b : Int)), .bl false]) = upd H p (.tup [.int (i : Int), .int ((s + b : Nat) : Int), .int ((t + b : Nat) : Int), .bl false])
      rw [Int.natCast_add, Int.natCast_add]
    | bk i =>
      have ht : t ≤ (ds.getD i []).reverse.length := ht
      rw [List.length_reverse] at ht
      refine ⟨_, rfl, a, _, _, _, rfl, rfl, SqT.of ha, atI_nat (j := 0) rfl, _, rfl, a, _, _, _, rfl, rfl, SqT.of ha, atI_nat (j := 1) rfl, _, rfl, _, rfl, tl, _, _, _, rfl, rfl, (atl i ok1).1, (atl i ok1).2, ?_⟩
      refine ⟨_, rfl, rfl, _, rfl, ifN wbt ?_⟩
      refine ⟨_, rfl, rfl, _, rfl, ifP rfl ?_⟩
      refine ⟨_, rfl, _, rfl, _, rfl, _, _, rfl, rfl, _, rfl, _, rfl, _, _, rfl, rfl, by show 4 ≤ sizeLine; decide, fun p hp => ⟨by show 1 ≤ sizeLine; decide, fun l hl' => ?_⟩⟩
      refine one ⟨i, (ds.getD i []).length - t, (ds.getD i []).length - s, true⟩ ⟨ok1, by show (ds.getD i []).length - t < (ds.getD i []).length - s; omega, by show (ds.getD i []).length - s ≤ (ds.getD i []).length; omega⟩ (cutL_rev (by omega) ht).symm (by show (ds.getD i []).length - s - ((ds.getD i []).length - t) = _; omega) p _ hp ?_ l hl'
      show upd H p (.tup [.int (i : Int), .int ((((ds.getD i []).length : Nat) : Int) - (t : Int)), .int ((((ds.getD i []).length : Nat) : Int) - (s : Int)), .bl true]) = upd H p (.tup [.int (i : Int), .int (((ds.getD i []).length - t : Nat) : Int), .int (((ds.getD i []).length - s : Nat) : Int), .bl true])
      have e1 : (((ds.getD i []).length : Nat) : Int) - (t : Int) = (((ds.getD i []).length - t : Nat) : Int) := by omega
      have e2 : (((ds.getD i []).length : Nat) : Int) - (s : Int) = (((ds.getD i []).length - s : Nat) : Int) := by omega
      rw [e1, e2]
end
end Sh
set_option Elab.async false
set_option linter.all false
set_option maxRecDepth 100000
set_option maxHeartbeats 4000000
namespace Sh
open PySem PySem.Spec PyProof.Rows L2
open SX (S)
/-! ### the walk through the rules: what waits, and how far it is -/
def Pc.flip (t : Bool) (p : Pc) : Pc := ⟨p.i, p.a, p.b, p.t != t⟩
theorem flip_false (p : Pc) : p.flip false = p := by
  obtain ⟨i, a, b, t⟩ := p
  cases t <;> rfl
theorem flip_out (ds : List L) (p : Pc) : (p.flip true).out ds = (p.out ds).reverse := by
  obtain ⟨i, a, b, t⟩ := p
  cases t
  · rfl
  · show cutL (ds.getD i []) a b = (cutL (ds.getD i []) a b).reverse.reverse
    rw [List.reverse_reverse]
/-- the parts of a piece, in the order in which they are laid -/
def laid (t : Bool) (ps : List Pc) : List Pc := (if t = true then ps else ps.reverse).map (Pc.flip t)
theorem laid_outs (ds : List L) (t : Bool) (ps : List Pc) : outs ds (laid t ps).reverse = if t = true then (outs ds ps).reverse else outs ds ps := by
  cases t with
  | false =>
    have e : laid false ps = ps.reverse := by
      unfold laid
      rw [if_neg Bool.false_ne_true, show (Pc.flip false) = id from funext flip_false, List.map_id]
    rw [e, List.reverse_reverse, if_neg Bool.false_ne_true]
  | true =>
    unfold laid outs
    rw [if_pos rfl, if_pos rfl, List.reverse_flatten, List.map_reverse, List.map_map, List.map_map]
    congr 3
    exact funext fun p => flip_out ds p
theorem total_rev : ∀ ps : List Pc, total ps.reverse = total ps
  | [] => rfl
  | p :: r => by
    rw [List.reverse_cons, total_snoc, total_rev r]
    show _ = (p.b - p.a) + total r
    omega
theorem total_map (t : Bool) : ∀ ps : List Pc, total (ps.map (Pc.flip t)) = total ps
  | [] => rfl
  | p :: r => by
    show (p.b - p.a) + total (r.map (Pc.flip t)) = (p.b - p.a) + total r
    rw [total_map t r]
theorem laid_total (t : Bool) (ps : List Pc) : total (laid t ps) = total ps := by
  unfold laid
  rw [total_map]
  cases t
  · exact total_rev ps
  · rfl
theorem laid_mem {t : Bool} {ps : List Pc} {e : Pc} (h : e ∈ laid t ps) : ∃ p ∈ ps, e = p.flip t := by
  obtain ⟨p, hp, rfl⟩ := List.mem_map.mp h
  refine ⟨p, ?_, rfl⟩
  cases t
  · exact List.mem_reverse.mp hp
  · exact hp
def wt (e : Pc) : Nat := if e.a < e.b then (e.b - e.a) * (e.i + 1) else 1
def wts (es : List Pc) : Nat := (es.map wt).sum
theorem wts_app (a b : List Pc) : wts (a ++ b) = wts a + wts b := by
  unfold wts
  rw [List.map_append, List.sum_append_nat]
theorem wts_le {n : Nat} : ∀ {es : List Pc}, (∀ e ∈ es, e.i < n ∧ e.a < e.b) → wts es ≤ total es * n
  | [], _ => Nat.zero_le _
  | e :: r, h => by
    have h1 := wts_le (es := r) fun x hx => h x (List.mem_cons_of_mem _ hx)
    obtain ⟨h2, h3⟩ := h e List.mem_cons_self
    have h4 : wt e ≤ (e.b - e.a) * n := by
      unfold wt
      rw [if_pos h3]
      exact Nat.mul_le_mul_left _ h2
    show wt e + wts r ≤ ((e.b - e.a) + total r) * n
    rw [Nat.add_mul]
    omega
theorem wts_lt {e : Pc} {es : List Pc} (he : e.a < e.b) (h : ∀ x ∈ es, x.i < e.i ∧ x.a < x.b) (ht : total es = e.b - e.a) : wts es < wt e := by
  have h1 := wts_le h
  unfold wt
  rw [if_pos he]
  rw [ht] at h1
  rw [Nat.mul_add, Nat.mul_one]
  omega
theorem wt_pos (e : Pc) : 0 < wt e := by
  unfold wt
  split
  · exact Nat.mul_pos (by omega) (Nat.succ_pos _)
  · exact Nat.one_pos
theorem outs_app (ds : List L) (a b : List Pc) : outs ds (a ++ b) = outs ds a ++ outs ds b := by
  unfold outs
  rw [List.map_append, List.flatten_append]
theorem out_len {ds : List L} {e : Pc} (h1 : e.a ≤ e.b) (h2 : e.b ≤ (ds.getD e.i []).length) : (e.out ds).length = e.b - e.a := by
  unfold Pc.out
  split
  · rw [List.length_reverse, cutL_len h1 h2]
  · rw [cutL_len h1 h2]
/-- what waits is right -/
def PcsOk (ds : List L) (es : List Pc) : Prop := (∀ e ∈ es, e.i < ds.length ∧ e.a ≤ e.b ∧ e.b ≤ (ds.getD e.i []).length) ∧ (es.length ≤ 1 ∨ ∀ e ∈ es, e.a < e.b)
theorem PcsOk.len {ds : List L} {es : List Pc} {m : Nat} (h : PcsOk ds es) (hm : (outs ds es.reverse).length ≤ m) (h1 : 1 ≤ m) : es.length ≤ m := by
  rcases h.2 with h2 | h2
  · omega
  · have : ∀ l : List Pc, (∀ e ∈ l, e.a < e.b ∧ e.b ≤ (ds.getD e.i []).length) → l.length ≤ (outs ds l).length := by
      intro l
      induction l with
      | nil => intro _; exact Nat.zero_le _
      | cons e r ih =>
        intro hl
        obtain ⟨q1, q2⟩ := hl e List.mem_cons_self
        have q3 := ih fun x hx => hl x (List.mem_cons_of_mem _ hx)
        have e1 : outs ds (e :: r) = e.out ds ++ outs ds r := rfl
        rw [e1, List.length_append, out_len (by omega) q2]
        show r.length + 1 ≤ _
        omega
    have := this es.reverse fun e he => by
      have he := List.mem_reverse.mp he
      exact ⟨h2 e he, (h.1 e he).2.2⟩
    rw [List.length_reverse] at this
    omega
theorem cutS_S {z : L} {a b : Nat} (h1 : a ≤ b) (h2 : b ≤ z.length) : cutS (S z) (some (a : Int)) (some (b : Int)) = S (cutL z a b) := by
  unfold cutS
  rw [SX.S_len, HT.sIx_nat, HT.sIx_nat, Nat.min_eq_left h2, Nat.min_eq_left (Nat.le_trans h1 h2)]
  rfl
theorem join_flat (zs : List L) : Txt.join (S []) (zs.map S) = S zs.flatten := by
  rw [SX.join_S]
  congr 1
  have : ∀ l : List L, TL.joinL [] l = l.flatten := by
    intro l
    induction l with
    | nil => rfl
    | cons x r ih =>
      cases r with
      | nil => simp [TL.joinL]
      | cons y q =>
        rw [List.flatten_cons, ← ih]
        simp [TL.joinL]
  exact this zs
/-- an if whose ways meet in N -/
theorem mid2 {c : Prop} [Decidable c] {A : Prop} {N : Hp → Prop} {H3 : Hp} (Mid : Hp → Prop) (h : ∀ H4, Mid H4 → N H4) (hA : c → (∀ H4, Mid H4 → N H4) → A) (hB : ¬ c → Mid H3) : if c then A else N H3 := by
  by_cases z : c
  · rw [if_pos z]
    exact hA z h
  · rw [if_neg z]
    exact h _ (hB z)
theorem ne_bl (a b : Bool) : (!decide (V.bl a = V.bl b)) = (a != b) := by cases a <;> cases b <;> decide
section
variable {P : Program} {w : World} {K : PySem.W.Frag} {mg : Str → Option Value} {base : Heap} {C D Z : Addr}
/-! ### Text.letters -/
def spTs (C : Addr) : Sp := fun vs H Q _ => ∃ (x : Addr) (n a b : Nat) (d : L), vs = [.ref x, .int (a : Int), .int (b : Int)] ∧ TxtAt C H x n d ∧ a ≤ b ∧ b ≤ d.length ∧ b - a ≤ 1000 ∧ ∀ H', Same H H' → Q (.str (S (cutL d a b))) H'
theorem ok_Ts (T : Tx w K mg C D Z) (GTc : Fm P w K mg base 1 C "check_part" ["self", "start", "stop"] (spTc C)) (GIb : Fc P w K mg base 1 "inner_parts" ["rule", "lengths", "start", "stop"] spIb) (F : Dm K C "letters" "Text.letters" sTs) : Fm P w K mg base 2 C "letters" ["self", "start", "stop"] (spTs C) := by
  refine fm_of F (fun _ _ _ _ _ _ us hl => match us, hl with | [_, _, _], _ => rfl) scTs (fun vs H Q E h => ?_) (fun f cdv A outer s H vs Q E hr h => ?_)
  · obtain ⟨x, n, a, b, d, rfl, _⟩ := h
    rfl
  · obtain ⟨x, n, a, b, d, rfl, X, hab, hbd, h1000, q⟩ := h
    obtain ⟨rs, ds, as0, dx, tr, tl, hx, htr, hrs, htl, hd, hn, hlast⟩ := id X
    have hdl := last_at hlast
    have hpos : 0 < ds.length := by
      have := (List.getElem?_eq_some_iff.mp hdl).1
      omega
    refine ⟨_, (pss_cons (ps_expr (pe_m (pv 0) T.clT GTc (hr.mono (by decide)) (pa_cons (pv 1) (pa_cons (pv 2) pa_nil))))
      (pss_cons (ps_if (pt_cmpR op_gt (pe_op op_sub (pv 2) (pv 1)) (pe_gi T.MOST_TOLD) (nomark _)) (pss_one ps_never) pss_nil)
      (pss_cons (ps_set (i := 3) scTs.nd rfl (by first | exact Or.inl rfl | exact Or.inr rfl) (pe_lst pa_nil))
      (pss_cons (ps_set (i := 4) scTs.nd rfl (by first | exact Or.inl rfl | exact Or.inr rfl) (pe_lst (pa_cons (pe_tup (pa_cons (pe_op op_sub (pe_callB (id := "len") (call_lenK K) (by rfl) T.len_ (by decide +kernel) (pa_cons (pe_fld (pv 0) rfl) pa_nil)) pe_int) (pa_cons (pv 1) (pa_cons (pv 2) (pa_cons pe_bl pa_nil))))) pa_nil)))
      (pss_cons (ps_while PassesOwn.never (pt_truth (pv 4) (by intro _; rfl)) (pss_cons (ps_asg (pe_bm0 PySem.F.plainAttrs_list PySem.F.slot_list_pop PySem.F.type_list_pop mt_pop (pv 4)) (pg_tup (by rfl) (pgs_cons (pg_name (i := 5) scTs.nd rfl (Or.inl rfl)) (pgs_cons (pg_name (i := 6) scTs.nd rfl (Or.inl rfl)) (pgs_cons (pg_name (i := 7) scTs.nd rfl (Or.inl rfl)) (pgs_cons (pg_name (i := 8) scTs.nd rfl (Or.inl rfl)) pgs_nil))))))
      (pss_cons (ps_set (i := 9) scTs.nd rfl (by first | exact Or.inl rfl | exact Or.inr rfl) (pe_ix ix_tup (pe_fld (pv 0) rfl) (pv 5) (fun _ _ => rfl)))
      (pss_one (ps_if (PW.pt (pw_and (pt_cmpR op_lt (pv 6) (pv 7) (nomark _)) (pw_and1 (pt_cmpR op_eq (pe_ix ix_tup (pv 9) pe_int (fun _ _ => rfl)) pe_str (nomark _))))) (pss_cons (ps_set (i := 10) scTs.nd rfl (by first | exact Or.inl rfl | exact Or.inr rfl) (pe_slice sl_str (pe_ix ix_tup (pv 9) pe_int (fun _ _ => rfl)) (po_some (pv 6)) (po_some (pv 7))))
      (pss_one (ps_expr (pe_bm PySem.F.plainAttrs_list PySem.F.slot_list_append PySem.F.type_list_append mt_append (pv 3) (pa_cons (pe_ifExp (pt_val (pv 8)) (pe_revS (pv 10)) (pv 10)) pa_nil))))) (pss_one (ps_if (pt_cmpR op_lt (pv 6) (pv 7) (nomark _)) (pss_cons (ps_set (i := 11) scTs.nd rfl (by first | exact Or.inl rfl | exact Or.inr rfl) (pe_c GIb (hr.mono (by decide)) (pa_cons (pv 9) (pa_cons (pe_fld (pv 0) rfl) (pa_cons (pv 6) (pa_cons (pv 7) pa_nil))))))
      (pss_cons (ps_if (pt_not (pt_val (pv 8))) (pss_one (ps_expr (pe_bm0 PySem.F.plainAttrs_list PySem.F.slot_list_reverse PySem.F.type_list_reverse mt_reverse (pv 11)))) pss_nil)
      (pss_one (ps_for PassesOwn.never rfl (pi_list (pv 11)) (pg_tup rfl (pgs_cons (pg_name (i := 12) scTs.nd rfl (Or.inl rfl)) (pgs_cons (pg_name (i := 13) scTs.nd rfl (Or.inl rfl)) (pgs_cons (pg_name (i := 14) scTs.nd rfl (Or.inl rfl)) (pgs_cons (pg_name (i := 15) scTs.nd rfl (Or.inl rfl)) pgs_nil))))) (pss_one (ps_expr (pe_bm PySem.F.plainAttrs_list PySem.F.slot_list_append PySem.F.type_list_append mt_append (pv 4) (pa_cons (pe_tup (pa_cons (pv 12) (pa_cons (pv 13) (pa_cons (pv 14) (pa_cons (pe_cmpR op_ne (pv 15) (pv 8) (nomark _)) pa_nil))))) pa_nil)))))))) pss_nil)))))))
      (pss_one (ps_ret (pe_join pe_str (pv 3))))))))), ?_⟩
    refine ⟨_, rfl, x, dx, _, rfl, hx, tf_no _ _ _ (by decide +kernel) (by decide +kernel) (by decide +kernel), _, rfl, _, rfl, x, n, a, b, d, rfl, X, hab, hbd, ?_⟩
    refine ⟨_, rfl, _, rfl, _, _, rfl, rfl, _, _, rfl, rfl, _, rfl, ifN (show ¬ ((1000 : Int) < (b : Int) - (a : Int)) by omega) ?_⟩
    refine ⟨Nat.zero_le _, fun fl hfl => ?_⟩
    have s0 : Same H (upd H fl (.lst [])) := same_upd hfl
    refine ⟨_, rfl, x, C, dx, _, _, rfl, s0 _ _ hx, T.clT, T.tR, tf_rules _ _ _, tr, _, rfl, .inr (SqT.of (s0 _ _ htr)), _, _, rfl, rfl, _, rfl, _, rfl, by show 4 ≤ sizeLine; decide, fun p hp => ⟨by show 1 ≤ sizeLine; decide, fun wl hwl => ?_⟩⟩
    have ei : (((as0.map V.ref).length : Nat) : Int) - 1 = ((ds.length - 1 : Nat) : Int) := by
      rw [List.length_map, hrs.len, hd.len]
      omega
    have ep : HO.tup [V.int ((((as0.map V.ref).length : Nat) : Int) - 1), .int (a : Int), .int (b : Int), .bl false] = HO.tup (Pc.mk (ds.length - 1) a b false).vs := by
      rw [ei]; rfl
    have nfw : fl ≠ wl := ne_of_none ((same_upd hp) _ _ upd_same) hwl
    have hwl0 : H wl = none := (s0.trans (same_upd hp)).free hwl
    have hout0 : (Pc.mk (ds.length - 1) a b false).out ds = cutL d a b := by
      show cutL (ds.getD (ds.length - 1) []) a b = _
      rw [gD hdl]
    have cl : (cutL d a b).length ≤ 1000 := by rw [cutL_len hab hbd]; exact h1000
    refine ⟨fun m σ H' => ∃ (v5 v6 v7 v8 v9 v10 v11 v12 v13 v14 v15 : Option V) (zs : List L) (as : List Addr) (es : List Pc),
        σ = [some (.ref x), some (.int (a : Int)), some (.int (b : Int)), some (.ref fl), some (.ref wl), v5, v6, v7, v8, v9, v10, v11, v12, v13, v14, v15] ∧ Same H H' ∧ H' fl = some (.lst (zs.map fun z => V.str (S z))) ∧ H' wl = some (.lst (as.map V.ref)) ∧
        TupsAt Pc.vs H' as es ∧ PcsOk ds es ∧ zs.flatten ++ outs ds es.reverse = cutL d a b ∧ zs.length ≤ zs.flatten.length ∧ m = wts es,
      ⟨_, none, none, none, none, none, none, none, none, none, none, none, [], [p], [Pc.mk (ds.length - 1) a b false], rfl, (s0.trans (same_upd hp)).trans (same_upd hwl), ?_, upd_same, ?_, ⟨?_, .inl (Nat.le_refl _)⟩, ?_, Nat.le_refl _, rfl⟩, fun m σ H' hW => ?_⟩
    · rw [upd_ne nfw]
      exact (same_upd hp) _ _ upd_same
    · refine TupsAt.snoc (as := []) (es := []) TupsAt.nil ((same_upd hwl) _ _ ?_)
      show upd (upd H fl (.lst [])) p (.tup [V.int ((((as0.map V.ref).length : Nat) : Int) - 1), .int (a : Int), .int (b : Int), .bl false]) p = _
      rw [upd_same, ep]
    · intro e he
      rw [List.mem_singleton.mp he]
      refine ⟨by show ds.length - 1 < _; omega, hab, ?_⟩
      show b ≤ (ds.getD (ds.length - 1) []).length
      rw [gD hdl]; exact hbd
    · show [] ++ outs ds [Pc.mk (ds.length - 1) a b false] = _
      unfold outs
      simp [hout0]
    -- a turn
    obtain ⟨v5, v6, v7, v8, v9, v10, v11, v12, v13, v14, v15, zs, as, es, rfl, s1, hf, hw, hT, hok, ho, hz, rfl⟩ := hW
    by_cases hnil : as = []
    · subst hnil
      have hes : es = [] := List.length_eq_zero_iff.mp hT.len.symm
      subst hes
      refine ⟨_, rfl, false, .inl ⟨_, SqL.of hw, rfl⟩, iteF ?_⟩
      have ho' : zs.flatten = cutL d a b := by
        rw [← ho]
        show _ = zs.flatten ++ []
        rw [List.append_nil]
      refine ⟨⟨_, rfl⟩, _, rfl, _, fl, zs.map S, rfl, rfl, .inl (SqL.of (by rw [List.map_map]; exact hf)), ?_, ?_⟩
      · rw [List.map_map]
        have e1 : (zs.map ((fun x : Str => x.length) ∘ S)).sum = zs.flatten.length := by
          rw [List.length_flatten]
          congr 1
        have e2 : (Str.ofString "").length = 0 := by decide +kernel
        rw [e1, e2, ho', Nat.mul_zero]
        omega
      · rw [← S_nil, join_flat, ho']
        exact q _ s1
    · -- number, first, last, is_turned = waiting.pop()
      have hlen : 0 < as.length := List.length_pos_iff.mpr hnil
      have hle : as.length - 1 < es.length := by rw [← hT.len]; omega
      have he := List.getElem?_eq_getElem hle
      generalize es[as.length - 1] = e at he
      obtain ⟨ae, eae, eae2, hae⟩ := hT.get he
      have hmem : e ∈ es := List.mem_of_getElem? he
      obtain ⟨k1, k2, k3⟩ := hok.1 e hmem
      have hes : es = es.dropLast ++ [e] := by
        have hne : es ≠ [] := fun z => by rw [z] at hle; cases hle
        have h1 := (List.dropLast_concat_getLast hne).symm
        have h2 : es.getLast hne = e := by
          rw [List.getLast_eq_getElem]
          have : es.length - 1 = as.length - 1 := by rw [hT.len]
          have h3 := List.getElem?_eq_getElem hle
          rw [he] at h3
          simp only [this]
          exact (Option.some.inj h3).symm
        rw [h2] at h1
        exact h1
      have hor : outs ds es.reverse = e.out ds ++ outs ds es.dropLast.reverse := by
        conv => lhs; rw [hes, List.reverse_append]
        rfl
      have hT0 := hT.dropLast
      have elast : (as.map V.ref)[(as.map V.ref).length - 1]? = some (.ref ae) := by
        rw [List.length_map]; exact eae2
      have eit : (!(as.map V.ref).isEmpty) = true := by
        cases as with
        | nil => exact absurd rfl hnil
        | cons y r => rfl
      refine ⟨_, rfl, true, .inl ⟨_, SqL.of hw, eit.symm⟩, iteT ?_⟩
      refine ⟨fun σ' H2 => ∃ m', m' < wts es ∧ ∃ (v5 v6 v7 v8 v9 v10 v11 v12 v13 v14 v15 : Option V) (zs : List L) (as : List Addr) (es : List Pc),
        σ' = [some (.ref x), some (.int (a : Int)), some (.int (b : Int)), some (.ref fl), some (.ref wl), v5, v6, v7, v8, v9, v10, v11, v12, v13, v14, v15] ∧ Same H H2 ∧ H2 fl = some (.lst (zs.map fun z => V.str (S z))) ∧ H2 wl = some (.lst (as.map V.ref)) ∧
        TupsAt Pc.vs H2 as es ∧ PcsOk ds es ∧ zs.flatten ++ outs ds es.reverse = cutL d a b ∧ zs.length ≤ zs.flatten.length ∧ m' = wts es, fun σ' H2 h => h, ?_⟩
      have gw : Gro H' (upd H' wl (.lst (as.map V.ref).dropLast)) := upd_gro hw
      have edl : (as.map V.ref).dropLast = as.dropLast.map V.ref := by rw [List.map_dropLast]
      refine ⟨_, rfl, .inl ⟨rfl, _, SqL.of hw⟩, wl, _, .ref ae, rfl, rfl, hw, elast, ?_⟩
      rw [edl] at gw ⊢
      have s2 : Same H (upd H' wl (.lst (as.dropLast.map V.ref))) := sMut s1 hwl0
      have hf2 : (upd H' wl (.lst (as.dropLast.map V.ref))) fl = some (.lst (zs.map fun z => V.str (S z))) := by rw [upd_ne nfw]; exact hf
      have hT2 := hT0.gro gw
      have hw2 : (upd H' wl (.lst (as.dropLast.map V.ref))) wl = some (.lst (as.dropLast.map V.ref)) := upd_same
      have hae2 := gw.tup _ _ hae
      have ewts : wts es = wts es.dropLast + wt e := by
        conv => lhs; rw [hes]
        rw [wts_app]
        rfl
      generalize upd H' wl (.lst (as.dropLast.map V.ref)) = H2 at s2 hf2 hT2 hw2 hae2
      refine ⟨ae, _, rfl, SqT.of hae2, rfl, _, _, rfl, _, _, rfl, _, _, rfl, _, _, rfl, rfl, ?_⟩
      -- rule = self.rules[number]
      have hir : e.i < rs.length := by rw [hd.len]; exact k1
      obtain ⟨ar, ear, ear2, har⟩ := hrs.get (List.getElem?_eq_getElem hir)
      obtain ⟨j1, j2⟩ := hd.at_ e.i _ (List.getElem?_eq_getElem hir)
      generalize rs[e.i] = r at har j1 j2
      have hde : ds.getD e.i [] = r.den ds := gD j2
      have hok0 : (∀ e ∈ es.dropLast, e.i < ds.length ∧ e.a ≤ e.b ∧ e.b ≤ (ds.getD e.i []).length) := fun y hy => hok.1 y (List.dropLast_subset _ hy)
      refine ⟨_, rfl, x, C, dx, _, _, rfl, s2 _ _ hx, T.clT, T.tR, tf_rules _ _ _, _, rfl, tr, _, _, _, rfl, rfl, SqT.of (s2 _ _ htr), atI_nat ear2, ?_⟩
      by_cases hlt : e.a < e.b
      · have hall : ∀ e ∈ es.dropLast, e.a < e.b := by
          rcases hok.2 with z | z
          · have : es.dropLast = [] := List.length_eq_zero_iff.mp (by rw [List.length_dropLast]; omega)
            rw [this]
            intro y hy; cases hy
          · exact fun y hy => z y (List.dropLast_subset _ hy)
        refine ⟨_, rfl, _, rfl, _, _, rfl, rfl, _, rfl, ifP (show (e.a : Int) < (e.b : Int) by omega) ?_⟩
        refine ⟨_, rfl, ar, _, _, _, rfl, rfl, SqT.of (s2 _ _ har), atI_nat (j := 0) r.vs_word, rfl, _, rfl, ?_⟩
        by_cases hl : ∃ t, r = .lt t
        · obtain ⟨t, rfl⟩ := hl
          refine ifP rfl ?_
          have h64 := j1.2.1
          have hdt : ds.getD e.i [] = t := hde
          rw [hdt] at k3
          -- letters = rule[1][first:last]
          refine ⟨_, rfl, ar, _, _, _, rfl, rfl, SqT.of (s2 _ _ har), atI_nat (j := 1) rfl, _, rfl, _, rfl, _, rfl, _, rfl, S t, rfl, (by rw [SX.S_len]; exact sz (by omega)), ?_⟩
          rw [cutS_S k2 k3]
          have eo : e.out ds = if e.t = true then (cutL t e.a e.b).reverse else cutL t e.a e.b := by
            unfold Pc.out
            rw [hdt]
          have eol : 0 < (e.out ds).length := by
            rw [out_len k2 (by rw [hdt]; exact k3)]
            omega
          have hzl : zs.length ≤ 1000 := by
            have := congrArg List.length ho
            rw [List.length_append] at this
            omega
          have fin : ∀ v, v = V.str (S (e.out ds)) → ∀ σ5 σ6 σ7 σ8 σ9 σ10 σ11 σ12 σ13 σ14 σ15, ∃ m', m' < wts es ∧ ∃ (v5 v6 v7 v8 v9 v10 v11 v12 v13 v14 v15 : Option V) (zs' : List L) (as' : List Addr) (es' : List Pc),
              ([some (.ref x), some (.int (a : Int)), some (.int (b : Int)), some (.ref fl), some (.ref wl), σ5, σ6, σ7, σ8, σ9, σ10, σ11, σ12, σ13, σ14, σ15] : List (Option V)) = [some (.ref x), some (.int (a : Int)), some (.int (b : Int)), some (.ref fl), some (.ref wl), v5, v6, v7, v8, v9, v10, v11, v12, v13, v14, v15] ∧ Same H (upd H2 fl (.lst ((zs.map fun z => V.str (S z)) ++ [v]))) ∧ (upd H2 fl (.lst ((zs.map fun z => V.str (S z)) ++ [v]))) fl = some (.lst (zs'.map fun z => V.str (S z))) ∧ (upd H2 fl (.lst ((zs.map fun z => V.str (S z)) ++ [v]))) wl = some (.lst (as'.map V.ref)) ∧
              TupsAt Pc.vs (upd H2 fl (.lst ((zs.map fun z => V.str (S z)) ++ [v]))) as' es' ∧ PcsOk ds es' ∧ zs'.flatten ++ outs ds es'.reverse = cutL d a b ∧ zs'.length ≤ zs'.flatten.length ∧ m' = wts es' := by
            intro v ev σ5 σ6 σ7 σ8 σ9 σ10 σ11 σ12 σ13 σ14 σ15
            refine ⟨wts es.dropLast, by have := wt_pos e; omega, σ5, σ6, σ7, σ8, σ9, σ10, σ11, σ12, σ13, σ14, σ15, zs ++ [e.out ds], as.dropLast, es.dropLast, rfl, sMut s2 hfl, ?_, ?_, hT2.gro (upd_gro hf2), ⟨hok0, .inr hall⟩, ?_, ?_, rfl⟩
            · rw [upd_same, ev, List.map_append]
              rfl
            · rw [upd_ne nfw.symm]
              exact hw2
            · rw [List.flatten_append, ← ho, hor]
              simp
            · have e1 : (zs ++ [e.out ds]).flatten.length = zs.flatten.length + (e.out ds).length := by
                rw [List.flatten_append, List.length_append]
                simp
              rw [e1, List.length_append, List.length_singleton]
              omega
          refine ⟨_, rfl, .inl ⟨rfl, _, SqL.of hf2⟩, _, rfl, e.t, rfl, ?_⟩
          cases het : e.t with
          | true =>
            refine iteT ⟨_, rfl, cutL t e.a e.b, rfl, ?_, ?_⟩
            · rw [cutL_len k2 k3]
              exact sz (by omega)
            · refine ⟨fl, _, _, rfl, rfl, hf2, (by rw [List.length_map]; exact szl (by omega)), ?_⟩
              exact fin _ (by rw [eo, het, if_pos rfl]) _ _ _ _ _ _ _ _ _ _ _
          | false =>
            refine iteF ⟨_, rfl, ?_⟩
            refine ⟨fl, _, _, rfl, rfl, hf2, (by rw [List.length_map]; exact szl (by omega)), ?_⟩
            exact fin _ (by rw [eo, het, if_neg Bool.false_ne_true]) _ _ _ _ _ _ _ _ _ _ _
        · have hw' : ¬ (V.str r.word = V.str "letters") := by
            cases r with
            | lt t => exact absurd ⟨t, rfl⟩ hl
            | jn i j => exact wjl
            | pw i k => exact wpl
            | pt i b c => exact wtl
            | bk i => exact wbl
          refine ifN hw' ?_
          refine ⟨_, rfl, _, rfl, _, _, rfl, rfl, _, rfl, ifP (show (e.a : Int) < (e.b : Int) by omega) ?_⟩
          have heb : e.b - e.a ≤ 1000 := by
            have h1 := out_len k2 k3
            have h2 := congrArg List.length ho
            rw [hor, List.length_append, List.length_append, h1] at h2
            omega
          -- parts = inner_parts(..)
          refine ⟨_, rfl, _, rfl, x, C, dx, _, _, rfl, s2 _ _ hx, T.clT, T.tL, tf_lengths _ _ _, _, rfl, _, rfl, ar, tl, r, ds, e.i, e.a, e.b, rfl, s2 _ _ har, s2 _ _ htl, j1, by omega, hl, hlt, by rw [← hde]; exact k3, heb, fun l H3 bs ps s3 hl0 hl3 hB hps hpo hpt => ?_⟩
          have s23 := s2.trans s3
          have nlw : l ≠ wl := fun z => by rw [z, hw2] at hl0; cases hl0
          have nlf : l ≠ fl := fun z => by rw [z, hf2] at hl0; cases hl0
          have hl00 : H l = none := s2.free hl0
          refine ⟨_, rfl, e.t, rfl, ?_⟩
          refine mid2 (fun H4 => ∃ (cs : List Addr) (qs : List Pc), Same H H4 ∧ H4 fl = some (.lst (zs.map fun z => V.str (S z))) ∧ H4 wl = some (.lst (as.dropLast.map V.ref)) ∧ TupsAt Pc.vs H4 as.dropLast es.dropLast ∧ H4 l = some (.lst (cs.map V.ref)) ∧ TupsAt Pc.vs H4 cs qs ∧ qs.map (Pc.flip e.t) = laid e.t ps) ?_ ?_ ?_
          · rintro H4 ⟨cs, qs, s4, hf4, hw4, hT4, hl4, hC, eq⟩
            have hql : qs.length = ps.length := by
              have := congrArg List.length eq
              rw [List.length_map] at this
              rw [this]
              unfold laid
              rw [List.length_map]
              split
              · rfl
              · exact List.length_reverse
            have hpl : ps.length ≤ 1000 := by
              have := len_total hps
              omega
            have hal : as.dropLast.length ≤ 1000 := by
              have h1 : es.length ≤ 1000 := PcsOk.len hok (by
                have := congrArg List.length ho
                rw [List.length_append] at this
                omega) (by decide)
              rw [List.length_dropLast, hT.len]
              omega
            refine ⟨_, rfl, l, rfl, ⟨_, SqL.of hl4⟩, for_list (K := K) (a := l) (xs := cs.map V.ref) (fun k σ' H5 => ∃ (v12 v13 v14 v15 : Option V) (bs' : List Addr), σ' = [some (.ref x), some (.int (a : Int)), some (.int (b : Int)), some (.ref fl), some (.ref wl), some (.int (e.i : Int)), some (.int (e.a : Int)), some (.int (e.b : Int)), some (.bl e.t), some (.ref ar), v10, some (.ref l), v12, v13, v14, v15] ∧
              Keep wl H4 H5 ∧ H5 wl = some (.lst ((as.dropLast ++ bs').map V.ref)) ∧ TupsAt Pc.vs H5 (as.dropLast ++ bs') (es.dropLast ++ (qs.take k).map (Pc.flip e.t)))
              ⟨v12, v13, v14, v15, [], rfl, Keep.refl _ _, by rw [List.append_nil]; exact hw4, by
                rw [List.append_nil, List.take_zero, List.map_nil, List.append_nil]
                exact hT4⟩ (fun k σ' H5 _ ⟨_, _, _, _, _, _, kp, _⟩ => SqL.of (kp _ _ hl4 nlw)) ?_ ?_⟩
            · rintro k y σ' H5 hk ⟨v12, v13, v14, v15, bs', rfl, kp, hw5, hT5⟩
              have hkc : k < cs.length := by
                have := (List.getElem?_eq_some_iff.mp hk).1
                rw [List.length_map] at this
                exact this
              have hkq : k < qs.length := by rw [← hC.len]; exact hkc
              obtain ⟨c, ec, ec2, hc⟩ := hC.get (List.getElem?_eq_getElem hkq)
              have ey : y = .ref c := Option.some.inj (hk.symm.trans ec2)
              subst ey
              have hcw : c ≠ wl := fun z => by rw [z, hw4] at hc; cases hc
              have hc5 := kp _ _ hc hcw
              generalize hq' : qs[k] = g at hc5 hc ec2
              refine ⟨c, _, rfl, SqT.of hc5, rfl, _, _, rfl, _, _, rfl, _, _, rfl, _, _, rfl, rfl, ?_⟩
              refine ⟨_, rfl, .inl ⟨rfl, _, SqL.of hw5⟩, _, rfl, _, rfl, _, rfl, _, rfl, _, rfl, rfl, ?_⟩
              rw [ne_bl]
              refine ⟨by show 4 ≤ sizeLine; decide, fun p hp => ?_⟩
              have sp : Same H5 (upd H5 p (.tup (g.flip e.t).vs)) := same_upd hp
              have hbl : bs'.length ≤ 1000 := by
                have h1 := hT5.len
                rw [List.length_append, List.length_append, List.length_map, List.length_take, List.length_dropLast, List.length_dropLast, hT.len] at h1
                omega
              refine ⟨wl, _, _, rfl, rfl, sp _ _ hw5, ?_, ?_⟩
              · rw [List.length_map, List.length_append]
                exact szl (by omega)
              have em : (as.dropLast ++ bs').map V.ref ++ [V.ref p] = (as.dropLast ++ (bs' ++ [p])).map V.ref := by
                rw [← List.append_assoc, List.map_append (l₁ := as.dropLast ++ bs')]
                rfl
              refine ⟨_, _, _, _, bs' ++ [p], rfl, (kp.trans (sKeep sp)).trans Keep.upd, ?_, ?_⟩
              · rw [upd_same, em]
              · have e1 : es.dropLast ++ (qs.take (k + 1)).map (Pc.flip e.t) = (es.dropLast ++ (qs.take k).map (Pc.flip e.t)) ++ [g.flip e.t] := by
                  rw [List.take_add_one, List.getElem?_eq_getElem hkq, hq', List.append_assoc]
                  congr 1
                  rw [List.map_append]
                  rfl
                rw [e1, ← List.append_assoc]
                exact ((hT5.gro (sGro sp)).snoc upd_same).gro (upd_gro (sp _ _ hw5))
            · rintro σ' H5 ⟨v12, v13, v14, v15, bs', rfl, kp, hw5, hT5⟩
              have et : qs.take (cs.map V.ref).length = qs := List.take_of_length_le (by rw [List.length_map, hC.len]; exact Nat.le_refl _)
              rw [et, eq] at hT5
              have hlm : ∀ y ∈ laid e.t ps, y.i < e.i ∧ y.a < y.b ∧ y.b ≤ (ds.getD y.i []).length := by
                intro y hy
                obtain ⟨p, hp, rfl⟩ := laid_mem hy
                have z := hps p hp
                exact ⟨z.i, z.ab, z.b⟩
              have hlt2 : total (laid e.t ps) = e.b - e.a := by rw [laid_total, hpt]
              have hout : outs ds (laid e.t ps).reverse = e.out ds := by
                rw [laid_outs, hpo]
                unfold Pc.out
                rw [hde]
              refine ⟨wts (es.dropLast ++ laid e.t ps), ?_, _, _, _, _, _, _, _, _, _, _, _, zs, _, _, rfl, fun z o h => kp _ _ (s4 _ _ h) (ne_of_none h hwl0), kp _ _ hf4 nfw, hw5, hT5, ⟨fun y hy => ?_, .inr fun y hy => ?_⟩, ?_, hz, rfl⟩
              · rw [wts_app, ewts]
                have := wts_lt hlt (fun y hy => ⟨(hlm y hy).1, (hlm y hy).2.1⟩) hlt2
                omega
              · rcases List.mem_append.mp hy with hy | hy
                · exact hok0 y hy
                · obtain ⟨z1, z2, z3⟩ := hlm y hy
                  exact ⟨by omega, by omega, z3⟩
              · rcases List.mem_append.mp hy with hy | hy
                · exact hall y hy
                · exact (hlm y hy).2.1
              · rw [List.reverse_append, outs_app, hout, ← hor]
                exact ho
          · intro ht hN
            refine ⟨_, rfl, .inl ⟨rfl, _, SqL.of hl3⟩, l, _, rfl, rfl, hl3, ?_⟩
            have het : e.t = false := by
              cases h : e.t with
              | false => rfl
              | true => rw [h] at ht; cases ht
            refine hN _ ⟨bs.reverse, ps.reverse, sMut s23 hl00, (by rw [upd_ne nlf.symm]; exact s3 _ _ hf2), (by rw [upd_ne nlw.symm]; exact s3 _ _ hw2), (hT2.gro (sGro s3)).gro (upd_gro hl3), (by rw [upd_same, List.map_reverse]), hB.rev.gro (upd_gro hl3), ?_⟩
            unfold laid
            rw [het, if_neg Bool.false_ne_true]
          · intro ht
            have het : e.t = true := by
              cases h : e.t with
              | false => rw [h] at ht; exact absurd rfl ht
              | true => rfl
            refine ⟨bs, ps, s23, s3 _ _ hf2, s3 _ _ hw2, hT2.gro (sGro s3), hl3, hB, ?_⟩
            unfold laid
            rw [het, if_pos rfl]
      · -- nothing there
        have hnlt : ¬ ((e.a : Int) < (e.b : Int)) := by omega
        refine ⟨_, rfl, _, rfl, _, _, rfl, rfl, _, rfl, ifN hnlt (iteF ?_)⟩
        refine ⟨_, rfl, _, rfl, _, _, rfl, rfl, _, rfl, ifN hnlt ?_⟩
        have h1 : es.length ≤ 1 := by
          rcases hok.2 with z | z
          · exact z
          · exact absurd (z e hmem) hlt
        have heo : e.out ds = [] := List.length_eq_zero_iff.mp (by rw [out_len k2 k3]; omega)
        rw [heo, List.nil_append] at hor
        refine ⟨wts es.dropLast, by have := wt_pos e; omega, _, _, _, _, _, _, _, _, _, _, _, zs, _, es.dropLast, rfl, s2, hf2, hw2, hT2, ⟨hok0, .inl (by rw [List.length_dropLast]; omega)⟩, by rw [← hor]; exact ho, hz, rfl⟩
end
end Sh
set_option Elab.async false
set_option linter.all false
set_option maxRecDepth 100000
set_option maxHeartbeats 4000000
namespace Sh
open PySem PySem.Spec PyProof.Rows L2
open SX (S)
theorem six2 {n : Nat} (h : 1 < n) : HT.sIx n 0 (some 2) ≠ 0 := by
  rw [show (2 : Int) = ((2 : Nat) : Int) from rfl, HT.sIx_nat]
  omega
/-! ### a Builder beside what else stands -/
def hide (r l : Addr) (H : Hp) : Hp := fun a => if a = r then none else if a = l then none else H a
theorem hide_some {r l a : Addr} {H : Hp} {o : HO} (h : hide r l H a = some o) : H a = some o := by
  unfold hide at h
  split at h
  · cases h
  · split at h
    · cases h
    · exact h
theorem hide_at {r l a : Addr} {H : Hp} (h1 : a ≠ r) (h2 : a ≠ l) : hide r l H a = H a := by
  unfold hide
  rw [if_neg h1, if_neg h2]
theorem hide_r {r l : Addr} {H : Hp} : hide r l H r = none := by
  unfold hide
  rw [if_pos rfl]
theorem hide_l {r l : Addr} {H : Hp} : hide r l H l = none := by
  unfold hide
  split
  · rfl
  · rw [if_pos rfl]
section
variable {D : Addr} {H0 H H' : Hp} {b r l : Addr} {ds es : List L}
theorem BuAt.rebase (h : BuAt D H0 H b r l ds) : BuAt D (hide r l H) H b r l ds := by
  obtain ⟨s0, r0, l0, ne, x⟩ := h
  exact ⟨fun a o e => hide_some e, hide_r, hide_l, ne, x⟩
theorem BuAt.back (h : BuAt D H0 H b r l ds) (h' : BuAt D (hide r l H) H' b r l es) : BuAt D H0 H' b r l es := by
  obtain ⟨s0, r0, l0, ne, x⟩ := h
  obtain ⟨s0', r0', l0', ne', x'⟩ := h'
  refine ⟨fun a o e => s0' _ _ ?_, r0, l0, ne, x'⟩
  rw [hide_at (ne_of_none e r0) (ne_of_none e l0)]
  exact s0 _ _ e
theorem BuAt.keeps (h' : BuAt D (hide r l H) H' b r l es) {a : Addr} {o : HO} (e : H a = some o) (h1 : a ≠ r) (h2 : a ≠ l) : H' a = some o := by
  refine h'.1 _ _ ?_
  rw [hide_at h1 h2]
  exact e
theorem BuAt.len (h : BuAt D H0 H b r l ds) : ∃ as : List Addr, H r = some (.lst (as.map V.ref)) ∧ as.length = ds.length := by
  obtain ⟨s0, r0, l0, ne, rs, as, dx, h1, h2, h3, h4, h5⟩ := h
  exact ⟨as, h2, by rw [h4.len, h5.len]⟩
theorem BuAt.le (h : BuAt D H0 H b r l ds) {i : Nat} {d : L} (hd : ds[i]? = some d) : d.length ≤ MX := by
  obtain ⟨s0, r0, l0, ne, rs, as, dx, h1, h2, h3, h4, h5⟩ := h
  have hi : i < rs.length := by
    have := (List.getElem?_eq_some_iff.mp hd).1
    have := h5.len
    omega
  obtain ⟨k, e⟩ := h5.at_ _ _ (List.getElem?_eq_getElem hi)
  rw [hd] at e
  rw [Option.some.inj e]
  exact k.1
end
theorem Dn.shift2 {rs' : List Ru} {ds ds' : List L} (d' : Dn rs' ds') {k : Nat} {r : Ru} (h : rs'[k]? = some r) :
    (r.sh ds.length).ok (ds ++ ds'.take k).length (ds ++ ds'.take k) ∧ ds ++ ds'.take (k + 1) = (ds ++ ds'.take k) ++ [(r.sh ds.length).den (ds ++ ds'.take k)] ∧ ds'[k]? = some ((r.sh ds.length).den (ds ++ ds'.take k)) := by
  obtain ⟨h1, h2⟩ := d'.take h
  have hk : k < ds'.length := (List.getElem?_eq_some_iff.mp h2).1
  have hl : (ds ++ ds'.take k).length = ds.length + k := by rw [List.length_append, List.length_take]; omega
  have e := Ru.sh_den (r := r) (n := ds.length) (ds := ds'.take k) (es := ds) rfl
  rw [hl, e]
  exact ⟨Ru.sh_ok rfl h1, by rw [List.take_add_one, h2, List.append_assoc]; rfl, h2⟩
section
variable {P : Program} {w : World} {K : PySem.W.Frag} {mg : Str → Option Value} {base : Heap} {C D Z : Addr}
/-! ### moved_rule -/
def spMr : Sp := fun vs H Q _ => ∃ (a : Addr) (r : Ru) (m : Nat), vs = [.ref a, .int (m : Int)] ∧ H a = some (.tup r.vs) ∧ ∀ p H', Same H H' → H' p = some (.tup (r.sh m).vs) → Q (.ref p) H'
theorem ok_Mr (T : Tx w K mg C D Z) (F : Df K mg "moved_rule" sMr) : Fc P w K mg base 1 "moved_rule" ["rule", "many"] spMr := by
  refine fc_of F (fun _ _ _ _ _ _ us hl => match us, hl with | [_, _], _ => rfl) scMr (fun vs H Q E h => ?_) (fun f cdv A outer s H vs Q E hr h => ?_)
  · obtain ⟨a, r, m, rfl, _⟩ := h
    rfl
  · obtain ⟨a, r, m, rfl, ha, q⟩ := h
    refine ⟨_, (pss_cons (ps_if (pt_cmpR op_eq (pe_ix ix_tup (pv 0) pe_int (fun _ _ => rfl)) pe_str (nomark _)) (pss_one (ps_ret (pv 0))) pss_nil)
      (pss_cons (ps_if (pt_cmpR op_eq (pe_ix ix_tup (pv 0) pe_int (fun _ _ => rfl)) pe_str (nomark _)) (pss_one (ps_ret (pe_tup (pa_cons pe_str (pa_cons (pe_op op_add (pe_ix ix_tup (pv 0) pe_int (fun _ _ => rfl)) (pv 1)) (pa_cons (pe_op op_add (pe_ix ix_tup (pv 0) pe_int (fun _ _ => rfl)) (pv 1)) pa_nil)))))) pss_nil)
      (pss_one (ps_ret (pe_tup (pa_cons (pe_ix ix_tup (pv 0) pe_int (fun _ _ => rfl)) (pa_cons (pe_op op_add (pe_ix ix_tup (pv 0) pe_int (fun _ _ => rfl)) (pv 1)) (StX.pa_star (pe_slice sl_tupA (pv 0) (po_some pe_int) po_none) pa_nil)))))))), ?_⟩
    -- the last form
    have last : ∀ (p1 p2 : Addr) (xs : List V), H p1 = none → (upd H p1 (.tup xs)) p2 = none → ∀ ys, ys = (r.sh m).vs → Q (.ref p2) (upd (upd H p1 (.tup xs)) p2 (.tup ys)) := by
      intro p1 p2 xs h1 h2 ys ey
      subst ey
      exact q p2 _ ((same_upd h1).trans (same_upd h2)) upd_same
    cases r with
    | lt z =>
      refine ⟨_, rfl, a, _, _, _, rfl, rfl, SqT.of ha, atI_nat (j := 0) rfl, rfl, _, rfl, ifP rfl ?_⟩
      exact ⟨_, rfl, q a H (Same.refl H) ha⟩
    | jn i j =>
      refine ⟨_, rfl, a, _, _, _, rfl, rfl, SqT.of ha, atI_nat (j := 0) rfl, rfl, _, rfl, ifN wjl ?_⟩
      refine ⟨_, rfl, a, _, _, _, rfl, rfl, SqT.of ha, atI_nat (j := 0) rfl, rfl, _, rfl, ifP rfl ?_⟩
      refine ⟨_, rfl, a, _, _, _, rfl, rfl, SqT.of ha, atI_nat (j := 1) rfl, _, rfl, _, _, rfl, rfl, _, rfl, a, _, _, _, rfl, rfl, SqT.of ha, atI_nat (j := 2) rfl, _, rfl, _, _, rfl, rfl, by show 3 ≤ sizeLine; decide, fun p hp => ?_⟩
      refine q p _ (same_upd hp) ?_
      rw [upd_same]
      show some (HO.tup [V.str "join", .int ((i : Int) + (m : Int)), .int ((j : Int) + (m : Int))]) = some (HO.tup [V.str "join", .int ((i + m : Nat) : Int), .int ((j + m : Nat) : Int)])
      rw [Int.natCast_add, Int.natCast_add]
    | pw i k =>
      refine ⟨_, rfl, a, _, _, _, rfl, rfl, SqT.of ha, atI_nat (j := 0) rfl, rfl, _, rfl, ifN wpl ?_⟩
      refine ⟨_, rfl, a, _, _, _, rfl, rfl, SqT.of ha, atI_nat (j := 0) rfl, rfl, _, rfl, ifN wpj ?_⟩
      refine ⟨_, rfl, a, _, _, _, rfl, rfl, SqT.of ha, atI_nat (j := 0) rfl, _, rfl, a, _, _, _, rfl, rfl, SqT.of ha, atI_nat (j := 1) rfl, _, rfl, _, _, rfl, rfl, _, rfl, 2, rfl, a, _, rfl, SqT.of ha, fun z => absurd z.1 (six2 (by show 1 < 3; decide)), fun _ p hp => ⟨p, _, rfl, .inl (SqT.of upd_same), by show 3 ≤ sizeLine; decide, fun p2 hp2 => ?_⟩⟩
      refine last p p2 _ hp hp2 _ ?_
      show [V.str "power", .int ((i : Int) + (m : Int)), .int (k : Int)] = [V.str "power", .int ((i + m : Nat) : Int), .int (k : Int)]
      rw [Int.natCast_add]
    | pt i b c =>
      refine ⟨_, rfl, a, _, _, _, rfl, rfl, SqT.of ha, atI_nat (j := 0) rfl, rfl, _, rfl, ifN wtl ?_⟩
      refine ⟨_, rfl, a, _, _, _, rfl, rfl, SqT.of ha, atI_nat (j := 0) rfl, rfl, _, rfl, ifN wtj ?_⟩
      refine ⟨_, rfl, a, _, _, _, rfl, rfl, SqT.of ha, atI_nat (j := 0) rfl, _, rfl, a, _, _, _, rfl, rfl, SqT.of ha, atI_nat (j := 1) rfl, _, rfl, _, _, rfl, rfl, _, rfl, 2, rfl, a, _, rfl, SqT.of ha, fun z => absurd z.1 (six2 (by show 1 < 4; decide)), fun _ p hp => ⟨p, _, rfl, .inl (SqT.of upd_same), by show 4 ≤ sizeLine; decide, fun p2 hp2 => ?_⟩⟩
      refine last p p2 _ hp hp2 _ ?_
      show [V.str "part", .int ((i : Int) + (m : Int)), .int (b : Int), .int (c : Int)] = [V.str "part", .int ((i + m : Nat) : Int), .int (b : Int), .int (c : Int)]
      rw [Int.natCast_add]
    | bk i =>
      refine ⟨_, rfl, a, _, _, _, rfl, rfl, SqT.of ha, atI_nat (j := 0) rfl, rfl, _, rfl, ifN wbl ?_⟩
      refine ⟨_, rfl, a, _, _, _, rfl, rfl, SqT.of ha, atI_nat (j := 0) rfl, rfl, _, rfl, ifN wbj ?_⟩
      refine ⟨_, rfl, a, _, _, _, rfl, rfl, SqT.of ha, atI_nat (j := 0) rfl, _, rfl, a, _, _, _, rfl, rfl, SqT.of ha, atI_nat (j := 1) rfl, _, rfl, _, _, rfl, rfl, _, rfl, 2, rfl, a, _, rfl, SqT.of ha, fun z => absurd z.1 (six2 (by show 1 < 2; decide)), fun _ p hp => ⟨p, _, rfl, .inl (SqT.of upd_same), by show 2 ≤ sizeLine; decide, fun p2 hp2 => ?_⟩⟩
      refine last p p2 _ hp hp2 _ ?_
      show [V.str "back", .int ((i : Int) + (m : Int))] = [V.str "back", .int ((i + m : Nat) : Int)]
      rw [Int.natCast_add]
/-! ### Builder.__init__ -/
def spBi (D : Addr) : Sp := fun vs H Q _ => ∃ (H0 : Hp) (x dx : Addr), vs = [.ref x] ∧ Same H0 H ∧ H0 x = none ∧ H x = some (.ins D dx []) ∧ ∀ (H' : Hp) (r l : Addr), BuAt D H0 H' x r l [] → Q .non H'
theorem ok_Bi (T : Tx w K mg C D Z) (F : Dk K D "Builder.__init__" sBi) : Fk P w K mg base 1 "Builder" D ["self"] (spBi D) := by
  refine fk_of F T.mgB (fun _ _ _ _ _ _ us hl => match us, hl with | [_], _ => rfl) scBi (fun vs H Q E h => ?_) (fun f cdv A outer s H vs Q E hr h => ?_)
  · obtain ⟨H0, x, dx, rfl, _⟩ := h
    rfl
  · obtain ⟨H0, x, dx, rfl, s0, x0, hx, q⟩ := h
    refine ⟨_, (pss_cons (ps_fld (pv 0) (pe_lst pa_nil) rfl)
      (pss_one (ps_fld (pv 0) (pe_lst pa_nil) rfl))), ?_⟩
    refine ⟨Nat.zero_le _, fun r hr' => ?_⟩
    have nxr : x ≠ r := ne_of_none hx hr'
    refine ⟨_, rfl, x, D, dx, [], rfl, (by rw [upd_ne nxr]; exact hx), T.clB, T.bR, (by show 0 < 1000; decide), ?_⟩
    refine ⟨Nat.zero_le _, fun l hl' => ?_⟩
    have nxl : x ≠ l := ne_of_none upd_same hl'
    have hrl : (upd H r (.lst [])) l = none := by
      rw [upd_ne nxl.symm] at hl'
      exact hl'
    have nrl : r ≠ l := ne_of_none upd_same hrl
    refine ⟨_, rfl, x, D, dx, _, rfl, (by rw [upd_ne nxl]; exact upd_same), T.clB, T.bL, (by show 1 < 1000; decide), ?_⟩
    have hl0 : H l = none := (same_upd hr').free hrl
    refine q _ r l ⟨fun b o e => ?_, s0.free hr', s0.free hl0, nrl, [], [], dx, upd_same, ?_, ?_, RusAt.nil, Dn.nil⟩
    · have h1 := ne_of_none e x0
      rw [upd_ne h1, upd_ne (ne_of_none (s0 _ _ e) hl0), upd_ne h1, upd_ne (ne_of_none (s0 _ _ e) hr')]
      exact s0 _ _ e
    · rw [upd_ne nxr.symm, upd_ne nrl, upd_ne nxr.symm, upd_same]
      rfl
    · rw [upd_ne nxl.symm, upd_same]
      rfl
/-! ### Builder.add -/
def spBa (D : Addr) : Sp := fun vs H Q _ => ∃ (H0 : Hp) (b r l : Addr) (ds : List L) (a : Addr) (ru : Ru), vs = [.ref b, .ref a, .int (((ru.den ds).length : Nat) : Int)] ∧ BuAt D H0 H b r l ds ∧ H a = some (.tup ru.vs) ∧ ru.ok ds.length ds ∧ ds.length ≤ 1000 ∧
  ∀ H', BuAt D H0 H' b r l (ds ++ [ru.den ds]) → Q (.int ((ds.length : Nat) : Int)) H'
theorem ok_Ba (T : Tx w K mg C D Z) (F : Dm K D "add" "Builder.add" sBa) : Fm P w K mg base 1 D "add" ["self", "rule", "length"] (spBa D) := by
  refine fm_of F (fun _ _ _ _ _ _ us hl => match us, hl with | [_, _, _], _ => rfl) scBa (fun vs H Q E h => ?_) (fun f cdv A outer s H vs Q E hr h => ?_)
  · obtain ⟨H0, b, r, l, ds, a, ru, rfl, _⟩ := h
    rfl
  · obtain ⟨H0, b, r, l, ds, a, ru, rfl, ⟨s0, r0, l0, ne, rs, as, dx, h1, h2, h3, h4, h5⟩, ha, hok, hlen, q⟩ := h
    have nbr : b ≠ r := ne_of h1 h2 (by intro z; cases z)
    have nbl : b ≠ l := ne_of h1 h3 (by intro z; cases z)
    refine ⟨_, (pss_cons (ps_expr (pe_bm PySem.F.plainAttrs_list PySem.F.slot_list_append PySem.F.type_list_append mt_append (pe_fld (pv 0) rfl) (pa_cons (pv 1) pa_nil)))
      (pss_cons (ps_expr (pe_bm PySem.F.plainAttrs_list PySem.F.slot_list_append PySem.F.type_list_append mt_append (pe_fld (pv 0) rfl) (pa_cons (pv 2) pa_nil)))
      (pss_one (ps_ret (pe_op op_sub (pe_callB (id := "len") (call_lenK K) (by rfl) T.len_ (by decide +kernel) (pa_cons (pe_fld (pv 0) rfl) pa_nil)) pe_int))))), ?_⟩
    refine ⟨_, rfl, b, D, dx, _, _, rfl, h1, T.clB, T.bR, bf_rules _ _, .inl ⟨rfl, _, SqL.of h2⟩, _, rfl, r, _, _, rfl, rfl, h2, ?_, ?_⟩
    · rw [List.length_map, h4.len, h5.len]
      exact szl (by omega)
    have hb2 : (upd H r (.lst (as.map V.ref ++ [V.ref a]))) b = some (.ins D dx (bf r l)) := by rw [upd_ne nbr]; exact h1
    have hl2 : (upd H r (.lst (as.map V.ref ++ [V.ref a]))) l = some (.lst (lens ds)) := by rw [upd_ne ne.symm]; exact h3
    refine ⟨_, rfl, b, D, dx, _, _, rfl, hb2, T.clB, T.bL, bf_lengths _ _, .inl ⟨rfl, _, SqL.of hl2⟩, _, rfl, l, _, _, rfl, rfl, hl2, ?_, ?_⟩
    · rw [lens_len]
      exact szl (by omega)
    have hb3 : (upd (upd H r (.lst (as.map V.ref ++ [V.ref a]))) l (.lst (lens ds ++ [.int (((ru.den ds).length : Nat) : Int)]))) b = some (.ins D dx (bf r l)) := by rw [upd_ne nbl]; exact hb2
    have hr3 : (upd (upd H r (.lst (as.map V.ref ++ [V.ref a]))) l (.lst (lens ds ++ [.int (((ru.den ds).length : Nat) : Int)]))) r = some (.lst ((as ++ [a]).map V.ref)) := by
      rw [upd_ne ne, upd_same, List.map_append]
      rfl
    refine ⟨_, rfl, b, D, dx, _, _, rfl, hb3, T.clB, T.bR, bf_rules _ _, r, _, rfl, .inl (SqL.of hr3), _, _, rfl, rfl, ?_⟩
    have e : ((((as ++ [a]).map V.ref).length : Nat) : Int) - 1 = ((ds.length : Nat) : Int) := by
      rw [List.length_map, List.length_append, List.length_singleton, h4.len, h5.len]
      omega
    show Q (.int (((((as ++ [a]).map V.ref).length : Nat) : Int) - 1)) _
    rw [e]
    have g : Gro H (upd (upd H r (.lst (as.map V.ref ++ [V.ref a]))) l (.lst (lens ds ++ [.int (((ru.den ds).length : Nat) : Int)]))) := (upd_gro h2).trans (upd_gro hl2)
    refine q _ ⟨sMut (sMut s0 r0) l0, r0, l0, ne, rs ++ [ru], as ++ [a], dx, hb3, hr3, ?_, (h4.gro g).snoc (g.tup _ _ ha), h5.snoc hok⟩
    rw [upd_same, lens_snoc]
/-! ### Builder.part, Builder.join -/
def spBp (D : Addr) : Sp := fun vs H Q _ => ∃ (H0 : Hp) (b r l : Addr) (ds : List L) (i s t : Nat) (x : L), vs = [.ref b, .int (i : Int), .int (s : Int), .int (t : Int)] ∧ BuAt D H0 H b r l ds ∧ ds[i]? = some x ∧ s ≤ t ∧ t ≤ x.length ∧ ds.length ≤ 1000 ∧
  ∀ H', BuAt D H0 H' b r l (ds ++ [cutL x s t]) → Q (.int ((ds.length : Nat) : Int)) H'
theorem ok_Bp (T : Tx w K mg C D Z) (GBa : Fm P w K mg base 1 D "add" ["self", "rule", "length"] (spBa D)) (F : Dm K D "part" "Builder.part" sBp) : Fm P w K mg base 2 D "part" ["self", "rule", "start", "stop"] (spBp D) := by
  refine fm_of F (fun _ _ _ _ _ _ us hl => match us, hl with | [_, _, _, _], _ => rfl) scBp (fun vs H Q E h => ?_) (fun f cdv A outer st H vs Q E hr h => ?_)
  · obtain ⟨H0, b, r, l, ds, i, s, t, x, rfl, _⟩ := h
    rfl
  · obtain ⟨H0, b, r, l, ds, i, s, t, x, rfl, B, hx, h1, h2, hlen, q⟩ := h
    have hxl := B.le hx
    refine ⟨_, (pss_one (ps_ret (pe_m (pv 0) T.clB GBa (hr.mono (by decide)) (pa_cons (pe_tup (pa_cons pe_str (pa_cons (pv 1) (pa_cons (pv 2) (pa_cons (pv 3) pa_nil))))) (pa_cons (pe_op op_sub (pv 3) (pv 2)) pa_nil))))), ?_⟩
    obtain ⟨s0, r0, l0, ne, rs, as, dx, b1, _⟩ := id B
    have hi : i < ds.length := (List.getElem?_eq_some_iff.mp hx).1
    have ed : (Ru.pt i s t).den ds = cutL x s t := by
      show ((ds.getD i []).drop s).take (t - s) = _
      rw [gD hx]
      rfl
    have el : (t : Int) - (s : Int) = ((((Ru.pt i s t).den ds).length : Nat) : Int) := by
      rw [ed, cutL_len h1 h2]
      omega
    refine ⟨_, rfl, b, dx, _, rfl, b1, bf_no _ _ (by decide +kernel) (by decide +kernel), _, rfl, _, rfl, _, rfl, by show 4 ≤ sizeLine; decide, fun p hp => ⟨_, rfl, _, rfl, _, _, rfl, rfl, ?_⟩⟩
    refine ⟨H0, b, r, l, ds, p, .pt i s t, ?_, B.more (same_upd hp), upd_same, ⟨?_, hi, h1, by rw [gD hx]; exact h2⟩, hlen, fun H' B' => ?_⟩
    · show [V.ref b, V.ref p, V.int ((t : Int) - (s : Int))] = _
      rw [el]
    · rw [ed, cutL_len h1 h2]
      omega
    · rw [ed] at B'
      exact q H' B'
def spBj (D : Addr) : Sp := fun vs H Q _ => ∃ (H0 : Hp) (b r l : Addr) (ds : List L) (i j : Nat) (x y : L), vs = [.ref b, .int (i : Int), .int (j : Int)] ∧ BuAt D H0 H b r l ds ∧ ds[i]? = some x ∧ ds[j]? = some y ∧ x.length + y.length ≤ MX ∧ ds.length ≤ 1000 ∧
  ∀ H', BuAt D H0 H' b r l (ds ++ [x ++ y]) → Q (.int ((ds.length : Nat) : Int)) H'
theorem ok_Bj (T : Tx w K mg C D Z) (GBa : Fm P w K mg base 1 D "add" ["self", "rule", "length"] (spBa D)) (F : Dm K D "join" "Builder.join" sBj) : Fm P w K mg base 2 D "join" ["self", "first", "second"] (spBj D) := by
  refine fm_of F (fun _ _ _ _ _ _ us hl => match us, hl with | [_, _, _], _ => rfl) scBj (fun vs H Q E h => ?_) (fun f cdv A outer st H vs Q E hr h => ?_)
  · obtain ⟨H0, b, r, l, ds, i, j, x, y, rfl, _⟩ := h
    rfl
  · obtain ⟨H0, b, r, l, ds, i, j, x, y, rfl, B, hx, hy, hmx, hlen, q⟩ := h
    refine ⟨_, (pss_one (ps_ret (pe_m (pv 0) T.clB GBa (hr.mono (by decide)) (pa_cons (pe_tup (pa_cons pe_str (pa_cons (pv 1) (pa_cons (pv 2) pa_nil)))) (pa_cons (pe_op op_add (pe_ix ix_list (pe_fld (pv 0) rfl) (pv 1) (fun _ _ => rfl)) (pe_ix ix_list (pe_fld (pv 0) rfl) (pv 2) (fun _ _ => rfl))) pa_nil))))), ?_⟩
    obtain ⟨s0, r0, l0, ne, rs, as, dx, b1, b2, b3, _⟩ := id B
    have hi : i < ds.length := (List.getElem?_eq_some_iff.mp hx).1
    have hj : j < ds.length := (List.getElem?_eq_some_iff.mp hy).1
    have ed : (Ru.jn i j).den ds = x ++ y := by
      show ds.getD i [] ++ ds.getD j [] = _
      rw [gD hx, gD hy]
    have el : ((x.length : Nat) : Int) + ((y.length : Nat) : Int) = ((((Ru.jn i j).den ds).length : Nat) : Int) := by
      rw [ed, List.length_append, Int.natCast_add]
    refine ⟨_, rfl, b, dx, _, rfl, b1, bf_no _ _ (by decide +kernel) (by decide +kernel), _, rfl, _, rfl, by show 3 ≤ sizeLine; decide, fun p hp => ?_⟩
    have s1 := same_upd (o := .tup (Ru.jn i j).vs) hp
    refine ⟨_, rfl, b, D, dx, _, _, rfl, s1 _ _ b1, T.clB, T.bL, bf_lengths _ _, _, rfl, l, _, _, _, rfl, rfl, SqL.of (s1 _ _ b3), atI_nat (lens_at hx), ?_⟩
    refine ⟨_, rfl, b, D, dx, _, _, rfl, s1 _ _ b1, T.clB, T.bL, bf_lengths _ _, _, rfl, l, _, _, _, rfl, rfl, SqL.of (s1 _ _ b3), atI_nat (lens_at hy), _, _, rfl, rfl, ?_⟩
    refine ⟨H0, b, r, l, ds, p, .jn i j, ?_, B.more s1, upd_same, ⟨?_, hi, hj⟩, hlen, fun H' B' => ?_⟩
    · show [V.ref b, V.ref p, V.int (((x.length : Nat) : Int) + ((y.length : Nat) : Int))] = _
      rw [el]
    · rw [ed, List.length_append]
      exact hmx
    · rw [ed] at B'
      exact q H' B'
end
end Sh
set_option Elab.async false
set_option linter.all false
set_option maxRecDepth 100000
set_option maxHeartbeats 4000000
namespace Sh
open PySem PySem.Spec PyProof.Rows L2
open SX (S)
theorem BuAt.ins {D : Addr} {H0 H : Hp} {b r l : Addr} {ds : List L} (h : BuAt D H0 H b r l ds) : ∃ dx, H b = some (.ins D dx (bf r l)) := by
  obtain ⟨s0, r0, l0, ne, rs, as, dx, h1, h2, h3, h4, h5⟩ := h
  exact ⟨dx, h1⟩
theorem cutV_tail (x : V) (xs : List V) : cutV (x :: xs) (some 1) none = xs := by
  unfold cutV
  have e1 : HT.sIx (x :: xs).length 0 (some 1) = 1 := by
    rw [show (1 : Int) = ((1 : Nat) : Int) from rfl, HT.sIx_nat]
    show min 1 (xs.length + 1) = 1
    omega
  have e2 : HT.sIx (x :: xs).length (x :: xs).length none = xs.length + 1 := rfl
  rw [e1, e2]
  show List.take (xs.length + 1 - 1) xs = xs
  rw [Nat.add_sub_cancel, List.take_length]
section
variable {P : Program} {w : World} {K : PySem.W.Frag} {mg : Str → Option Value} {base : Heap} {C D Z : Addr}
/-! ### Builder.text -/
def spBt (C D : Addr) : Sp := fun vs H Q _ => ∃ (H0 : Hp) (b r l x : Addr) (n : Nat) (ds : List L) (d : L), vs = [.ref b, .ref x] ∧ BuAt D H0 H b r l ds ∧ TxtAt C H0 x n d ∧ ds.length + n ≤ 900 ∧
  ∀ H' es, BuAt D H0 H' b r l (ds ++ es) → es.length = n → es.getLast? = some d → Q (.int ((ds.length + n - 1 : Nat) : Int)) H'
theorem ok_Bt (T : Tx w K mg C D Z) (GBa : Fm P w K mg base 1 D "add" ["self", "rule", "length"] (spBa D)) (GMr : Fc P w K mg base 1 "moved_rule" ["rule", "many"] spMr) (F : Dm K D "text" "Builder.text" sBt) : Fm P w K mg base 2 D "text" ["self", "text"] (spBt C D) := by
  refine fm_of F (fun _ _ _ _ _ _ us hl => match us, hl with | [_, _], _ => rfl) scBt (fun vs H Q E h => ?_) (fun f cdv A outer st H vs Q E hr h => ?_)
  · obtain ⟨H0, b, r, l, x, n, ds, d, rfl, _⟩ := h
    rfl
  · obtain ⟨H0, b, r, l, x, n, ds, d, rfl, B, X, hlen, q⟩ := h
    obtain ⟨rs, es, as, dx, tr, tl, x1, x2, x3, x4, x5, x6, x7⟩ := id X
    refine ⟨_, (pss_cons (ps_set (i := 2) scBt.nd rfl (by first | exact Or.inl rfl | exact Or.inr rfl) (pe_callB (id := "len") (call_lenK K) (by rfl) T.len_ (by decide +kernel) (pa_cons (pe_fld (pv 0) rfl) pa_nil)))
      (pss_cons (ps_for PassesOwn.never rfl (pi_enumT (by rfl) T.enumerate_ (pa_cons (pe_fld (pv 1) rfl) pa_nil)) (pg_tup rfl (pgs_cons (pg_name (i := 3) scBt.nd rfl (Or.inl rfl)) (pgs_cons (pg_name (i := 4) scBt.nd rfl (Or.inl rfl)) pgs_nil))) (pss_one (ps_expr (pe_m (pv 0) T.clB GBa (hr.mono (by decide)) (pa_cons (pe_c GMr (hr.mono (by decide)) (pa_cons (pv 4) (pa_cons (pv 2) pa_nil))) (pa_cons (pe_ix ix_tup (pe_fld (pv 1) rfl) (pv 3) (fun _ _ => rfl)) pa_nil))))))
      (pss_one (ps_ret (pe_op op_sub (pe_callB (id := "len") (call_lenK K) (by rfl) T.len_ (by decide +kernel) (pa_cons (pe_fld (pv 0) rfl) pa_nil)) pe_int))))), ?_⟩
    obtain ⟨as0, br, ar⟩ := B.len
    obtain ⟨bdx, bb⟩ := B.ins
    have s0 := B.same
    refine ⟨_, rfl, b, D, bdx, _, _, rfl, bb, T.clB, T.bR, bf_rules _ _, r, _, rfl, .inl (SqL.of br), ?_⟩
    have em : (((as0.map V.ref).length : Nat) : Int) = (ds.length : Int) := by rw [List.length_map, ar]
    rw [em]
    refine ⟨_, rfl, x, C, dx, _, _, rfl, s0 _ _ x1, T.clT, T.tR, tf_rules _ _ _, tr, _, rfl, s0 _ _ x2, for_it walk_enumT (fun i σ H' => ∃ v3 v4, σ = [some (.ref b), some (.ref x), some (.int (ds.length : Int)), v3, v4] ∧ BuAt D H0 H' b r l (ds ++ es.take i))
      ⟨none, none, rfl, by rw [List.take_zero, List.append_nil]; exact B⟩ (fun i σ H' _ ⟨_, _, _, B'⟩ => B'.same _ _ x2) ?_ ?_⟩
    · rintro i v σ H1 H2 hi ⟨v3, v4, rfl, B1⟩ ⟨T', y1, y2, rfl, hT, rfl, e1, e2⟩
      have hir : i < rs.length := by rw [← x3.len]; rw [List.length_map] at hi; exact hi
      obtain ⟨a, ea, ea2, ha⟩ := x3.get (List.getElem?_eq_getElem hir)
      obtain rfl : y2 = .ref a := Option.some.inj (e2.symm.trans ea2)
      obtain rfl : y1 = .int (i : Nat) := (Option.some.inj e1).symm
      have B2 := B1.more (same_upd (o := .tup [.int (i : Nat), .ref a]) hT)
      have s2 := B2.same
      obtain ⟨b2dx, bb2⟩ := B2.ins
      obtain ⟨k1, k2, k3⟩ := x5.shift2 (ds := ds) (List.getElem?_eq_getElem hir)
      have hie : i < es.length := by have := x5.len; omega
      refine ⟨T', _, rfl, SqT.of upd_same, rfl, _, _, rfl, _, _, rfl, rfl, ?_⟩
      refine ⟨_, rfl, b, b2dx, _, rfl, bb2, bf_no _ _ (by decide +kernel) (by decide +kernel), _, rfl, _, rfl, a, rs[i], ds.length, rfl, s2 _ _ ha, fun p H3 s3 hp => ?_⟩
      have B3 := B2.more s3
      have s03 := B3.same
      refine ⟨_, rfl, x, C, dx, _, _, rfl, s03 _ _ x1, T.clT, T.tL, tf_lengths _ _ _, _, rfl, tl, _, _, _, rfl, rfl, SqT.of (s03 _ _ x4), atI_nat (lens_at k3), ?_⟩
      have hle : (ds ++ es.take i).length ≤ 1000 := by
        rw [List.length_append, List.length_take]
        omega
      refine ⟨H0, b, r, l, ds ++ es.take i, p, rs[i].sh ds.length, rfl, B3, hp, k1, hle, fun H4 B4 => ?_⟩
      refine ⟨_, _, rfl, ?_⟩
      rw [k2]
      exact B4
    · rintro σ H' ⟨v3, v4, rfl, B1⟩
      obtain ⟨as1, br1, ar1⟩ := B1.len
      obtain ⟨b1dx, bb1⟩ := B1.ins
      have et : es.take (as.map V.ref).length = es := by
        rw [List.length_map, x3.len, x5.len, List.take_length]
      rw [et] at B1 ar1
      refine ⟨_, rfl, b, D, b1dx, _, _, rfl, bb1, T.clB, T.bR, bf_rules _ _, r, _, rfl, .inl (SqL.of br1), _, _, rfl, rfl, ?_⟩
      have hpos := X.pos
      have e : (((as1.map V.ref).length : Nat) : Int) - 1 = ((ds.length + n - 1 : Nat) : Int) := by
        rw [List.length_map, ar1, List.length_append]
        omega
      show Q (.int ((((as1.map V.ref).length : Nat) : Int) - 1)) _
      rw [e]
      exact q H' es B1 x6 x7
/-! ### Builder.row -/
def spBr (D : Addr) : Sp := fun vs H Q _ => ∃ (H0 : Hp) (b r l nl : Addr) (ds : List L) (m0 : Nat) (ms : List Nat) (x0 : L) (xs : List L), vs = [.ref b, .ref nl] ∧ BuAt D H0 H b r l ds ∧ H nl = some (.lst ((m0 :: ms).map fun m => V.int ((m : Nat) : Int))) ∧
  ds[m0]? = some x0 ∧ (∀ (i m : Nat), ms[i]? = some m → ∃ x, xs[i]? = some x ∧ ds[m]? = some x) ∧ ms.length = xs.length ∧ 0 < ms.length ∧ ms.length ≤ 10 ∧ ds.length ≤ 900 ∧ (x0 ++ xs.flatten).length ≤ MX ∧
  ∀ v H' es, BuAt D H0 H' b r l (ds ++ es) → es.length = ms.length → (ds ++ es).getLast? = some (x0 ++ xs.flatten) → Q v H'
theorem flat_take_le : ∀ (xs : List L) (i : Nat), (xs.take i).flatten.length ≤ xs.flatten.length
  | [], i => by simp
  | x :: xs, 0 => by simp
  | x :: xs, i + 1 => by
    have := flat_take_le xs i
    simp only [List.take_succ_cons, List.flatten_cons, List.length_append]
    omega
theorem ok_Br (T : Tx w K mg C D Z) (GBj : Fm P w K mg base 2 D "join" ["self", "first", "second"] (spBj D)) (F : Dm K D "row" "Builder.row" sBr) : Fm P w K mg base 3 D "row" ["self", "numbers"] (spBr D) := by
  refine fm_of F (fun _ _ _ _ _ _ us hl => match us, hl with | [_, _], _ => rfl) scBr (fun vs H Q E h => ?_) (fun f cdv A outer st H vs Q E hr h => ?_)
  · obtain ⟨H0, b, r, l, nl, ds, m0, ms, x0, xs, rfl, _⟩ := h
    rfl
  · obtain ⟨H0, b, r, l, nl, ds, m0, ms, x0, xs, rfl, B, hnl, hm0, hms, hlm, hpos, h10, hlen, hmx, q⟩ := h
    refine ⟨_, (pss_cons (ps_set (i := 2) scBr.nd rfl (by first | exact Or.inl rfl | exact Or.inr rfl) (pe_ix ix_list (pv 1) pe_int (fun _ _ => rfl)))
      (pss_cons (ps_for PassesOwn.never rfl (pi_list (pe_slice sl_list (pv 1) (po_some pe_int) po_none)) (pg_name (i := 3) scBr.nd rfl (Or.inl rfl)) (pss_one (ps_set (i := 2) scBr.nd rfl (by first | exact Or.inl rfl | exact Or.inr rfl) (pe_m (pv 0) T.clB GBj (hr.mono (by decide)) (pa_cons (pv 2) (pa_cons (pv 3) pa_nil))))))
      (pss_one (ps_ret (pv 2))))), ?_⟩
    refine ⟨_, rfl, nl, _, _, _, rfl, rfl, SqL.of hnl, atI_nat (j := 0) rfl, ?_⟩
    refine ⟨_, rfl, 1, rfl, nl, _, rfl, SqL.of hnl, fun sl hsl => ?_⟩
    have B1 := B.more (same_upd (o := .lst (cutV ((m0 :: ms).map fun m => V.int ((m : Nat) : Int)) (some 1) none)) hsl)
    have B2 := B1.rebase
    obtain ⟨as0, br, ar⟩ := B.len
    have nr : sl ≠ r := (ne_of_none br hsl).symm
    have nl' : sl ≠ l := by
      obtain ⟨_, _, _, _, _, _, _, _, _, h3, _⟩ := B
      exact (ne_of_none h3 hsl).symm
    have hs1 : (upd H sl (.lst (cutV ((m0 :: ms).map fun m => V.int ((m : Nat) : Int)) (some 1) none))) sl = some (.lst (ms.map fun m => V.int ((m : Nat) : Int))) := by
      rw [upd_same, List.map_cons, cutV_tail]
    refine ⟨sl, rfl, ⟨_, SqL.of hs1⟩, for_it (walk_list (K := K) (a := sl) (xs := ms.map fun m => V.int ((m : Nat) : Int))) (fun i σ H' => ∃ es m v3, σ = [some (.ref b), some (.ref nl), some (.int ((m : Nat) : Int)), v3] ∧ BuAt D (hide r l (upd H sl (.lst (cutV ((m0 :: ms).map fun m => V.int ((m : Nat) : Int)) (some 1) none)))) H' b r l (ds ++ es) ∧ es.length = i ∧ (ds ++ es)[m]? = some (x0 ++ (xs.take i).flatten) ∧ (i = 0 ∨ m + 1 = ds.length + i))
      ⟨[], m0, none, rfl, by rw [List.append_nil]; exact B2, rfl, by rw [List.append_nil, List.take_zero]; simpa using hm0, .inl rfl⟩ (fun i σ H' _ ⟨_, _, _, _, B', _⟩ => SqL.of (B'.keeps hs1 nr nl')) ?_ ?_⟩
    · rintro i v σ H1 H2 hi ⟨es, m, v3, rfl, B', he, hm, hor⟩ ⟨rfl, hv⟩
      rw [List.getElem?_map] at hv
      have hi2 : i < ms.length := by rw [List.length_map] at hi; exact hi
      rw [List.getElem?_eq_getElem hi2] at hv
      obtain rfl : v = .int ((ms[i] : Nat) : Int) := (Option.some.inj hv).symm
      obtain ⟨y, hy, hy2⟩ := hms i _ (List.getElem?_eq_getElem hi2)
      have hyd : ms[i] < ds.length := (List.getElem?_eq_some_iff.mp hy2).1
      have ey : (ds ++ es)[ms[i]]? = some y := by rw [List.getElem?_append_left hyd]; exact hy2
      obtain ⟨bdx, bb⟩ := B'.ins
      have et : (xs.take (i + 1)).flatten = (xs.take i).flatten ++ y := by
        rw [List.take_add_one, hy, List.flatten_append]
        simp
      have hle := flat_take_le xs (i + 1)
      rw [et, List.length_append] at hle
      rw [List.length_append] at hmx
      have hl : (ds ++ es).length = ds.length + i := by rw [List.length_append, he]
      refine ⟨_, rfl, b, bdx, _, rfl, bb, bf_no _ _ (by decide +kernel) (by decide +kernel), _, rfl, _, rfl, ?_⟩
      refine ⟨_, b, r, l, ds ++ es, m, ms[i], x0 ++ (xs.take i).flatten, y, rfl, B', hm, ey, ?_, by omega, fun H3 B3 => ?_⟩
      · rw [List.length_append]
        omega
      · refine ⟨es ++ [(x0 ++ (xs.take i).flatten) ++ y], (ds ++ es).length, _, rfl, ?_, ?_, ?_, ?_⟩
        · rw [← List.append_assoc]
          exact B3
        · rw [List.length_append, he]
          rfl
        · rw [← List.append_assoc, List.getElem?_append_right (Nat.le_refl _), Nat.sub_self, et, List.append_assoc]
          rfl
        · right
          omega
    · rintro σ H' ⟨es, m, v3, rfl, B', he, hm, hor⟩
      rw [List.length_map] at he hm hor
      refine ⟨_, rfl, q _ H' es (B1.back B') he ?_⟩
      rw [hlm, List.take_length] at hm
      rw [List.getLast?_eq_getElem?, List.length_append, he]
      have e : ds.length + ms.length - 1 = m := by omega
      rw [e]
      exact hm
/-! ### settled, the checks -/
def spSe (C : Addr) : Sp := fun vs H Q _ => ∃ (t : Addr) (as : List Addr) (rs : List Ru) (ds : List L) (d : L), vs = [.ref t] ∧ H t = some (.lst (as.map V.ref)) ∧ RusAt H as rs ∧ Dn rs ds ∧ ds.getLast? = some d ∧ rs.length ≤ 60 ∧ RT C H ds.length d Q
theorem ok_Se (T : Tx w K mg C D Z) (GTm : Fcm P w K mg base 6 "Text" C "made" ["cls", "rules"] (spTm C)) (F : Df K mg "settled" sSe) : Fc P w K mg base 7 "settled" ["rules"] (spSe C) := by
  refine fc_of F (fun _ _ _ _ _ _ us hl => match us, hl with | [_], _ => rfl) scSe (fun vs H Q E h => ?_) (fun f cdv A outer st H vs Q E hr h => ?_)
  · obtain ⟨t, as, rs, ds, d, rfl, _⟩ := h
    rfl
  · obtain ⟨t, as, rs, ds, d, rfl, ht, hrs, hd, hlast, h60, q⟩ := h
    refine ⟨_, (pss_cons (ps_set (i := 1) scSe.nd rfl (by first | exact Or.inl rfl | exact Or.inr rfl) (pe_cm GTm (hr.mono (by decide)) (pa_cons (pv 0) pa_nil)))
      (pss_one (ps_ret (pe_ifExp (pt_cmpR op_le (pe_callB (id := "len") (call_lenK K) (by rfl) T.len_ (by decide +kernel) (pa_cons (pv 0) pa_nil)) (pe_gi T.MOST_RULES) (nomark _)) (pv 1) pe_no)))), ?_⟩
    refine ⟨_, rfl, t, as, rs, ds, d, rfl, ht, hrs, hd, hlast, by omega, fun z H' s1 hz => ?_⟩
    refine ⟨_, rfl, t, _, rfl, .inl (SqL.of (s1 _ _ ht)), _, _, rfl, rfl, _, rfl, ifP ?_ ?_⟩
    · rw [List.length_map, hrs.len]
      show ((rs.length : Nat) : Int) ≤ 60
      omega
    · exact ⟨_, rfl, q z H' s1 hz⟩
def spCs : Sp := fun vs H Q _ => ∃ (z : Int), vs = [.int z] ∧ z ≤ 1000000000000 ∧ Q .non H
theorem ok_Cs (T : Tx w K mg C D Z) (F : Df K mg "check_size" sCs) : Fc P w K mg base 1 "check_size" ["length"] spCs := by
  refine fc_of F (fun _ _ _ _ _ _ us hl => match us, hl with | [_], _ => rfl) scCs (fun vs H Q E h => ?_) (fun f cdv A outer st H vs Q E hr h => ?_)
  · obtain ⟨z, rfl, _⟩ := h
    rfl
  · obtain ⟨z, rfl, hz, q⟩ := h
    refine ⟨_, (pss_one (ps_if (pt_cmpR op_gt (pv 0) (pe_gi T.MOST_LETTERS) (nomark _)) (pss_one ps_never) pss_nil)), ?_⟩
    exact ⟨_, rfl, _, _, rfl, rfl, _, rfl, ifN (show ¬ (z > 1000000000000) by omega) q⟩
def spCp : Sp := fun vs H Q _ => ∃ (a b : Nat), vs = [.int (a : Int), .int (b : Int)] ∧ a ≤ b ∧ Q .non H
theorem ok_Cp (T : Tx w K mg C D Z) (F : Df K mg "check_place" sCp) : Fc P w K mg base 1 "check_place" ["place", "length"] spCp := by
  refine fc_of F (fun _ _ _ _ _ _ us hl => match us, hl with | [_, _], _ => rfl) scCp (fun vs H Q E h => ?_) (fun f cdv A outer st H vs Q E hr h => ?_)
  · obtain ⟨a, b, rfl, _⟩ := h
    rfl
  · obtain ⟨a, b, rfl, hab, q⟩ := h
    refine ⟨_, (pss_one (ps_if (pt_not (pt_chain op_le op_le pe_int (pv 0) (pv 1))) (pss_one ps_never) pss_nil)), ?_⟩
    refine ⟨_, rfl, _, _, rfl, rfl, _, rfl, ifP (show (0 : Int) ≤ (a : Int) by omega) ?_⟩
    exact ⟨_, rfl, _, _, rfl, rfl, _, rfl, inN (show (a : Int) ≤ (b : Int) by omega) q⟩
def spCt : Sp := fun vs H Q _ => ∃ (a : Nat), vs = [.int (a : Int)] ∧ a ≤ 1000000000000 ∧ Q .non H
theorem ok_Ct (T : Tx w K mg C D Z) (F : Df K mg "check_times" sCt) : Fc P w K mg base 1 "check_times" ["times"] spCt := by
  refine fc_of F (fun _ _ _ _ _ _ us hl => match us, hl with | [_], _ => rfl) scCt (fun vs H Q E h => ?_) (fun f cdv A outer st H vs Q E hr h => ?_)
  · obtain ⟨a, rfl, _⟩ := h
    rfl
  · obtain ⟨a, rfl, hab, q⟩ := h
    refine ⟨_, (pss_one (ps_if (pt_not (pt_chain op_le op_le pe_int (pv 0) (pe_gi T.MOST_LETTERS))) (pss_one ps_never) pss_nil)), ?_⟩
    refine ⟨_, rfl, _, _, rfl, rfl, _, rfl, ifP (show (0 : Int) ≤ (a : Int) by omega) ?_⟩
    exact ⟨_, _, rfl, rfl, _, rfl, inN (show (a : Int) ≤ 1000000000000 by omega) q⟩
end
end Sh
set_option Elab.async false
set_option linter.all false
set_option maxRecDepth 100000
set_option maxHeartbeats 4000000
namespace Sh
open PySem PySem.Spec PyProof.Rows L2
open SX (S)
theorem eqI {R : V → Hp → Prop} {a b : Int} {H : Hp} (e : a = b) (h : R (.int b) H) : R (.int a) H := by
  rw [e]
  exact h
theorem at_old {xs ys : List L} {i : Nat} {x : L} (h : xs[i]? = some x) : (xs ++ ys)[i]? = some x := by
  rw [List.getElem?_append_left (List.getElem?_eq_some_iff.mp h).1]
  exact h
theorem at_new {xs : List L} {y : L} : (xs ++ [y])[xs.length]? = some y := by
  rw [List.getElem?_append_right (Nat.le_refl _), Nat.sub_self]
  rfl
theorem two_rows {ds : List L} {m1 : Nat} {x1 : L} (h1 : ds[m1]? = some x1) : ∀ (i m : Nat), [m1][i]? = some m → ∃ x, [x1][i]? = some x ∧ ds[m]? = some x := by
  intro i m h
  match i, h with
  | 0, h =>
    obtain rfl : m1 = m := Option.some.inj h
    exact ⟨x1, rfl, h1⟩
  | i + 1, h => simp at h
theorem three_rows {ds : List L} {m1 m2 : Nat} {x1 x2 : L} (h1 : ds[m1]? = some x1) (h2 : ds[m2]? = some x2) : ∀ (i m : Nat), [m1, m2][i]? = some m → ∃ x, [x1, x2][i]? = some x ∧ ds[m]? = some x := by
  intro i m h
  match i, h with
  | 0, h =>
    obtain rfl : m1 = m := Option.some.inj h
    exact ⟨x1, rfl, h1⟩
  | 1, h =>
    obtain rfl : m2 = m := Option.some.inj h
    exact ⟨x2, rfl, h2⟩
  | i + 2, h => simp at h
theorem at_shift {xs ys : List L} {k : Nat} {y : L} (h : ys[k]? = some y) : (xs ++ ys)[xs.length + k]? = some y := by
  rw [List.getElem?_append_right (Nat.le_add_right _ _), Nat.add_sub_cancel_left]
  exact h
section
variable {w : World} {K : PySem.W.Frag} {mg : Str → Option Value} {C D Z : Addr} {H0 H : Hp} {b r l x : Addr} {ds : List L} {n : Nat} {d : L}
theorem mB {m : Str} {R : Prop} (B : BuAt D H0 H b r l ds) (h2 : ¬ m = "lengths") (h3 : ¬ m = "rules") (h : R) : ∃ a dx fs, V.ref b = V.ref a ∧ H a = some (.ins D dx fs) ∧ fs.lookup m = none ∧ R := by
  obtain ⟨dx, e⟩ := B.ins
  exact ⟨b, dx, _, rfl, e, bf_no _ _ h2 h3, h⟩
theorem mT {m : Str} {R : Prop} (X : TxtAt C H x n d) (h1 : ¬ m = "length") (h2 : ¬ m = "lengths") (h3 : ¬ m = "rules") (h : R) : ∃ a dx fs, V.ref x = V.ref a ∧ H a = some (.ins C dx fs) ∧ fs.lookup m = none ∧ R := by
  obtain ⟨rs, es, as, dx, tr, tl, x1, x2⟩ := X
  exact ⟨x, dx, _, rfl, x1, tf_no _ _ _ h1 h2 h3, h⟩
theorem fN {R : V → Prop} (T : Tx w K mg C D Z) (X : TxtAt C H x n d) (h : R (.int ((d.length : Nat) : Int))) : ∃ (a C' dx : Addr) (fs : List (Str × V)) (v : V), V.ref x = V.ref a ∧ H a = some (.ins C' dx fs) ∧ Cls K C' ∧ NoAttr K C' "length" ∧ fs.lookup ("length" : Str) = some v ∧ R v := by
  obtain ⟨rs, es, as, dx, tr, tl, x1, x2⟩ := X
  exact ⟨x, C, dx, _, _, rfl, x1, T.clT, T.tN, tf_length _ _ _, h⟩
theorem fin {Q : VK} (T : Tx w K mg C D Z) (B : BuAt D H0 H b r l ds) (hl : ds.getLast? = some d) (h60 : ds.length ≤ 60) (q : RT C H0 ds.length d Q) : ∃ (a C' dx : Addr) (fs : List (Str × V)) (v : V), V.ref b = V.ref a ∧ H a = some (.ins C' dx fs) ∧ Cls K C' ∧ NoAttr K C' "rules" ∧ fs.lookup ("rules" : Str) = some v ∧ spSe C [v] H Q E0 := by
  obtain ⟨s0, r0, l0, ne, rs, as, dx, h1, h2, h3, h4, h5⟩ := B
  exact ⟨b, D, dx, _, _, rfl, h1, T.clB, T.bR, bf_rules _ _, r, as, rs, ds, d, rfl, h2, h4, h5, hl, by rw [h5.len]; exact h60, fun z H' s1 hz => q z H' (s0.trans s1) hz⟩
theorem mkB {dx : Addr} {E : XK} {R : Hp → Prop} (nx : H x = none) (ndx : H dx = none) (q : ∀ r l H', BuAt D H H' x r l [] → R H') : spBi D [.ref x] (upd (upd H dx (.own x)) x (.ins D dx [])) (fun v H2 => v = .non ∧ R H2) E := by
  have s4 : Same H (upd (upd H dx (.own x)) x (.ins D dx [])) := fun b o e => by
    rw [upd_ne (ne_of_none e nx), upd_ne (ne_of_none e ndx)]
    exact e
  exact ⟨H, x, dx, rfl, s4, nx, upd_same, fun H' r l B => ⟨rfl, q r l H' B⟩⟩
end
section
variable {P : Program} {w : World} {K : PySem.W.Frag} {mg : Str → Option Value} {base : Heap} {C D Z : Addr}
/-- what the edits call -/
structure Ed (P : Program) (w : World) (K : PySem.W.Frag) (mg : Str → Option Value) (base : Heap) (C D : Addr) : Prop where
  Tc : Fm P w K mg base 1 C "check_part" ["self", "start", "stop"] (spTc C)
  Bi : Fk P w K mg base 1 "Builder" D ["self"] (spBi D)
  Ba : Fm P w K mg base 1 D "add" ["self", "rule", "length"] (spBa D)
  Bt : Fm P w K mg base 2 D "text" ["self", "text"] (spBt C D)
  Bp : Fm P w K mg base 2 D "part" ["self", "rule", "start", "stop"] (spBp D)
  Bj : Fm P w K mg base 2 D "join" ["self", "first", "second"] (spBj D)
  Br : Fm P w K mg base 3 D "row" ["self", "numbers"] (spBr D)
  Se : Fc P w K mg base 7 "settled" ["rules"] (spSe C)
  Cs : Fc P w K mg base 1 "check_size" ["length"] spCs
  Cp : Fc P w K mg base 1 "check_place" ["place", "length"] spCp
  Ct : Fc P w K mg base 1 "check_times" ["times"] spCt
/-! ### remove_part -/
def spRm (C : Addr) : Sp := fun vs H Q _ => ∃ (x : Addr) (n s t : Nat) (d : L), vs = [.ref x, .int (s : Int), .int (t : Int)] ∧ TxtAt C H x n d ∧ s ≤ t ∧ t ≤ d.length ∧ n ≤ 50 ∧ RT C H (n + 3) (cutL d 0 s ++ cutL d t d.length) Q
theorem ok_Rm (T : Tx w K mg C D Z) (Y : Ed P w K mg base C D) (F : Df K mg "remove_part" sRm) : Fc P w K mg base 8 "remove_part" ["text", "start", "stop"] (spRm C) := by
  obtain ⟨GTc, GBi, GBa, GBt, GBp, GBj, GBr, GSe, GCs, GCp, GCt⟩ := Y
  refine fc_of F (fun _ _ _ _ _ _ us hl => match us, hl with | [_, _, _], _ => rfl) scRm (fun vs H Q E h => ?_) (fun f cdv A outer st H vs Q E hr h => ?_)
  · obtain ⟨x, n, s, t, d, rfl, _⟩ := h
    rfl
  · obtain ⟨x, n, s, t, d, rfl, X, hst, htd, hn, q⟩ := h
    have hmx := X.le
    refine ⟨_, (pss_cons (ps_expr (pe_m (pv 0) T.clT GTc (hr.mono (by decide)) (pa_cons (pv 1) (pa_cons (pv 2) pa_nil))))
      (pss_cons (ps_set (i := 3) scRm.nd rfl (by first | exact Or.inl rfl | exact Or.inr rfl) (pe_mk0 GBi (hr.mono (by decide))))
      (pss_cons (ps_set (i := 4) scRm.nd rfl (by first | exact Or.inl rfl | exact Or.inr rfl) (pe_m (pv 3) T.clB GBt (hr.mono (by decide)) (pa_cons (pv 0) pa_nil)))
      (pss_cons (ps_expr (pe_m (pv 3) T.clB GBr (hr.mono (by decide)) (pa_cons (pe_lst (pa_cons (pe_m (pv 3) T.clB GBp (hr.mono (by decide)) (pa_cons (pv 4) (pa_cons pe_int (pa_cons (pv 1) pa_nil)))) (pa_cons (pe_m (pv 3) T.clB GBp (hr.mono (by decide)) (pa_cons (pv 4) (pa_cons (pv 2) (pa_cons (pe_fld (pv 0) rfl) pa_nil)))) pa_nil))) pa_nil)))
      (pss_one (ps_ret (pe_c GSe (hr.mono (by decide)) (pa_cons (pe_fld (pv 3) rfl) pa_nil)))))))), ?_⟩
    refine ⟨_, rfl, mT X (by decide +kernel) (by decide +kernel) (by decide +kernel) ⟨_, rfl, _, rfl, x, n, s, t, d, rfl, X, hst, htd, ?_⟩⟩
    intro b bdx nb nbdx _
    refine mkB nb nbdx fun r l H1 B1 => ?_
    refine ⟨_, rfl, mB B1 (by decide +kernel) (by decide +kernel) ⟨_, rfl, H, b, r, l, x, n, [], d, rfl, B1, X, by show 0 + n ≤ 900; omega, fun H2 es B2 hes hlast => ?_⟩⟩
    rw [List.nil_append] at B2
    have hd := last_at hlast
    rw [hes] at hd
    have en : ([] : List L).length + n - 1 = n - 1 := by simp
    rw [en]
    refine ⟨_, rfl, mB B2 (by decide +kernel) (by decide +kernel) ?_⟩
    refine ⟨_, rfl, mB B2 (by decide +kernel) (by decide +kernel) ⟨_, rfl, _, rfl, H, b, r, l, es, n - 1, 0, s, d, rfl, B2, hd, by omega, by omega, by omega, fun H3 B3 => ?_⟩⟩
    refine ⟨_, rfl, mB B3 (by decide +kernel) (by decide +kernel) ⟨_, rfl, _, rfl, _, rfl, fN T (X.gro (sGro B3.same)) ⟨H, b, r, l, _, n - 1, t, d.length, d, rfl, B3, at_old hd, htd, Nat.le_refl _, by rw [List.length_append, hes]; show n + 1 ≤ 1000; omega, fun H4 B4 => ?_⟩⟩⟩
    refine ⟨by show 2 ≤ sizeLine; decide, fun nl hnl => ?_⟩
    have B5 := B4.more (same_upd (o := .lst [.int ((es.length : Nat) : Int), .int (((es ++ [cutL d 0 s]).length : Nat) : Int)]) hnl)
    have l1 := cutL_len (d := d) (a := 0) (b := s) (by omega) (by omega)
    have l2 := cutL_len (d := d) (a := t) (b := d.length) htd (Nat.le_refl _)
    refine ⟨H, b, r, l, nl, _, es.length, [(es ++ [cutL d 0 s]).length], cutL d 0 s, [cutL d t d.length], rfl, B5, upd_same, at_old at_new, two_rows at_new, rfl, Nat.succ_pos _, by show 1 ≤ 10; decide, ?_, ?_, fun v H6 fs B6 hfs hl6 => ?_⟩
    · simp only [List.length_append, List.length_singleton, hes]; omega
    · simp only [List.length_append, List.flatten_cons, List.flatten_nil, List.length_nil, l1, l2]; omega
    rw [show cutL d 0 s ++ [cutL d t d.length].flatten = cutL d 0 s ++ cutL d t d.length by simp] at hl6
    have e6 : (es ++ [cutL d 0 s] ++ [cutL d t d.length] ++ fs).length = n + 3 := by
      simp only [List.length_append, List.length_singleton, hes, hfs]
    refine ⟨_, rfl, fin T B6 hl6 (by omega) ?_⟩
    rw [e6]
    exact q
/-! ### part_of -/
def spPo (C : Addr) : Sp := fun vs H Q _ => ∃ (x : Addr) (n s t : Nat) (d : L), vs = [.ref x, .int (s : Int), .int (t : Int)] ∧ TxtAt C H x n d ∧ s ≤ t ∧ t ≤ d.length ∧ n ≤ 50 ∧ RT C H (n + 1) (cutL d s t) Q
theorem ok_Po (T : Tx w K mg C D Z) (Y : Ed P w K mg base C D) (F : Df K mg "part_of" sPo) : Fc P w K mg base 8 "part_of" ["text", "start", "stop"] (spPo C) := by
  obtain ⟨GTc, GBi, GBa, GBt, GBp, GBj, GBr, GSe, GCs, GCp, GCt⟩ := Y
  refine fc_of F (fun _ _ _ _ _ _ us hl => match us, hl with | [_, _, _], _ => rfl) scPo (fun vs H Q E h => ?_) (fun f cdv A outer st H vs Q E hr h => ?_)
  · obtain ⟨x, n, s, t, d, rfl, _⟩ := h
    rfl
  · obtain ⟨x, n, s, t, d, rfl, X, hst, htd, hn, q⟩ := h
    refine ⟨_, (pss_cons (ps_expr (pe_m (pv 0) T.clT GTc (hr.mono (by decide)) (pa_cons (pv 1) (pa_cons (pv 2) pa_nil))))
      (pss_cons (ps_set (i := 3) scPo.nd rfl (by first | exact Or.inl rfl | exact Or.inr rfl) (pe_mk0 GBi (hr.mono (by decide))))
      (pss_cons (ps_expr (pe_m (pv 3) T.clB GBp (hr.mono (by decide)) (pa_cons (pe_m (pv 3) T.clB GBt (hr.mono (by decide)) (pa_cons (pv 0) pa_nil)) (pa_cons (pv 1) (pa_cons (pv 2) pa_nil)))))
      (pss_one (ps_ret (pe_c GSe (hr.mono (by decide)) (pa_cons (pe_fld (pv 3) rfl) pa_nil))))))), ?_⟩
    refine ⟨_, rfl, mT X (by decide +kernel) (by decide +kernel) (by decide +kernel) ⟨_, rfl, _, rfl, x, n, s, t, d, rfl, X, hst, htd, ?_⟩⟩
    intro b bdx nb nbdx _
    refine mkB nb nbdx fun r l H1 B1 => ?_
    refine ⟨_, rfl, mB B1 (by decide +kernel) (by decide +kernel) ?_⟩
    refine ⟨_, rfl, mB B1 (by decide +kernel) (by decide +kernel) ⟨_, rfl, H, b, r, l, x, n, [], d, rfl, B1, X, by show 0 + n ≤ 900; omega, fun H2 es B2 hes hlast => ?_⟩⟩
    rw [List.nil_append] at B2
    have hd := last_at hlast
    rw [hes] at hd
    have en : ([] : List L).length + n - 1 = n - 1 := by simp
    rw [en]
    refine ⟨_, rfl, _, rfl, H, b, r, l, es, n - 1, s, t, d, rfl, B2, hd, hst, htd, by omega, fun H3 B3 => ?_⟩
    have e6 : (es ++ [cutL d s t]).length = n + 1 := by
      simp only [List.length_append, List.length_singleton, hes]
    refine ⟨_, rfl, fin T B3 List.getLast?_concat (by omega) ?_⟩
    rw [e6]
    exact q
/-! ### replace_part, insert_at -/
def spRp (C : Addr) : Sp := fun vs H Q _ => ∃ (x y : Addr) (n m s t : Nat) (d e : L), vs = [.ref x, .int (s : Int), .int (t : Int), .ref y] ∧ TxtAt C H x n d ∧ TxtAt C H y m e ∧ s ≤ t ∧ t ≤ d.length ∧ n + m ≤ 56 ∧ d.length - (t - s) + e.length ≤ MX ∧ RT C H (n + m + 4) (cutL d 0 s ++ (e ++ cutL d t d.length)) Q
theorem ok_Rp (T : Tx w K mg C D Z) (Y : Ed P w K mg base C D) (F : Df K mg "replace_part" sRp) : Fc P w K mg base 8 "replace_part" ["text", "start", "stop", "other"] (spRp C) := by
  obtain ⟨GTc, GBi, GBa, GBt, GBp, GBj, GBr, GSe, GCs, GCp, GCt⟩ := Y
  refine fc_of F (fun _ _ _ _ _ _ us hl => match us, hl with | [_, _, _, _], _ => rfl) scRp (fun vs H Q E h => ?_) (fun f cdv A outer st H vs Q E hr h => ?_)
  · obtain ⟨x, y, n, m, s, t, d, e, rfl, _⟩ := h
    rfl
  · obtain ⟨x, y, n, m, s, t, d, e, rfl, X, Y, hst, htd, hn, hsz, q⟩ := h
    have eM := MX_eq
    have hm := Y.pos
    refine ⟨_, (pss_cons (ps_expr (pe_m (pv 0) T.clT GTc (hr.mono (by decide)) (pa_cons (pv 1) (pa_cons (pv 2) pa_nil))))
      (pss_cons (ps_expr (pe_c GCs (hr.mono (by decide)) (pa_cons (pe_op op_add (pe_op op_sub (pe_fld (pv 0) rfl) (pe_op op_sub (pv 2) (pv 1))) (pe_fld (pv 3) rfl)) pa_nil)))
      (pss_cons (ps_set (i := 4) scRp.nd rfl (by first | exact Or.inl rfl | exact Or.inr rfl) (pe_mk0 GBi (hr.mono (by decide))))
      (pss_cons (ps_set (i := 5) scRp.nd rfl (by first | exact Or.inl rfl | exact Or.inr rfl) (pe_m (pv 4) T.clB GBt (hr.mono (by decide)) (pa_cons (pv 0) pa_nil)))
      (pss_cons (ps_set (i := 6) scRp.nd rfl (by first | exact Or.inl rfl | exact Or.inr rfl) (pe_m (pv 4) T.clB GBt (hr.mono (by decide)) (pa_cons (pv 3) pa_nil)))
      (pss_cons (ps_expr (pe_m (pv 4) T.clB GBr (hr.mono (by decide)) (pa_cons (pe_lst (pa_cons (pe_m (pv 4) T.clB GBp (hr.mono (by decide)) (pa_cons (pv 5) (pa_cons pe_int (pa_cons (pv 1) pa_nil)))) (pa_cons (pv 6) (pa_cons (pe_m (pv 4) T.clB GBp (hr.mono (by decide)) (pa_cons (pv 5) (pa_cons (pv 2) (pa_cons (pe_fld (pv 0) rfl) pa_nil)))) pa_nil)))) pa_nil)))
      (pss_one (ps_ret (pe_c GSe (hr.mono (by decide)) (pa_cons (pe_fld (pv 4) rfl) pa_nil)))))))))), ?_⟩
    refine ⟨_, rfl, mT X (by decide +kernel) (by decide +kernel) (by decide +kernel) ⟨_, rfl, _, rfl, x, n, s, t, d, rfl, X, hst, htd, ?_⟩⟩
    refine ⟨_, rfl, fN T X ⟨_, rfl, _, rfl, _, _, rfl, rfl, _, _, rfl, rfl, _, rfl, fN T Y ⟨_, _, rfl, rfl, _, rfl, by omega, ?_⟩⟩⟩
    intro b bdx nb nbdx _
    refine mkB nb nbdx fun r l H1 B1 => ?_
    refine ⟨_, rfl, mB B1 (by decide +kernel) (by decide +kernel) ⟨_, rfl, H, b, r, l, x, n, [], d, rfl, B1, X, by show 0 + n ≤ 900; omega, fun H2 es B2 hes hlast => ?_⟩⟩
    rw [List.nil_append] at B2
    have hd := last_at hlast
    rw [hes] at hd
    have en : ([] : List L).length + n - 1 = n - 1 := by simp
    rw [en]
    refine ⟨_, rfl, mB B2 (by decide +kernel) (by decide +kernel) ⟨_, rfl, H, b, r, l, y, m, es, e, rfl, B2, Y, by omega, fun H2 es2 B2 hes2 hlast2 => ?_⟩⟩
    have hd2 := last_at hlast2
    rw [hes2] at hd2
    have hput : (es ++ es2)[es.length + m - 1]? = some e := by
      rw [show es.length + m - 1 = es.length + (m - 1) by omega]
      exact at_shift hd2
    refine ⟨_, rfl, mB B2 (by decide +kernel) (by decide +kernel) ?_⟩
    have hw : (es ++ es2)[n - 1]? = some d := at_old hd
    refine ⟨_, rfl, mB B2 (by decide +kernel) (by decide +kernel) ⟨_, rfl, _, rfl, H, b, r, l, es ++ es2, n - 1, 0, s, d, rfl, B2, hw, by omega, by omega, by rw [List.length_append]; omega, fun H3 B3 => ?_⟩⟩
    refine ⟨_, rfl, _, rfl, mB B3 (by decide +kernel) (by decide +kernel) ⟨_, rfl, _, rfl, _, rfl, fN T (X.gro (sGro B3.same)) ⟨H, b, r, l, _, n - 1, t, d.length, d, rfl, B3, at_old hw, htd, Nat.le_refl _, by rw [List.length_append, List.length_append, hes, hes2]; show n + m + 1 ≤ 1000; omega, fun H4 B4 => ?_⟩⟩⟩
    refine ⟨by show 3 ≤ sizeLine; decide, fun nl hnl => ?_⟩
    have B5 := B4.more (same_upd (o := .lst [.int (((es ++ es2).length : Nat) : Int), .int ((es.length + m - 1 : Nat) : Int), .int ((((es ++ es2) ++ [cutL d 0 s]).length : Nat) : Int)]) hnl)
    have l1 := cutL_len (d := d) (a := 0) (b := s) (by omega) (by omega)
    have l2 := cutL_len (d := d) (a := t) (b := d.length) htd (Nat.le_refl _)
    refine ⟨H, b, r, l, nl, _, (es ++ es2).length, [es.length + m - 1, ((es ++ es2) ++ [cutL d 0 s]).length], cutL d 0 s, [e, cutL d t d.length], rfl, B5, upd_same, at_old at_new, three_rows (at_old (at_old hput)) at_new, rfl, Nat.succ_pos _, by show 2 ≤ 10; decide, ?_, ?_, fun v H6 fs B6 hfs hl6 => ?_⟩
    · simp only [List.length_append, List.length_singleton, hes, hes2]; omega
    · simp only [List.length_append, List.flatten_cons, List.flatten_nil, List.length_nil, l1, l2]; omega
    rw [show cutL d 0 s ++ [e, cutL d t d.length].flatten = cutL d 0 s ++ (e ++ cutL d t d.length) by simp] at hl6
    have e6 : (es ++ es2 ++ [cutL d 0 s] ++ [cutL d t d.length] ++ fs).length = n + m + 4 := by
      simp only [List.length_append, List.length_singleton, hes, hes2, hfs]
      show n + m + 1 + 1 + 2 = n + m + 4
      omega
    refine ⟨_, rfl, fin T B6 hl6 (by omega) ?_⟩
    rw [e6]
    exact q
def spIa (C : Addr) : Sp := fun vs H Q _ => ∃ (x y : Addr) (n m s : Nat) (d e : L), vs = [.ref x, .int (s : Int), .ref y] ∧ TxtAt C H x n d ∧ TxtAt C H y m e ∧ s ≤ d.length ∧ n + m ≤ 56 ∧ d.length + e.length ≤ MX ∧ RT C H (n + m + 4) (cutL d 0 s ++ (e ++ cutL d s d.length)) Q
theorem ok_Ia (T : Tx w K mg C D Z) (Y : Ed P w K mg base C D) (GRp : Fc P w K mg base 8 "replace_part" ["text", "start", "stop", "other"] (spRp C)) (F : Df K mg "insert_at" sIa) : Fc P w K mg base 9 "insert_at" ["text", "place", "other"] (spIa C) := by
  obtain ⟨GTc, GBi, GBa, GBt, GBp, GBj, GBr, GSe, GCs, GCp, GCt⟩ := Y
  refine fc_of F (fun _ _ _ _ _ _ us hl => match us, hl with | [_, _, _], _ => rfl) scIa (fun vs H Q E h => ?_) (fun f cdv A outer st H vs Q E hr h => ?_)
  · obtain ⟨x, y, n, m, s, d, e, rfl, _⟩ := h
    rfl
  · obtain ⟨x, y, n, m, s, d, e, rfl, X, Y, hsd, hn, hsz, q⟩ := h
    refine ⟨_, (pss_cons (ps_expr (pe_c GCp (hr.mono (by decide)) (pa_cons (pv 1) (pa_cons (pe_fld (pv 0) rfl) pa_nil))))
      (pss_one (ps_ret (pe_c GRp (hr.mono (by decide)) (pa_cons (pv 0) (pa_cons (pv 1) (pa_cons (pv 1) (pa_cons (pv 2) pa_nil)))))))), ?_⟩
    refine ⟨_, rfl, _, rfl, fN T X ⟨s, d.length, rfl, hsd, ?_⟩⟩
    refine ⟨_, rfl, _, rfl, _, rfl, _, rfl, x, y, n, m, s, s, d, e, rfl, X, Y, Nat.le_refl _, hsd, hn, by rw [Nat.sub_self]; exact hsz, q⟩
/-! ### turn_part -/
def spTp (C : Addr) : Sp := fun vs H Q _ => ∃ (x : Addr) (n s t : Nat) (d : L), vs = [.ref x, .int (s : Int), .int (t : Int)] ∧ TxtAt C H x n d ∧ s ≤ t ∧ t ≤ d.length ∧ n ≤ 50 ∧ RT C H (n + 6) (cutL d 0 s ++ ((cutL d s t).reverse ++ cutL d t d.length)) Q
theorem ok_Tp (T : Tx w K mg C D Z) (Y : Ed P w K mg base C D) (F : Df K mg "turn_part" sTp) : Fc P w K mg base 8 "turn_part" ["text", "start", "stop"] (spTp C) := by
  obtain ⟨GTc, GBi, GBa, GBt, GBp, GBj, GBr, GSe, GCs, GCp, GCt⟩ := Y
  refine fc_of F (fun _ _ _ _ _ _ us hl => match us, hl with | [_, _, _], _ => rfl) scTp (fun vs H Q E h => ?_) (fun f cdv A outer st H vs Q E hr h => ?_)
  · obtain ⟨x, n, s, t, d, rfl, _⟩ := h
    rfl
  · obtain ⟨x, n, s, t, d, rfl, X, hst, htd, hn, q⟩ := h
    have hmx := X.le
    refine ⟨_, (pss_cons (ps_expr (pe_m (pv 0) T.clT GTc (hr.mono (by decide)) (pa_cons (pv 1) (pa_cons (pv 2) pa_nil))))
      (pss_cons (ps_set (i := 3) scTp.nd rfl (by first | exact Or.inl rfl | exact Or.inr rfl) (pe_mk0 GBi (hr.mono (by decide))))
      (pss_cons (ps_set (i := 4) scTp.nd rfl (by first | exact Or.inl rfl | exact Or.inr rfl) (pe_m (pv 3) T.clB GBt (hr.mono (by decide)) (pa_cons (pv 0) pa_nil)))
      (pss_cons (ps_set (i := 5) scTp.nd rfl (by first | exact Or.inl rfl | exact Or.inr rfl) (pe_m (pv 3) T.clB GBa (hr.mono (by decide)) (pa_cons (pe_tup (pa_cons pe_str (pa_cons (pe_m (pv 3) T.clB GBp (hr.mono (by decide)) (pa_cons (pv 4) (pa_cons (pv 1) (pa_cons (pv 2) pa_nil)))) pa_nil))) (pa_cons (pe_op op_sub (pv 2) (pv 1)) pa_nil))))
      (pss_cons (ps_expr (pe_m (pv 3) T.clB GBr (hr.mono (by decide)) (pa_cons (pe_lst (pa_cons (pe_m (pv 3) T.clB GBp (hr.mono (by decide)) (pa_cons (pv 4) (pa_cons pe_int (pa_cons (pv 1) pa_nil)))) (pa_cons (pv 5) (pa_cons (pe_m (pv 3) T.clB GBp (hr.mono (by decide)) (pa_cons (pv 4) (pa_cons (pv 2) (pa_cons (pe_fld (pv 0) rfl) pa_nil)))) pa_nil)))) pa_nil)))
      (pss_one (ps_ret (pe_c GSe (hr.mono (by decide)) (pa_cons (pe_fld (pv 3) rfl) pa_nil))))))))), ?_⟩
    refine ⟨_, rfl, mT X (by decide +kernel) (by decide +kernel) (by decide +kernel) ⟨_, rfl, _, rfl, x, n, s, t, d, rfl, X, hst, htd, ?_⟩⟩
    intro b bdx nb nbdx _
    refine mkB nb nbdx fun r l H1 B1 => ?_
    refine ⟨_, rfl, mB B1 (by decide +kernel) (by decide +kernel) ⟨_, rfl, H, b, r, l, x, n, [], d, rfl, B1, X, by show 0 + n ≤ 900; omega, fun H2 es B2 hes hlast => ?_⟩⟩
    rw [List.nil_append] at B2
    have hd := last_at hlast
    rw [hes] at hd
    have en : ([] : List L).length + n - 1 = n - 1 := by simp
    rw [en]
    have l1 := cutL_len (d := d) (a := 0) (b := s) (by omega) (by omega)
    have l2 := cutL_len (d := d) (a := t) (b := d.length) htd (Nat.le_refl _)
    have l3 := cutL_len (d := d) (a := s) (b := t) hst htd
    refine ⟨_, rfl, mB B2 (by decide +kernel) (by decide +kernel) ?_⟩
    refine ⟨_, rfl, mB B2 (by decide +kernel) (by decide +kernel) ⟨_, rfl, _, rfl, _, rfl, H, b, r, l, es, n - 1, s, t, d, rfl, B2, hd, hst, htd, by omega, fun H3 B3 => ?_⟩⟩
    refine ⟨by show 2 ≤ sizeLine; decide, fun p hp => ⟨_, rfl, _, rfl, _, _, rfl, rfl, ?_⟩⟩
    have ed : (Ru.bk es.length).den (es ++ [cutL d s t]) = (cutL d s t).reverse := by
      show ((es ++ [cutL d s t]).getD es.length []).reverse = _
      rw [gD at_new]
    have el : (t : Int) - (s : Int) = ((((Ru.bk es.length).den (es ++ [cutL d s t])).length : Nat) : Int) := by
      rw [ed, List.length_reverse, l3]
      omega
    have hl3 : (es ++ [cutL d s t]).length = n + 1 := by simp only [List.length_append, List.length_singleton, hes]
    refine ⟨H, b, r, l, _, p, .bk es.length, ?_, B3.more (same_upd hp), upd_same, ⟨?_, ?_⟩, ?_, fun H4 B4 => ?_⟩
    · show [V.ref b, V.ref p, V.int ((t : Int) - (s : Int))] = _
      rw [el]
    · rw [ed, List.length_reverse, l3]; omega
    · show es.length < (es ++ [cutL d s t]).length
      omega
    · omega
    rw [ed] at B4
    rw [hl3]
    have hw : (es ++ [cutL d s t] ++ [(cutL d s t).reverse])[n - 1]? = some d := at_old (at_old hd)
    have ht : (es ++ [cutL d s t] ++ [(cutL d s t).reverse])[n + 1]? = some (cutL d s t).reverse := by
      rw [← hl3]
      exact at_new
    have hl4 : (es ++ [cutL d s t] ++ [(cutL d s t).reverse]).length = n + 2 := by simp only [List.length_append, List.length_singleton, hes]
    generalize es ++ [cutL d s t] ++ [(cutL d s t).reverse] = gs at B4 hw ht hl4
    refine ⟨_, rfl, mB B4 (by decide +kernel) (by decide +kernel) ?_⟩
    refine ⟨_, rfl, mB B4 (by decide +kernel) (by decide +kernel) ⟨_, rfl, _, rfl, H, b, r, l, gs, n - 1, 0, s, d, rfl, B4, hw, by omega, by omega, by omega, fun H5 B5 => ?_⟩⟩
    refine ⟨_, rfl, _, rfl, mB B5 (by decide +kernel) (by decide +kernel) ⟨_, rfl, _, rfl, _, rfl, fN T (X.gro (sGro B5.same)) ⟨H, b, r, l, _, n - 1, t, d.length, d, rfl, B5, at_old hw, htd, Nat.le_refl _, by rw [List.length_append, hl4]; show n + 2 + 1 ≤ 1000; omega, fun H6 B6 => ?_⟩⟩⟩
    refine ⟨by show 3 ≤ sizeLine; decide, fun nl hnl => ?_⟩
    have B7 := B6.more (same_upd (o := .lst [.int ((gs.length : Nat) : Int), .int ((n + 1 : Nat) : Int), .int (((gs ++ [cutL d 0 s]).length : Nat) : Int)]) hnl)
    refine ⟨H, b, r, l, nl, _, gs.length, [n + 1, (gs ++ [cutL d 0 s]).length], cutL d 0 s, [(cutL d s t).reverse, cutL d t d.length], rfl, B7, upd_same, at_old at_new, three_rows (at_old (at_old ht)) at_new, rfl, Nat.succ_pos _, by show 2 ≤ 10; decide, ?_, ?_, fun v H8 fs B8 hfs hl8 => ?_⟩
    · simp only [List.length_append, List.length_singleton, hl4]; omega
    · simp only [List.length_append, List.flatten_cons, List.flatten_nil, List.length_nil, List.length_reverse, l1, l2, l3]; omega
    rw [show cutL d 0 s ++ [(cutL d s t).reverse, cutL d t d.length].flatten = cutL d 0 s ++ ((cutL d s t).reverse ++ cutL d t d.length) by simp] at hl8
    have e6 : (gs ++ [cutL d 0 s] ++ [cutL d t d.length] ++ fs).length = n + 6 := by
      simp only [List.length_append, List.length_singleton, hl4, hfs]
      rfl
    refine ⟨_, rfl, fin T B8 hl8 (by omega) ?_⟩
    rw [e6]
    exact q
/-! ### repeat_part -/
def spRe (C : Addr) : Sp := fun vs H Q _ => ∃ (x : Addr) (n s t k : Nat) (d : L), vs = [.ref x, .int (s : Int), .int (t : Int), .int (k : Int)] ∧ TxtAt C H x n d ∧ s ≤ t ∧ t ≤ d.length ∧ n ≤ 50 ∧ k ≤ 10 ∧ d.length - (t - s) + (t - s) * k ≤ MX ∧ RT C H (n + 6) (cutL d 0 s ++ ((List.replicate k (cutL d s t)).flatten ++ cutL d t d.length)) Q
theorem ok_Re (T : Tx w K mg C D Z) (Y : Ed P w K mg base C D) (F : Df K mg "repeat_part" sRe) : Fc P w K mg base 8 "repeat_part" ["text", "start", "stop", "times"] (spRe C) := by
  obtain ⟨GTc, GBi, GBa, GBt, GBp, GBj, GBr, GSe, GCs, GCp, GCt⟩ := Y
  refine fc_of F (fun _ _ _ _ _ _ us hl => match us, hl with | [_, _, _, _], _ => rfl) scRe (fun vs H Q E h => ?_) (fun f cdv A outer st H vs Q E hr h => ?_)
  · obtain ⟨x, n, s, t, k, d, rfl, _⟩ := h
    rfl
  · obtain ⟨x, n, s, t, k, d, rfl, X, hst, htd, hn, hk, hsz, q⟩ := h
    have eM := MX_eq
    have hmx := X.le
    refine ⟨_, (pss_cons (ps_expr (pe_m (pv 0) T.clT GTc (hr.mono (by decide)) (pa_cons (pv 1) (pa_cons (pv 2) pa_nil))))
      (pss_cons (ps_expr (pe_c GCt (hr.mono (by decide)) (pa_cons (pv 3) pa_nil)))
      (pss_cons (ps_set (i := 4) scRe.nd rfl (by first | exact Or.inl rfl | exact Or.inr rfl) (pe_op op_mul (pe_op op_sub (pv 2) (pv 1)) (pv 3)))
      (pss_cons (ps_expr (pe_c GCs (hr.mono (by decide)) (pa_cons (pe_op op_add (pe_op op_sub (pe_fld (pv 0) rfl) (pe_op op_sub (pv 2) (pv 1))) (pv 4)) pa_nil)))
      (pss_cons (ps_set (i := 5) scRe.nd rfl (by first | exact Or.inl rfl | exact Or.inr rfl) (pe_mk0 GBi (hr.mono (by decide))))
      (pss_cons (ps_set (i := 6) scRe.nd rfl (by first | exact Or.inl rfl | exact Or.inr rfl) (pe_m (pv 5) T.clB GBt (hr.mono (by decide)) (pa_cons (pv 0) pa_nil)))
      (pss_cons (ps_set (i := 7) scRe.nd rfl (by first | exact Or.inl rfl | exact Or.inr rfl) (pe_m (pv 5) T.clB GBa (hr.mono (by decide)) (pa_cons (pe_tup (pa_cons pe_str (pa_cons (pe_m (pv 5) T.clB GBp (hr.mono (by decide)) (pa_cons (pv 6) (pa_cons (pv 1) (pa_cons (pv 2) pa_nil)))) (pa_cons (pv 3) pa_nil)))) (pa_cons (pv 4) pa_nil))))
      (pss_cons (ps_expr (pe_m (pv 5) T.clB GBr (hr.mono (by decide)) (pa_cons (pe_lst (pa_cons (pe_m (pv 5) T.clB GBp (hr.mono (by decide)) (pa_cons (pv 6) (pa_cons pe_int (pa_cons (pv 1) pa_nil)))) (pa_cons (pv 7) (pa_cons (pe_m (pv 5) T.clB GBp (hr.mono (by decide)) (pa_cons (pv 6) (pa_cons (pv 2) (pa_cons (pe_fld (pv 0) rfl) pa_nil)))) pa_nil)))) pa_nil)))
      (pss_one (ps_ret (pe_c GSe (hr.mono (by decide)) (pa_cons (pe_fld (pv 5) rfl) pa_nil)))))))))))), ?_⟩
    refine ⟨_, rfl, mT X (by decide +kernel) (by decide +kernel) (by decide +kernel) ⟨_, rfl, _, rfl, x, n, s, t, d, rfl, X, hst, htd, ?_⟩⟩
    refine ⟨_, rfl, k, rfl, by omega, ?_⟩
    refine ⟨_, rfl, _, rfl, _, _, rfl, rfl, _, rfl, _, _, rfl, rfl, .inr (by omega), ?_⟩
    have em : ((t : Int) - (s : Int)) * (k : Int) = (((t - s) * k : Nat) : Int) := by
      rw [Int.natCast_mul]
      congr 1
      omega
    refine ⟨_, rfl, fN T X ⟨_, rfl, _, rfl, _, _, rfl, rfl, _, _, rfl, rfl, _, rfl, _, _, rfl, rfl, _, rfl, by rw [em]; omega, ?_⟩⟩
    intro b bdx nb nbdx _
    refine mkB nb nbdx fun r l H1 B1 => ?_
    refine ⟨_, rfl, mB B1 (by decide +kernel) (by decide +kernel) ⟨_, rfl, H, b, r, l, x, n, [], d, rfl, B1, X, by show 0 + n ≤ 900; omega, fun H2 es B2 hes hlast => ?_⟩⟩
    rw [List.nil_append] at B2
    have hd := last_at hlast
    rw [hes] at hd
    have en : ([] : List L).length + n - 1 = n - 1 := by simp
    rw [en]
    have l1 := cutL_len (d := d) (a := 0) (b := s) (by omega) (by omega)
    have l2 := cutL_len (d := d) (a := t) (b := d.length) htd (Nat.le_refl _)
    have l3 := cutL_len (d := d) (a := s) (b := t) hst htd
    refine ⟨_, rfl, mB B2 (by decide +kernel) (by decide +kernel) ?_⟩
    refine ⟨_, rfl, mB B2 (by decide +kernel) (by decide +kernel) ⟨_, rfl, _, rfl, _, rfl, H, b, r, l, es, n - 1, s, t, d, rfl, B2, hd, hst, htd, by omega, fun H3 B3 => ?_⟩⟩
    refine ⟨_, rfl, by show 3 ≤ sizeLine; decide, fun p hp => ⟨_, rfl, ?_⟩⟩
    have ed : (Ru.pw es.length k).den (es ++ [cutL d s t]) = (List.replicate k (cutL d s t)).flatten := by
      show (List.replicate k ((es ++ [cutL d s t]).getD es.length [])).flatten = _
      rw [gD at_new]
    have lp : ((List.replicate k (cutL d s t)).flatten).length = (t - s) * k := by
      rw [flat_rep, l3, Nat.mul_comm]
    have el : ((Ru.pw es.length k).den (es ++ [cutL d s t])).length = (t - s) * k := by
      rw [ed, lp]
    have hl3 : (es ++ [cutL d s t]).length = n + 1 := by simp only [List.length_append, List.length_singleton, hes]
    refine ⟨H, b, r, l, _, p, .pw es.length k, ?_, B3.more (same_upd hp), upd_same, ⟨?_, ?_, ?_⟩, ?_, fun H4 B4 => ?_⟩
    · show [V.ref b, V.ref p, V.int (((t : Int) - (s : Int)) * (k : Int))] = _
      rw [em, el]
    · rw [el]; omega
    · show es.length < (es ++ [cutL d s t]).length
      omega
    · omega
    · omega
    rw [ed] at B4
    rw [hl3]
    have hw : (es ++ [cutL d s t] ++ [(List.replicate k (cutL d s t)).flatten])[n - 1]? = some d := at_old (at_old hd)
    have ht : (es ++ [cutL d s t] ++ [(List.replicate k (cutL d s t)).flatten])[n + 1]? = some (List.replicate k (cutL d s t)).flatten := by
      rw [← hl3]
      exact at_new
    have hl4 : (es ++ [cutL d s t] ++ [(List.replicate k (cutL d s t)).flatten]).length = n + 2 := by simp only [List.length_append, List.length_singleton, hes]
    generalize es ++ [cutL d s t] ++ [(List.replicate k (cutL d s t)).flatten] = gs at B4 hw ht hl4
    refine ⟨_, rfl, mB B4 (by decide +kernel) (by decide +kernel) ?_⟩
    refine ⟨_, rfl, mB B4 (by decide +kernel) (by decide +kernel) ⟨_, rfl, _, rfl, H, b, r, l, gs, n - 1, 0, s, d, rfl, B4, hw, by omega, by omega, by omega, fun H5 B5 => ?_⟩⟩
    refine ⟨_, rfl, _, rfl, mB B5 (by decide +kernel) (by decide +kernel) ⟨_, rfl, _, rfl, _, rfl, fN T (X.gro (sGro B5.same)) ⟨H, b, r, l, _, n - 1, t, d.length, d, rfl, B5, at_old hw, htd, Nat.le_refl _, by rw [List.length_append, hl4]; show n + 2 + 1 ≤ 1000; omega, fun H6 B6 => ?_⟩⟩⟩
    refine ⟨by show 3 ≤ sizeLine; decide, fun nl hnl => ?_⟩
    have B7 := B6.more (same_upd (o := .lst [.int ((gs.length : Nat) : Int), .int ((n + 1 : Nat) : Int), .int (((gs ++ [cutL d 0 s]).length : Nat) : Int)]) hnl)
    refine ⟨H, b, r, l, nl, _, gs.length, [n + 1, (gs ++ [cutL d 0 s]).length], cutL d 0 s, [(List.replicate k (cutL d s t)).flatten, cutL d t d.length], rfl, B7, upd_same, at_old at_new, three_rows (at_old (at_old ht)) at_new, rfl, Nat.succ_pos _, by show 2 ≤ 10; decide, ?_, ?_, fun v H8 fs B8 hfs hl8 => ?_⟩
    · simp only [List.length_append, List.length_singleton, hl4]; omega
    · simp only [List.length_append, List.flatten_cons, List.flatten_nil, List.length_nil, lp, l1, l2, l3]; omega
    rw [show cutL d 0 s ++ [(List.replicate k (cutL d s t)).flatten, cutL d t d.length].flatten = cutL d 0 s ++ ((List.replicate k (cutL d s t)).flatten ++ cutL d t d.length) by simp] at hl8
    have e6 : (gs ++ [cutL d 0 s] ++ [cutL d t d.length] ++ fs).length = n + 6 := by
      simp only [List.length_append, List.length_singleton, hl4, hfs]
      rfl
    refine ⟨_, rfl, fin T B8 hl8 (by omega) ?_⟩
    rw [e6]
    exact q
/-! ### move_part -/
def spMp (C : Addr) : Sp := fun vs H Q _ => ∃ (x : Addr) (n s t p : Nat) (d : L), vs = [.ref x, .int (s : Int), .int (t : Int), .int (p : Int)] ∧ TxtAt C H x n d ∧ s ≤ t ∧ t ≤ d.length ∧ p + (t - s) ≤ d.length ∧ n ≤ 50 ∧
  RT C H (n + 8) (cutL (cutL d 0 s ++ cutL d t d.length) 0 p ++ (cutL d s t ++ cutL (cutL d 0 s ++ cutL d t d.length) p (d.length - (t - s)))) Q
theorem ok_Mp (T : Tx w K mg C D Z) (Y : Ed P w K mg base C D) (F : Df K mg "move_part" sMp) : Fc P w K mg base 8 "move_part" ["text", "start", "stop", "place"] (spMp C) := by
  obtain ⟨GTc, GBi, GBa, GBt, GBp, GBj, GBr, GSe, GCs, GCp, GCt⟩ := Y
  refine fc_of F (fun _ _ _ _ _ _ us hl => match us, hl with | [_, _, _, _], _ => rfl) scMp (fun vs H Q E h => ?_) (fun f cdv A outer st H vs Q E hr h => ?_)
  · obtain ⟨x, n, s, t, p, d, rfl, _⟩ := h
    rfl
  · obtain ⟨x, n, s, t, p, d, rfl, X, hst, htd, hp, hn, q⟩ := h
    have eM := MX_eq
    have hmx := X.le
    refine ⟨_, (pss_cons (ps_expr (pe_m (pv 0) T.clT GTc (hr.mono (by decide)) (pa_cons (pv 1) (pa_cons (pv 2) pa_nil))))
      (pss_cons (ps_set (i := 4) scMp.nd rfl (by first | exact Or.inl rfl | exact Or.inr rfl) (pe_op op_sub (pe_fld (pv 0) rfl) (pe_op op_sub (pv 2) (pv 1))))
      (pss_cons (ps_expr (pe_c GCp (hr.mono (by decide)) (pa_cons (pv 3) (pa_cons (pv 4) pa_nil))))
      (pss_cons (ps_set (i := 5) scMp.nd rfl (by first | exact Or.inl rfl | exact Or.inr rfl) (pe_mk0 GBi (hr.mono (by decide))))
      (pss_cons (ps_set (i := 6) scMp.nd rfl (by first | exact Or.inl rfl | exact Or.inr rfl) (pe_m (pv 5) T.clB GBt (hr.mono (by decide)) (pa_cons (pv 0) pa_nil)))
      (pss_cons (ps_set (i := 7) scMp.nd rfl (by first | exact Or.inl rfl | exact Or.inr rfl) (pe_m (pv 5) T.clB GBp (hr.mono (by decide)) (pa_cons (pv 6) (pa_cons (pv 1) (pa_cons (pv 2) pa_nil)))))
      (pss_cons (ps_set (i := 8) scMp.nd rfl (by first | exact Or.inl rfl | exact Or.inr rfl) (pe_m (pv 5) T.clB GBj (hr.mono (by decide)) (pa_cons (pe_m (pv 5) T.clB GBp (hr.mono (by decide)) (pa_cons (pv 6) (pa_cons pe_int (pa_cons (pv 1) pa_nil)))) (pa_cons (pe_m (pv 5) T.clB GBp (hr.mono (by decide)) (pa_cons (pv 6) (pa_cons (pv 2) (pa_cons (pe_fld (pv 0) rfl) pa_nil)))) pa_nil))))
      (pss_cons (ps_expr (pe_m (pv 5) T.clB GBr (hr.mono (by decide)) (pa_cons (pe_lst (pa_cons (pe_m (pv 5) T.clB GBp (hr.mono (by decide)) (pa_cons (pv 8) (pa_cons pe_int (pa_cons (pv 3) pa_nil)))) (pa_cons (pv 7) (pa_cons (pe_m (pv 5) T.clB GBp (hr.mono (by decide)) (pa_cons (pv 8) (pa_cons (pv 3) (pa_cons (pv 4) pa_nil)))) pa_nil)))) pa_nil)))
      (pss_one (ps_ret (pe_c GSe (hr.mono (by decide)) (pa_cons (pe_fld (pv 5) rfl) pa_nil)))))))))))), ?_⟩
    refine ⟨_, rfl, mT X (by decide +kernel) (by decide +kernel) (by decide +kernel) ⟨_, rfl, _, rfl, x, n, s, t, d, rfl, X, hst, htd, ?_⟩⟩
    refine ⟨_, rfl, fN T X ⟨_, rfl, _, rfl, _, _, rfl, rfl, _, _, rfl, rfl, ?_⟩⟩
    have em : ((d.length : Nat) : Int) - ((t : Int) - (s : Int)) = ((d.length - (t - s) : Nat) : Int) := by omega
    refine ⟨_, rfl, _, rfl, p, d.length - (t - s), congrArg (fun z => [V.int (p : Int), V.int z]) em, by omega, ?_⟩
    intro b bdx nb nbdx _
    refine mkB nb nbdx fun r l H1 B1 => ?_
    refine ⟨_, rfl, mB B1 (by decide +kernel) (by decide +kernel) ⟨_, rfl, H, b, r, l, x, n, [], d, rfl, B1, X, by show 0 + n ≤ 900; omega, fun H2 es B2 hes hlast => ?_⟩⟩
    rw [List.nil_append] at B2
    have hd := last_at hlast
    rw [hes] at hd
    have en : ([] : List L).length + n - 1 = n - 1 := by simp
    rw [en]
    have l1 := cutL_len (d := d) (a := 0) (b := s) (by omega) (by omega)
    have l2 := cutL_len (d := d) (a := t) (b := d.length) htd (Nat.le_refl _)
    have l3 := cutL_len (d := d) (a := s) (b := t) hst htd
    have l4 : (cutL d 0 s ++ cutL d t d.length).length = d.length - (t - s) := by
      rw [List.length_append, l1, l2]
      omega
    -- part
    refine ⟨_, rfl, mB B2 (by decide +kernel) (by decide +kernel) ⟨_, rfl, _, rfl, _, rfl, H, b, r, l, es, n - 1, s, t, d, rfl, B2, hd, hst, htd, by omega, fun H3 B3 => ?_⟩⟩
    rw [hes]
    have g1 : (es ++ [cutL d s t]).length = n + 1 := by simp only [List.length_append, List.length_singleton, hes]
    have g2 : (es ++ [cutL d s t])[n - 1]? = some d := at_old hd
    have g3 : (es ++ [cutL d s t])[n]? = some (cutL d s t) := by
      rw [← hes]
      exact at_new
    generalize es ++ [cutL d s t] = fs at B3 g1 g2 g3
    -- left
    refine ⟨_, rfl, mB B3 (by decide +kernel) (by decide +kernel) ?_⟩
    refine ⟨_, rfl, mB B3 (by decide +kernel) (by decide +kernel) ⟨_, rfl, _, rfl, H, b, r, l, fs, n - 1, 0, s, d, rfl, B3, g2, by omega, by omega, by omega, fun H4 B4 => ?_⟩⟩
    refine ⟨_, rfl, mB B4 (by decide +kernel) (by decide +kernel) ⟨_, rfl, _, rfl, _, rfl, fN T (X.gro (sGro B4.same)) ⟨H, b, r, l, _, n - 1, t, d.length, d, rfl, B4, at_old g2, htd, Nat.le_refl _, by rw [List.length_append, g1]; show n + 1 + 1 ≤ 1000; omega, fun H5 B5 => ?_⟩⟩⟩
    refine ⟨H, b, r, l, _, fs.length, (fs ++ [cutL d 0 s]).length, cutL d 0 s, cutL d t d.length, rfl, B5, at_old at_new, at_new, by omega, ?_, fun H6 B6 => ?_⟩
    · simp only [List.length_append, List.length_singleton, g1]; omega
    have k1 : (fs ++ [cutL d 0 s] ++ [cutL d t d.length]).length = n + 3 := by simp only [List.length_append, List.length_singleton, g1]
    rw [k1]
    have k2 : (fs ++ [cutL d 0 s] ++ [cutL d t d.length] ++ [cutL d 0 s ++ cutL d t d.length])[n + 3]? = some (cutL d 0 s ++ cutL d t d.length) := by
      rw [← k1]
      exact at_new
    have k3 : (fs ++ [cutL d 0 s] ++ [cutL d t d.length] ++ [cutL d 0 s ++ cutL d t d.length])[n]? = some (cutL d s t) := at_old (at_old (at_old g3))
    have k4 : (fs ++ [cutL d 0 s] ++ [cutL d t d.length] ++ [cutL d 0 s ++ cutL d t d.length]).length = n + 4 := by simp only [List.length_append, List.length_singleton, g1]
    generalize fs ++ [cutL d 0 s] ++ [cutL d t d.length] ++ [cutL d 0 s ++ cutL d t d.length] = gs at B6 k2 k3 k4
    generalize cutL d 0 s ++ cutL d t d.length = y at k2 l4 q
    have l5 := cutL_len (d := y) (a := 0) (b := p) (by omega) (by omega)
    have l6 := cutL_len (d := y) (a := p) (b := d.length - (t - s)) (by omega) (by omega)
    -- the row
    refine ⟨_, rfl, mB B6 (by decide +kernel) (by decide +kernel) ?_⟩
    refine ⟨_, rfl, mB B6 (by decide +kernel) (by decide +kernel) ⟨_, rfl, _, rfl, H, b, r, l, gs, n + 3, 0, p, y, rfl, B6, k2, by omega, by omega, by omega, fun H7 B7 => ?_⟩⟩
    refine ⟨_, rfl, _, rfl, mB B7 (by decide +kernel) (by decide +kernel) ⟨_, rfl, _, rfl, _, rfl, H, b, r, l, _, n + 3, p, d.length - (t - s), y, congrArg (fun z => [V.ref b, V.int ((n + 3 : Nat) : Int), V.int (p : Int), V.int z]) em, B7, at_old k2, by omega, by omega, by rw [List.length_append, k4]; show n + 4 + 1 ≤ 1000; omega, fun H8 B8 => ?_⟩⟩
    refine ⟨by show 3 ≤ sizeLine; decide, fun nl hnl => ?_⟩
    have B9 := B8.more (same_upd (o := .lst [.int ((gs.length : Nat) : Int), .int ((n : Nat) : Int), .int (((gs ++ [cutL y 0 p]).length : Nat) : Int)]) hnl)
    refine ⟨H, b, r, l, nl, _, gs.length, [n, (gs ++ [cutL y 0 p]).length], cutL y 0 p, [cutL d s t, cutL y p (d.length - (t - s))], rfl, B9, upd_same, at_old at_new, three_rows (at_old (at_old k3)) at_new, rfl, Nat.succ_pos _, by show 2 ≤ 10; decide, ?_, ?_, fun v H10 hs B10 hfs hl10 => ?_⟩
    · simp only [List.length_append, List.length_singleton, k4]; omega
    · simp only [List.length_append, List.flatten_cons, List.flatten_nil, List.length_nil, l3, l5, l6]; omega
    rw [show cutL y 0 p ++ [cutL d s t, cutL y p (d.length - (t - s))].flatten = cutL y 0 p ++ (cutL d s t ++ cutL y p (d.length - (t - s))) by simp] at hl10
    have e6 : (gs ++ [cutL y 0 p] ++ [cutL y p (d.length - (t - s))] ++ hs).length = n + 8 := by
      simp only [List.length_append, List.length_singleton, k4, hfs]
      rfl
    refine ⟨_, rfl, fin T B10 hl10 (by omega) ?_⟩
    rw [e6]
    exact q
end
end Sh
set_option Elab.async false
set_option linter.all false
set_option maxRecDepth 100000
set_option maxHeartbeats 4000000
namespace Sh
open PySem PySem.Spec PyProof.Rows L2
open SX (S)
/-- copies from the text: where from, how many -/
abbrev Ph : Type := Nat × Nat
def phv (p : Ph) : List V := [.str "copy", .int 0, .int (p.1 : Int), .int (p.2 : Int)]
def sumP (ps : List Ph) : Nat := (ps.map (fun p => p.2)).sum
def catP (d : L) (ps : List Ph) : L := (ps.map fun p => cutL d p.1 (p.1 + p.2)).flatten
structure PhAt (H : Hp) (as : List Addr) (ps : List Ph) : Prop where
  len : as.length = ps.length
  at_ : ∀ (i : Nat) (a : Addr) (p : Ph), as[i]? = some a → ps[i]? = some p → H a = some (.tup (phv p))
theorem PhAt.same {H H' : Hp} {as : List Addr} {ps : List Ph} (h : PhAt H as ps) (s : Same H H') : PhAt H' as ps := ⟨h.len, fun i a p e1 e2 => s _ _ (h.at_ i a p e1 e2)⟩
theorem sumP_take (ps : List Ph) {i : Nat} {p : Ph} (h : ps[i]? = some p) : sumP (ps.take (i + 1)) = sumP (ps.take i) + p.2 := by
  unfold sumP
  rw [List.take_add_one, h, List.map_append, List.sum_append_nat]
  simp
theorem sumP_le : ∀ (ps : List Ph) (i : Nat), sumP (ps.take i) ≤ sumP ps
  | [], i => by simp
  | p :: ps, 0 => by simp [sumP]
  | p :: ps, i + 1 => by
    have := sumP_le ps i
    unfold sumP at this ⊢
    simp only [List.take_succ_cons, List.map_cons, List.sum_cons]
    omega
theorem catP_take (d : L) (ps : List Ph) {i : Nat} {p : Ph} (h : ps[i]? = some p) : catP d (ps.take (i + 1)) = catP d (ps.take i) ++ cutL d p.1 (p.1 + p.2) := by
  unfold catP
  rw [List.take_add_one, h, List.map_append, List.flatten_append]
  simp
theorem catP_len (d : L) : ∀ (ps : List Ph), (∀ p ∈ ps, p.1 + p.2 ≤ d.length) → (catP d ps).length = sumP ps
  | [], _ => rfl
  | p :: ps, h => by
    have e := catP_len d ps fun q hq => h q (.tail _ hq)
    have l := cutL_len (d := d) (a := p.1) (b := p.1 + p.2) (by omega) (h p (.head _))
    unfold catP sumP at *
    simp only [List.map_cons, List.flatten_cons, List.length_append, List.sum_cons, e, l]
    omega
theorem rg10 : ∀ k : Nat, k ≤ 10 → RgC 0 (k : Int) 10 (if k = 0 then 0 else 1) := by
  have h : ∀ k : Fin 11, (10 : Int) ≠ 0 ∧ (10 : Int).natAbs < 1073741824 ∧ Builtin.Range.small 0 ((k.1 : Nat) : Int) 10 = true ∧ Builtin.Range.rangeSize 0 ((k.1 : Nat) : Int) 10 = (((if k.1 = 0 then 0 else 1 : Nat)) : Int) := by decide +kernel
  exact fun k hk => h ⟨k, Nat.lt_succ_of_le hk⟩
theorem cutV10 (xs : List V) (h : xs.length ≤ 10) : cutV xs (some (0 + ((0 : Nat) : Int) * 10)) (some (0 + ((0 : Nat) : Int) * 10 + 10)) = xs := by
  unfold cutV
  have e1 : HT.sIx xs.length 0 (some (0 + ((0 : Nat) : Int) * 10)) = 0 := by
    rw [show (0 + ((0 : Nat) : Int) * 10) = ((0 : Nat) : Int) from rfl, HT.sIx_nat]
    omega
  have e2 : HT.sIx xs.length xs.length (some (0 + ((0 : Nat) : Int) * 10 + 10)) = xs.length := by
    rw [show (0 + ((0 : Nat) : Int) * 10 + 10) = ((10 : Nat) : Int) from rfl, HT.sIx_nat]
    omega
  rw [e1, e2, List.drop_zero, Nat.sub_zero, List.take_length]
theorem wcl : ¬ (V.str "copy" = V.str "letter") := by decide +kernel
section
variable {P : Program} {w : World} {K : PySem.W.Frag} {mg : Str → Option Value} {base : Heap} {C D Z : Addr}
/-! ### is_spelling -/
def spIs : Sp := fun vs H Q _ => ∃ (a : Addr) (p : Ph) (n m : Nat), vs = [.ref a, .int (n : Int), .int (m : Int)] ∧ H a = some (.tup (phv p)) ∧ p.1 + p.2 ≤ n ∧ 1 ≤ p.2 ∧ Q (.bl true) H
theorem ok_Is (T : Tx w K mg C D Z) (F : Df K mg "is_spelling" sIs) : Fc P w K mg base 1 "is_spelling" ["phrase", "length", "spelled"] spIs := by
  refine fc_of F (fun _ _ _ _ _ _ us hl => match us, hl with | [_, _, _], _ => rfl) scIs (fun vs H Q E h => ?_) (fun f cdv A outer st H vs Q E hr h => ?_)
  · obtain ⟨a, p, n, m, rfl, _⟩ := h
    rfl
  · obtain ⟨a, p, n, m, rfl, ha, h1, h2, q⟩ := h
    refine ⟨_, (pss_cons (ps_if (pt_cmpR op_eq (pe_ix ix_tup (pv 0) pe_int (fun _ _ => rfl)) pe_str (nomark _)) (pss_one (ps_ret (pe_and (pe_cmpR op_eq (pe_callB (id := "len") (call_lenK K) (by rfl) T.len_ (by decide +kernel) (pa_cons (pv 0) pa_nil)) pe_int (nomark _)) (pe_and (pe_cmpR op_eq (pe_callB (id := "len") call_len_str (by rfl) T.len_ (by decide +kernel) (pa_cons (pe_ix ix_tup (pv 0) pe_int (fun _ _ => rfl)) pa_nil)) pe_int (nomark _)) (pe_one (pe_cmpR op_in_sign (pe_ix ix_tup (pv 0) pe_int (fun _ _ => rfl)) (pe_gs T.LETTERS) rfl)))))) pss_nil)
      (pss_cons (ps_if (PW.pt (pw_or (pt_cmpR op_ne (pe_ix ix_tup (pv 0) pe_int (fun _ _ => rfl)) pe_str (nomark _)) (pw_or1 (pt_cmpR op_ne (pe_callB (id := "len") (call_lenK K) (by rfl) T.len_ (by decide +kernel) (pa_cons (pv 0) pa_nil)) pe_int (nomark _))))) (pss_one (ps_ret pe_bl)) pss_nil)
      (pss_cons (ps_asg (pv 0) (pg_tup (by rfl) (pgs_cons (pg_name (i := 3) scIs.nd rfl (Or.inl rfl)) (pgs_cons (pg_name (i := 4) scIs.nd rfl (Or.inl rfl)) (pgs_cons (pg_name (i := 5) scIs.nd rfl (Or.inl rfl)) (pgs_cons (pg_name (i := 6) scIs.nd rfl (Or.inl rfl)) pgs_nil))))))
      (pss_cons (ps_if (PW.pt (pw_or (pt_cmpR op_lt (pv 5) pe_int (nomark _)) (pw_or1 (pt_cmpR op_lt (pv 6) pe_int (nomark _))))) (pss_one (ps_ret pe_bl)) pss_nil)
      (pss_cons (ps_if (pt_cmpR op_eq (pv 4) pe_int (nomark _)) (pss_one (ps_ret (pe_cmpR op_le (pe_op op_add (pv 5) (pv 6)) (pv 1) (nomark _)))) pss_nil)
      (pss_one (ps_ret (pe_and (pe_cmpR op_eq (pv 4) pe_int (nomark _)) (pe_one (pe_cmpR op_lt (pv 5) (pv 2) (nomark _))))))))))), ?_⟩
    refine ⟨_, rfl, a, _, _, _, rfl, rfl, SqT.of ha, atI_nat (j := 0) rfl, rfl, _, rfl, ifN wcl ?_⟩
    refine ⟨_, rfl, a, _, _, _, rfl, rfl, SqT.of ha, atI_nat (j := 0) rfl, rfl, _, rfl, inN rfl ?_⟩
    refine ⟨_, rfl, a, _, rfl, .inr (SqT.of ha), rfl, _, rfl, inN rfl ?_⟩
    refine ⟨_, rfl, a, _, rfl, SqT.of ha, rfl, _, _, rfl, _, _, rfl, _, _, rfl, _, _, rfl, rfl, ?_⟩
    refine ⟨_, rfl, _, _, rfl, rfl, _, rfl, ifN (show ¬ ((p.1 : Int) < 0) by omega) ?_⟩
    refine ⟨_, rfl, _, _, rfl, rfl, _, rfl, ifN (show ¬ ((p.2 : Int) < 1) by omega) ?_⟩
    refine ⟨_, rfl, rfl, _, rfl, ifP rfl ?_⟩
    refine ⟨_, rfl, _, rfl, _, _, rfl, rfl, _, rfl, _, _, rfl, rfl, ?_⟩
    have e : decide ((p.1 : Int) + (p.2 : Int) ≤ (n : Int)) = true := decide_eq_true (by omega)
    show Q (.bl (decide ((p.1 : Int) + (p.2 : Int) ≤ (n : Int)))) H
    rw [e]
    exact q
/-! ### check_phrases -/
def spCh (C : Addr) : Sp := fun vs H Q _ => ∃ (x t : Addr) (n : Nat) (d : L) (as : List Addr) (ps : List Ph), vs = [.ref x, .ref t] ∧ TxtAt C H x n d ∧ H t = some (.lst (as.map V.ref)) ∧ PhAt H as ps ∧ (∀ p ∈ ps, p.1 + p.2 ≤ d.length ∧ 1 ≤ p.2) ∧ sumP ps ≤ MX ∧ ∀ H', Same H H' → Q .non H'
theorem ok_Ch (T : Tx w K mg C D Z) (GIs : Fc P w K mg base 1 "is_spelling" ["phrase", "length", "spelled"] spIs) (GCs : Fc P w K mg base 1 "check_size" ["length"] spCs) (F : Df K mg "check_phrases" sCh) : Fc P w K mg base 2 "check_phrases" ["text", "phrases"] (spCh C) := by
  refine fc_of F (fun _ _ _ _ _ _ us hl => match us, hl with | [_, _], _ => rfl) scCh (fun vs H Q E h => ?_) (fun f cdv A outer st H vs Q E hr h => ?_)
  · obtain ⟨x, t, n, d, as, ps, rfl, _⟩ := h
    rfl
  · obtain ⟨x, t, n, d, as, ps, rfl, X, ht, hps, hall, hsum, q⟩ := h
    have eM := MX_eq
    refine ⟨_, (pss_cons (ps_set (i := 2) scCh.nd rfl (by first | exact Or.inl rfl | exact Or.inr rfl) pe_int)
      (pss_cons (ps_for PassesOwn.never rfl (pi_enum (by rfl) T.enumerate_ (pa_cons (pv 1) pa_nil)) (pg_tup rfl (pgs_cons (pg_name (i := 3) scCh.nd rfl (Or.inl rfl)) (pgs_cons (pg_name (i := 4) scCh.nd rfl (Or.inl rfl)) pgs_nil))) (pss_cons (ps_if (PW.pt (pw_or (pt_not (pt_truth (pv 4) (by intro _; rfl))) (pw_or1 (pt_not (pt_val (pe_c GIs (hr.mono (by decide)) (pa_cons (pv 4) (pa_cons (pe_fld (pv 0) rfl) (pa_cons (pv 2) pa_nil))))))))) (pss_one ps_never) pss_nil)
      (pss_one (ps_aug (i := 2) scCh.nd rfl (Or.inl rfl) (pe_ifExp (pt_cmpR op_eq (pe_ix ix_tup (pv 4) pe_int (fun _ _ => rfl)) pe_str (nomark _)) pe_int (pe_ix ix_tup (pv 4) pe_int (fun _ _ => rfl))) ip_add))))
      (pss_one (ps_expr (pe_c GCs (hr.mono (by decide)) (pa_cons (pv 2) pa_nil)))))), ?_⟩
    refine ⟨_, rfl, t, _, rfl, SqL.of ht, for_it walk_enum (fun i σ H' => ∃ v3 v4, σ = [some (.ref x), some (.ref t), some (.int ((sumP (ps.take i) : Nat) : Int)), v3, v4] ∧ Same H H')
        ⟨none, none, by rw [List.take_zero]; rfl, Same.refl H⟩ (fun i σ H' _ ⟨_, _, _, s1⟩ => SqL.of (s1 _ _ ht)) ?_ ?_⟩
    · rintro i v σ H1 H2 hi ⟨v3, v4, rfl, s1⟩ ⟨T', x1, x2, rfl, hT, rfl, e1, e2⟩
      have hia : i < as.length := by rw [List.length_map] at hi; exact hi
      have hip : i < ps.length := by rw [← hps.len]; exact hia
      have e2 : (as.map V.ref)[i]? = some x2 := e2
      rw [List.getElem?_map, List.getElem?_eq_getElem hia] at e2
      obtain rfl : x2 = .ref as[i] := (Option.some.inj e2).symm
      have ha := hps.at_ i _ _ (List.getElem?_eq_getElem hia) (List.getElem?_eq_getElem hip)
      obtain ⟨k1, k2⟩ := hall _ (List.getElem_mem hip)
      have s2 : Same H (upd H1 T' (.tup [x1, .ref as[i]])) := s1.trans (same_upd hT)
      have ha2 := s2 _ _ ha
      refine ⟨T', _, rfl, SqT.of upd_same, rfl, _, _, rfl, _, _, rfl, rfl, ?_⟩
      refine ⟨_, rfl, true, .inr (.inl ⟨_, SqT.of ha2, rfl⟩), nF ?_⟩
      refine ⟨_, rfl, _, rfl, fN T (X.gro (sGro s2)) ⟨_, rfl, as[i], ps[i], d.length, _, rfl, ha2, k1, k2, ?_⟩⟩
      refine ⟨_, rfl, nF ?_⟩
      refine ⟨_, rfl, _, rfl, as[i], _, _, _, rfl, rfl, SqT.of ha2, atI_nat (j := 0) rfl, rfl, _, rfl, ifN wcl ?_⟩
      refine ⟨_, rfl, as[i], _, _, _, rfl, rfl, SqT.of ha2, atI_nat (j := 3) rfl, ?_⟩
      refine ⟨_, _, rfl, rfl, some x1, some (.ref as[i]), ?_, s2⟩
      rw [sumP_take ps (List.getElem?_eq_getElem hip), Int.natCast_add]
      rfl
    · rintro σ H' ⟨v3, v4, rfl, s1⟩
      have et : ps.take (as.map V.ref).length = ps := by
        rw [List.length_map, hps.len, List.take_length]
      rw [et]
      exact ⟨_, rfl, _, rfl, by omega, q _ s1⟩
/-! ### spelled_on -/
def spSp (C : Addr) : Sp := fun vs H Q _ => ∃ (x y t : Addr) (n m : Nat) (d e : L) (as : List Addr) (ps : List Ph), vs = [.ref x, .ref y, .ref t] ∧ TxtAt C H x n d ∧ TxtAt C H y m e ∧ H t = some (.lst (as.map V.ref)) ∧ PhAt H as ps ∧ (∀ p ∈ ps, p.1 + p.2 ≤ d.length ∧ 1 ≤ p.2) ∧ e.length + sumP ps ≤ MX ∧ ps.length ≤ 10 ∧ n + m ≤ 40 ∧
  ∀ z k H', Same H H' → TxtAt C H' z k (e ++ catP d ps) → Q (.ref z) H'
theorem ok_Sp (T : Tx w K mg C D Z) (Y : Ed P w K mg base C D) (F : Df K mg "spelled_on" sSp) : Fc P w K mg base 8 "spelled_on" ["text", "spelled", "phrases"] (spSp C) := by
  obtain ⟨GTc, GBi, GBa, GBt, GBp, GBj, GBr, GSe, GCs, GCp, GCt⟩ := Y
  refine fc_of F (fun _ _ _ _ _ _ us hl => match us, hl with | [_, _, _], _ => rfl) scSp (fun vs H Q E h => ?_) (fun f cdv A outer st H vs Q E hr h => ?_)
  · obtain ⟨x, y, t, n, m, d, e, as, ps, rfl, _⟩ := h
    rfl
  · obtain ⟨x, y, t, n, m, d, e, as, ps, rfl, X, Y, ht, hps, hall, hsum, h10, hnm, q⟩ := h
    have hm := Y.pos
    have hn := X.pos
    refine ⟨_, (pss_cons (ps_set (i := 3) scSp.nd rfl (by first | exact Or.inl rfl | exact Or.inr rfl) (pe_mk0 GBi (hr.mono (by decide))))
      (pss_cons (ps_set (i := 4) scSp.nd rfl (by first | exact Or.inl rfl | exact Or.inr rfl) (pe_m (pv 3) T.clB GBt (hr.mono (by decide)) (pa_cons (pv 0) pa_nil)))
      (pss_cons (ps_set (i := 5) scSp.nd rfl (by first | exact Or.inl rfl | exact Or.inr rfl) (pe_m (pv 3) T.clB GBt (hr.mono (by decide)) (pa_cons (pv 1) pa_nil)))
      (pss_cons (ps_for PassesOwn.never rfl (pi_list (pv 2)) (pg_name (i := 6) scSp.nd rfl (Or.inl rfl)) (pss_cons (ps_if (pt_cmpR op_eq (pe_ix ix_tup (pv 6) pe_int (fun _ _ => rfl)) pe_str (nomark _)) (pss_one (ps_set (i := 7) scSp.nd rfl (by first | exact Or.inl rfl | exact Or.inr rfl) (pe_m (pv 3) T.clB GBa (hr.mono (by decide)) (pa_cons (pe_tup (pa_cons pe_str (pa_cons (pe_ix ix_tup (pv 6) pe_int (fun _ _ => rfl)) pa_nil))) (pa_cons pe_int pa_nil))))) (pss_one (ps_if (pt_cmpR op_eq (pe_ix ix_tup (pv 6) pe_int (fun _ _ => rfl)) pe_int (nomark _)) (pss_one (ps_set (i := 7) scSp.nd rfl (by first | exact Or.inl rfl | exact Or.inr rfl) (pe_m (pv 3) T.clB GBp (hr.mono (by decide)) (pa_cons (pv 4) (pa_cons (pe_ix ix_tup (pv 6) pe_int (fun _ _ => rfl)) (pa_cons (pe_op op_add (pe_ix ix_tup (pv 6) pe_int (fun _ _ => rfl)) (pe_ix ix_tup (pv 6) pe_int (fun _ _ => rfl))) pa_nil)))))) (pss_one (ps_set (i := 7) scSp.nd rfl (by first | exact Or.inl rfl | exact Or.inr rfl) pe_no)))))
      (pss_one (ps_set (i := 5) scSp.nd rfl (by first | exact Or.inl rfl | exact Or.inr rfl) (pe_m (pv 3) T.clB GBj (hr.mono (by decide)) (pa_cons (pv 5) (pa_cons (pv 7) pa_nil)))))))
      (pss_one (ps_ret (pe_c GSe (hr.mono (by decide)) (pa_cons (pe_fld (pv 3) rfl) pa_nil)))))))), ?_⟩
    intro b bdx nb nbdx _
    refine mkB nb nbdx fun r l H1 B1 => ?_
    refine ⟨_, rfl, mB B1 (by decide +kernel) (by decide +kernel) ⟨_, rfl, H, b, r, l, x, n, [], d, rfl, B1, X, by show 0 + n ≤ 900; omega, fun H2 es B2 hes hlast => ?_⟩⟩
    rw [List.nil_append] at B2
    have hd := last_at hlast
    rw [hes] at hd
    have en : ([] : List L).length + n - 1 = n - 1 := by simp
    rw [en]
    refine ⟨_, rfl, mB B2 (by decide +kernel) (by decide +kernel) ⟨_, rfl, H, b, r, l, y, m, es, e, rfl, B2, Y, by omega, fun H2 es2 B2 hes2 hlast2 => ?_⟩⟩
    have hd2 := last_at hlast2
    rw [hes2] at hd2
    have hw : (es ++ es2)[n - 1]? = some d := at_old hd
    have hput : (es ++ es2)[es.length + m - 1]? = some e := by
      rw [show es.length + m - 1 = es.length + (m - 1) by omega]
      exact at_shift hd2
    have hg : (es ++ es2).length = n + m := by rw [List.length_append, hes, hes2]
    rw [hes] at hput ⊢
    generalize es ++ es2 = gs at B2 hw hput hg
    refine ⟨_, rfl, t, rfl, ⟨_, SqL.of (B2.same _ _ ht)⟩, for_it (walk_list (K := K) (a := t) (xs := as.map V.ref)) (fun i σ H' => ∃ fs v6 v7, σ = [some (.ref x), some (.ref y), some (.ref t), some (.ref b), some (.int ((n - 1 : Nat) : Int)), some (.int ((n + m + 2 * i - 1 : Nat) : Int)), v6, v7] ∧ BuAt D H H' b r l (gs ++ fs) ∧ fs.length = 2 * i ∧ (gs ++ fs)[n + m + 2 * i - 1]? = some (e ++ catP d (ps.take i)))
      ⟨[], none, none, rfl, by rw [List.append_nil]; exact B2, rfl, ?_⟩ (fun i σ H' _ ⟨_, _, _, _, B', _⟩ => SqL.of (B'.same _ _ ht)) ?_ ?_⟩
    · rw [List.append_nil, List.take_zero]
      show gs[n + m - 1]? = some (e ++ [])
      rw [List.append_nil]
      exact hput
    · rintro i v σ H1 H2 hi ⟨fs, v6, v7, rfl, B', hfs, hlast'⟩ ⟨rfl, hv⟩
      have hia : i < as.length := by rw [List.length_map] at hi; exact hi
      have hip : i < ps.length := by rw [← hps.len]; exact hia
      rw [List.getElem?_map, List.getElem?_eq_getElem hia] at hv
      obtain rfl : v = .ref as[i] := (Option.some.inj hv).symm
      have ha := B'.same _ _ (hps.at_ i _ _ (List.getElem?_eq_getElem hia) (List.getElem?_eq_getElem hip))
      obtain ⟨k1, k2⟩ := hall _ (List.getElem_mem hip)
      have hlf : (gs ++ fs).length = n + m + 2 * i := by rw [List.length_append, hg, hfs]
      have hwf : (gs ++ fs)[n - 1]? = some d := at_old hw
      have hle := sumP_le ps (i + 1)
      rw [sumP_take ps (List.getElem?_eq_getElem hip)] at hle
      have hcl : (catP d (ps.take i)).length = sumP (ps.take i) := catP_len d _ fun p hp => (hall p (List.mem_of_mem_take hp)).1
      have l1 := cutL_len (d := d) (a := ps[i].1) (b := ps[i].1 + ps[i].2) (by omega) k1
      refine ⟨_, rfl, as[i], _, _, _, rfl, rfl, SqT.of ha, atI_nat (j := 0) rfl, rfl, _, rfl, ifN wcl ?_⟩
      refine ⟨_, rfl, as[i], _, _, _, rfl, rfl, SqT.of ha, atI_nat (j := 1) rfl, rfl, _, rfl, ifP rfl ?_⟩
      refine ⟨_, rfl, mB B' (by decide +kernel) (by decide +kernel) ⟨_, rfl, _, rfl, as[i], _, _, _, rfl, rfl, SqT.of ha, atI_nat (j := 2) rfl, _, rfl, as[i], _, _, _, rfl, rfl, SqT.of ha, atI_nat (j := 2) rfl, _, rfl, as[i], _, _, _, rfl, rfl, SqT.of ha, atI_nat (j := 3) rfl, _, _, rfl, rfl, ?_⟩⟩
      refine ⟨H, b, r, l, gs ++ fs, n - 1, ps[i].1, ps[i].1 + ps[i].2, d, ?_, B', hwf, by omega, k1, by omega, fun H3 B3 => ?_⟩
      · show [V.ref b, V.int ((n - 1 : Nat) : Int), V.int (ps[i].1 : Int), V.int ((ps[i].1 : Int) + (ps[i].2 : Int))] = _
        rw [Int.natCast_add]
      refine ⟨_, rfl, mB B3 (by decide +kernel) (by decide +kernel) ⟨_, rfl, _, rfl, H, b, r, l, _, n + m + 2 * i - 1, (gs ++ fs).length, e ++ catP d (ps.take i), cutL d ps[i].1 (ps[i].1 + ps[i].2), rfl, B3, at_old hlast', at_new, ?_, ?_, fun H4 B4 => ?_⟩⟩
      · rw [List.length_append, hcl, l1]; omega
      · rw [List.length_append, hlf]
        show n + m + 2 * i + 1 ≤ 1000
        omega
      have hl5 : (gs ++ fs ++ [cutL d ps[i].1 (ps[i].1 + ps[i].2)]).length = n + m + 2 * (i + 1) - 1 := by
        rw [List.length_append, hlf]
        show n + m + 2 * i + 1 = _
        omega
      refine ⟨fs ++ [cutL d ps[i].1 (ps[i].1 + ps[i].2)] ++ [(e ++ catP d (ps.take i)) ++ cutL d ps[i].1 (ps[i].1 + ps[i].2)], some (.ref as[i]), some (.int (((gs ++ fs).length : Nat) : Int)), ?_, ?_, ?_, ?_⟩
      · rw [← hl5]
        rfl
      · rw [← List.append_assoc, ← List.append_assoc]
        exact B4
      · simp only [List.length_append, List.length_singleton, hfs]
        omega
      · rw [← List.append_assoc, ← List.append_assoc, ← hl5, catP_take d ps (List.getElem?_eq_getElem hip), ← List.append_assoc]
        exact at_new
    · rintro σ H' ⟨fs, v6, v7, rfl, B', hfs, hlast'⟩
      have ek : (as.map V.ref).length = ps.length := by rw [List.length_map, hps.len]
      rw [ek] at hfs hlast'
      rw [List.take_length] at hlast'
      have hlf : (gs ++ fs).length = n + m + 2 * ps.length := by rw [List.length_append, hg, hfs]
      refine ⟨_, rfl, fin T B' (d := e ++ catP d ps) ?_ (by omega) fun z H2 s2 hz => q z _ H2 s2 hz⟩
      rw [List.getLast?_eq_getElem?, hlf]
      exact hlast'
/-! ### apply_phrases -/
def spAp (C : Addr) : Sp := fun vs H Q _ => ∃ (x t : Addr) (n : Nat) (d : L) (as : List Addr) (ps : List Ph), vs = [.ref x, .ref t] ∧ TxtAt C H x n d ∧ H t = some (.lst (as.map V.ref)) ∧ PhAt H as ps ∧ (∀ p ∈ ps, p.1 + p.2 ≤ d.length ∧ 1 ≤ p.2) ∧ sumP ps ≤ MX ∧ ps.length ≤ 10 ∧ n ≤ 39 ∧
  ∀ z k H', Same H H' → TxtAt C H' z k (catP d ps) → Q (.ref z) H'
theorem ok_Ap (T : Tx w K mg C D Z) (GCh : Fc P w K mg base 2 "check_phrases" ["text", "phrases"] (spCh C)) (GTo : Fcm P w K mg base 6 "Text" C "of_letters" ["cls", "letters"] (spTo C)) (GSp : Fc P w K mg base 8 "spelled_on" ["text", "spelled", "phrases"] (spSp C)) (F : Df K mg "apply_phrases" sAp) : Fc P w K mg base 9 "apply_phrases" ["text", "phrases"] (spAp C) := by
  refine fc_of F (fun _ _ _ _ _ _ us hl => match us, hl with | [_, _], _ => rfl) scAp (fun vs H Q E h => ?_) (fun f cdv A outer st H vs Q E hr h => ?_)
  · obtain ⟨x, t, n, d, as, ps, rfl, _⟩ := h
    rfl
  · obtain ⟨x, t, n, d, as, ps, rfl, X, ht, hps, hall, hsum, h10, hn, q⟩ := h
    refine ⟨_, (pss_cons (ps_expr (pe_c GCh (hr.mono (by decide)) (pa_cons (pv 0) (pa_cons (pv 1) pa_nil))))
      (pss_cons (ps_set (i := 2) scAp.nd rfl (by first | exact Or.inl rfl | exact Or.inr rfl) (pe_cm GTo (hr.mono (by decide)) (pa_cons pe_str pa_nil)))
      (pss_cons (ps_for PassesOwn.never rfl (pi_range3 rfl T.range_ (pa_cons pe_int (pa_cons (pe_callB (id := "len") (call_lenK K) (by rfl) T.len_ (by decide +kernel) (pa_cons (pv 1) pa_nil)) (pa_cons (pe_gi T.MOST_AT_ONCE) pa_nil)))) (pg_name (i := 3) scAp.nd rfl (Or.inl rfl)) (pss_one (ps_set (i := 2) scAp.nd rfl (by first | exact Or.inl rfl | exact Or.inr rfl) (pe_c GSp (hr.mono (by decide)) (pa_cons (pv 0) (pa_cons (pv 2) (pa_cons (pe_slice sl_list (pv 1) (po_some (pv 3)) (po_some (pe_op op_add (pv 3) (pe_gi T.MOST_AT_ONCE)))) pa_nil)))))))
      (pss_one (ps_ret (pv 2)))))), ?_⟩
    refine ⟨_, rfl, _, rfl, x, t, n, d, as, ps, rfl, X, ht, hps, hall, hsum, fun H1 s1 => ?_⟩
    refine ⟨[], ?_, by decide, by decide, fun y H2 s2 Y => ?_⟩
    · rw [S_nil]
    have s12 := s1.trans s2
    have ek : (as.map V.ref).length = ps.length := by rw [List.length_map, hps.len]
    have rg := rg10 ps.length h10
    refine ⟨_, rfl, t, _, rfl, .inl (SqL.of (s12 _ _ ht)), 0, ((as.map V.ref).length : Int), 10, if ps.length = 0 then 0 else 1, rfl, by rw [ek]; exact rg, ?_⟩
    refine for_it walk_rangeC (fun i σ H' => ∃ z k v3, σ = [some (.ref x), some (.ref t), some (.ref z), v3] ∧ Same H H' ∧ TxtAt C H' z k (if i = 0 then [] else catP d ps) ∧ (i = 0 → k = 1)) ⟨y, 1, none, rfl, s12, Y, fun _ => rfl⟩ (fun _ _ _ _ _ => trivial) ?_ ?_
    · rintro i v σ H3 H4 hi ⟨z, k, v3, rfl, s3, Zt, hk⟩ ⟨rfl, rfl⟩
      have hi0 : i = 0 := by
        split at hi <;> omega
      subst hi0
      obtain rfl := hk rfl
      refine ⟨_, rfl, _, rfl, _, rfl, _, rfl, _, rfl, _, rfl, _, _, rfl, rfl, _, rfl, t, _, rfl, SqL.of (s3 _ _ ht), fun t2 ht2 => ?_⟩
      have s4 : Same H (upd H4 t2 (.lst (cutV (as.map V.ref) (some (0 + ((0 : Nat) : Int) * 10)) (some (0 + ((0 : Nat) : Int) * 10 + 10))))) := s3.trans (same_upd ht2)
      refine ⟨x, z, t2, n, 1, d, [], as, ps, rfl, X.gro (sGro s4), Zt.gro (sGro (same_upd ht2)), ?_, hps.same s4, hall, by rw [List.length_nil, Nat.zero_add]; exact hsum, h10, by omega, fun z' k' H5 s5 Z' => ?_⟩
      · rw [upd_same, cutV10 _ (by rw [ek]; exact h10)]
      · exact ⟨z', k', _, rfl, s4.trans s5, Z', fun z => absurd z (by omega)⟩
    · rintro σ H' ⟨z, k, v3, rfl, s3, Zt, hk⟩
      refine ⟨_, rfl, q z k H' s3 ?_⟩
      by_cases h0 : ps.length = 0
      · rw [if_pos h0, if_pos rfl] at Zt
        obtain rfl := List.eq_nil_of_length_eq_zero h0
        exact Zt
      · rw [if_neg h0, if_neg (by omega)] at Zt
        exact Zt
end
end Sh
set_option Elab.async false
set_option linter.all false
set_option maxRecDepth 100000
set_option maxHeartbeats 4000000
namespace Sh
open PySem PySem.Spec PyProof.Rows L2
open SX (S)
/-- the law's pool of numbers -/
structure PoolA (H : Hp) (p c : Addr) (cells : List Int) (i r s : Int) : Prop where
  at_ : H p = some (.lst [.ref c, .int i, .int r, .int s])
  cs : H c = some (.lst (cells.map V.int))
  i0 : 0 ≤ i
  s0 : 0 ≤ s
  s1 : s < 2147483647
def Pool (H : Hp) (p c : Addr) : Prop := ∃ cells i r s, PoolA H p c cells i r s
section
variable {H H' : Hp} {p c : Addr} {cells : List Int} {i r s : Int}
theorem PoolA.ne (h : PoolA H p c cells i r s) : c ≠ p := by
  intro e
  have h1 := h.cs
  rw [e, h.at_] at h1
  cases cells with
  | nil => cases h1
  | cons a b => cases h1
theorem PoolA.put (h : PoolA H p c cells i r s) {i' r' s' : Int} (i0 : 0 ≤ i') (s0 : 0 ≤ s') (s1 : s' < 2147483647) : PoolA (upd H p (.lst [.ref c, .int i', .int r', .int s'])) p c cells i' r' s' :=
  ⟨upd_same, by rw [upd_ne h.ne]; exact h.cs, i0, s0, s1⟩
theorem PoolA.any (h : PoolA H p c cells i r s) : Pool H p c := ⟨cells, i, r, s, h⟩
theorem Pool.same (h : Pool H p c) (s : Same H H') : Pool H' p c := by
  obtain ⟨cells, i, r, t, h⟩ := h
  exact ⟨cells, i, r, t, s _ _ h.at_, s _ _ h.cs, h.i0, h.s0, h.s1⟩
theorem Pool.put {l : Addr} {o : HO} (h : Pool H p c) (n1 : l ≠ p) (n2 : l ≠ c) : Pool (upd H l o) p c := by
  obtain ⟨cells, i, r, t, h⟩ := h
  exact ⟨cells, i, r, t, by rw [upd_ne n1.symm]; exact h.at_, by rw [upd_ne n2.symm]; exact h.cs, h.i0, h.s0, h.s1⟩
theorem Pool.fr {l : Addr} (h : Pool H p c) (n : H l = none) : l ≠ p ∧ l ≠ c := by
  obtain ⟨cells, i, r, t, h⟩ := h
  exact ⟨(ne_of_none h.at_ n).symm, (ne_of_none h.cs n).symm⟩
theorem Pool.lst (h : Pool H p c) : ∃ xs, H p = some (.lst xs) := by
  obtain ⟨cells, i, r, t, h⟩ := h
  exact ⟨_, h.at_⟩
end
theorem emod_nat (a : Int) {m : Nat} (h : 1 ≤ m) : ∃ d : Nat, a.fmod (m : Int) = (d : Int) ∧ d < m := by
  have e : a.fmod (m : Int) = a % (m : Int) := Int.fmod_eq_emod_of_nonneg a (by omega)
  have h0 := Int.emod_nonneg a (show (m : Int) ≠ 0 by omega)
  have h1 := Int.emod_lt_of_pos a (show 0 < (m : Int) by omega)
  exact ⟨(a % (m : Int)).toNat, by rw [e]; omega, by omega⟩
theorem pow18 : (10 : Int) ^ (18 : Int).toNat = 1000000000000000000 := by decide +kernel
section
variable {P : Program} {w : World} {K : PySem.W.Frag} {mg : Str → Option Value} {base : Heap} {C D Z : Addr}
/-! ### _law_take -/
def spLt0 : Sp := fun vs H Q _ => ∃ (p c : Addr) (cells : List Int) (i r s : Int) (m : Nat), vs = [.ref p, .int (m : Int)] ∧ PoolA H p c cells i r s ∧ 0 < r ∧ 1 ≤ m ∧ m ≤ 10000000000000 ∧ ∀ H' (d : Nat), Pool H' p c → Keep p H H' → d < m → Q (.int (d : Int)) H'
def spLt : Sp := fun vs H Q _ => ∃ (p c : Addr) (m : Nat), vs = [.ref p, .int (m : Int)] ∧ Pool H p c ∧ 1 ≤ m ∧ m ≤ 10000000000000 ∧ ∀ H' (d : Nat), Pool H' p c → Keep p H H' → d < m → Q (.int (d : Int)) H'
theorem ok_Lt0 (T : Tx w K mg C D Z) (F : Df K mg "_law_take" sLt) : Fc P w K mg base 1 "_law_take" ["_law_pool_here", "_law_many"] spLt0 := by
  refine fc_of F (fun _ _ _ _ _ _ us hl => match us, hl with | [_, _], _ => rfl) scLt (fun vs H Q E h => ?_) (fun f cdv A outer st H vs Q E hr h => ?_)
  · obtain ⟨p, c, cells, i, r, s, m, rfl, _⟩ := h
    rfl
  · obtain ⟨p, c, cells, i, r, s, m, rfl, hp, hr0, m1, m2, q⟩ := h
    refine ⟨_, (pss_cons (ps_if (pt_cmpR op_gt (pe_ix ix_list (pv 0) pe_int (fun _ _ => rfl)) pe_int (nomark _)) (pss_cons (ps_set (i := 2) scLt.nd rfl (by first | exact Or.inl rfl | exact Or.inr rfl) (pe_op op_modN (pe_callTy (T := "int") call_int1 (by rfl) T.int_ (by decide +kernel) (pa_cons (pe_ix ix_list (pv 0) pe_int (fun _ _ => rfl)) pa_nil)) (pv 1)))
      (pss_cons (ps_asg (pe_op op_fdivW (pe_ix ix_list (pv 0) pe_int (fun _ _ => rfl)) (pv 1)) (pg_sub (pv 0) pe_int set_list))
      (pss_one (ps_ret (pv 2))))) pss_nil)
      (pss_cons (ps_set (i := 3) scLt.nd rfl (by first | exact Or.inl rfl | exact Or.inr rfl) pe_int)
      (pss_cons (ps_if (pt_cmpR op_lt (pe_ix ix_list (pv 0) pe_int (fun _ _ => rfl)) (pe_callB (id := "len") (call_lenK K) (by rfl) T.len_ (by decide +kernel) (pa_cons (pe_ix ix_list (pv 0) pe_int (fun _ _ => rfl)) pa_nil)) (nomark _)) (pss_one (ps_set (i := 3) scLt.nd rfl (by first | exact Or.inl rfl | exact Or.inr rfl) (pe_ix ix_list (pe_ix ix_list (pv 0) pe_int (fun _ _ => rfl)) (pe_ix ix_list (pv 0) pe_int (fun _ _ => rfl)) (fun _ _ => rfl)))) pss_nil)
      (pss_cons (ps_asg (pe_op op_add (pe_ix ix_list (pv 0) pe_int (fun _ _ => rfl)) pe_int) (pg_sub (pv 0) pe_int set_list))
      (pss_cons (ps_if (pt_cmpR op_ge (pv 3) (pe_op op_pow pe_int pe_int) (nomark _)) (pss_cons (ps_asg (pe_op op_fdivW (pv 3) pe_int) (pg_sub (pv 0) pe_int set_list))
      (pss_one (ps_ret pe_no))) pss_nil)
      (pss_cons (ps_asg (pe_op op_modN (pe_callTy (T := "int") call_int1 (by rfl) T.int_ (by decide +kernel) (pa_cons (pe_op op_add (pe_op op_add (pe_op op_mul (pe_ix ix_list (pv 0) pe_int (fun _ _ => rfl)) pe_int) (pe_op op_mul (pv 3) pe_int)) (pe_op op_mul (pe_ix ix_list (pv 0) pe_int (fun _ _ => rfl)) pe_int)) pa_nil)) pe_int) (pg_sub (pv 0) pe_int set_list))
      (pss_cons (ps_set (i := 4) scLt.nd rfl (by first | exact Or.inl rfl | exact Or.inr rfl) (pe_op op_modN (pe_callTy (T := "int") call_int1 (by rfl) T.int_ (by decide +kernel) (pa_cons (pe_op op_add (pe_op op_add (pe_op op_mul (pe_ix ix_list (pv 0) pe_int (fun _ _ => rfl)) (pe_ix ix_list (pv 0) pe_int (fun _ _ => rfl))) (pe_op op_mul (pe_ix ix_list (pv 0) pe_int (fun _ _ => rfl)) pe_int)) pe_int) pa_nil)) pe_int))
      (pss_one (ps_ret (pe_op op_modN (pe_callTy (T := "int") call_int1 (by rfl) T.int_ (by decide +kernel) (pa_cons (pe_op op_fdivW (pv 4) pe_int) pa_nil)) (pv 1))))))))))), ?_⟩
    refine ⟨_, rfl, p, _, _, _, rfl, rfl, SqL.of hp.at_, atI_nat (j := 2) rfl, _, _, rfl, rfl, _, rfl, ifP (show r > 0 by omega) ?_⟩
    obtain ⟨d, e, hd⟩ := emod_nat r m1
    refine ⟨_, rfl, p, _, _, _, rfl, rfl, SqL.of hp.at_, atI_nat (j := 2) rfl, .inl ⟨_, rfl, _, rfl, _, _, rfl, rfl, by omega, ?_⟩⟩
    refine ⟨_, rfl, p, _, _, _, rfl, rfl, SqL.of hp.at_, atI_nat (j := 2) rfl, _, rfl, _, _, rfl, rfl, wide_div (b := 64) (by omega) (by rw [Int.natAbs_natCast]; omega) (by decide) (by decide), _, rfl, p, _, 2, 2, rfl, rfl, hp.at_, rfl, ?_⟩
    refine ⟨_, rfl, ?_⟩
    show Q (.int (r.fmod (m : Int))) _
    rw [e]
    exact q _ d (hp.put hp.i0 hp.s0 hp.s1).any Keep.upd hd
theorem ok_Lt (T : Tx w K mg C D Z) (GLt : Fc P w K mg base 1 "_law_take" ["_law_pool_here", "_law_many"] spLt0) (F : Df K mg "_law_take" sLt) : Fc P w K mg base 2 "_law_take" ["_law_pool_here", "_law_many"] spLt := by
  refine fc_of F (fun _ _ _ _ _ _ us hl => match us, hl with | [_, _], _ => rfl) scLt (fun vs H Q E h => ?_) (fun f cdv A outer st H vs Q E hr h => ?_)
  · obtain ⟨p, c, m, rfl, _⟩ := h
    rfl
  · obtain ⟨p, c, m, rfl, ⟨cells, i, r, s, hp⟩, m1, m2, q⟩ := h
    refine ⟨_, (pss_cons (ps_if (pt_cmpR op_gt (pe_ix ix_list (pv 0) pe_int (fun _ _ => rfl)) pe_int (nomark _)) (pss_cons (ps_set (i := 2) scLt.nd rfl (by first | exact Or.inl rfl | exact Or.inr rfl) (pe_op op_modN (pe_callTy (T := "int") call_int1 (by rfl) T.int_ (by decide +kernel) (pa_cons (pe_ix ix_list (pv 0) pe_int (fun _ _ => rfl)) pa_nil)) (pv 1)))
      (pss_cons (ps_asg (pe_op op_fdivW (pe_ix ix_list (pv 0) pe_int (fun _ _ => rfl)) (pv 1)) (pg_sub (pv 0) pe_int set_list))
      (pss_one (ps_ret (pv 2))))) pss_nil)
      (pss_cons (ps_set (i := 3) scLt.nd rfl (by first | exact Or.inl rfl | exact Or.inr rfl) pe_int)
      (pss_cons (ps_if (pt_cmpR op_lt (pe_ix ix_list (pv 0) pe_int (fun _ _ => rfl)) (pe_callB (id := "len") (call_lenK K) (by rfl) T.len_ (by decide +kernel) (pa_cons (pe_ix ix_list (pv 0) pe_int (fun _ _ => rfl)) pa_nil)) (nomark _)) (pss_one (ps_set (i := 3) scLt.nd rfl (by first | exact Or.inl rfl | exact Or.inr rfl) (pe_ix ix_list (pe_ix ix_list (pv 0) pe_int (fun _ _ => rfl)) (pe_ix ix_list (pv 0) pe_int (fun _ _ => rfl)) (fun _ _ => rfl)))) pss_nil)
      (pss_cons (ps_asg (pe_op op_add (pe_ix ix_list (pv 0) pe_int (fun _ _ => rfl)) pe_int) (pg_sub (pv 0) pe_int set_list))
      (pss_cons (ps_if (pt_cmpR op_ge (pv 3) (pe_op op_pow pe_int pe_int) (nomark _)) (pss_cons (ps_asg (pe_op op_fdivW (pv 3) pe_int) (pg_sub (pv 0) pe_int set_list))
      (pss_one (ps_ret (pe_c GLt (hr.mono (by decide)) (pa_cons (pv 0) (pa_cons (pv 1) pa_nil)))))) pss_nil)
      (pss_cons (ps_asg (pe_op op_modN (pe_callTy (T := "int") call_int1 (by rfl) T.int_ (by decide +kernel) (pa_cons (pe_op op_add (pe_op op_add (pe_op op_mul (pe_ix ix_list (pv 0) pe_int (fun _ _ => rfl)) pe_int) (pe_op op_mul (pv 3) pe_int)) (pe_op op_mul (pe_ix ix_list (pv 0) pe_int (fun _ _ => rfl)) pe_int)) pa_nil)) pe_int) (pg_sub (pv 0) pe_int set_list))
      (pss_cons (ps_set (i := 4) scLt.nd rfl (by first | exact Or.inl rfl | exact Or.inr rfl) (pe_op op_modN (pe_callTy (T := "int") call_int1 (by rfl) T.int_ (by decide +kernel) (pa_cons (pe_op op_add (pe_op op_add (pe_op op_mul (pe_ix ix_list (pv 0) pe_int (fun _ _ => rfl)) (pe_ix ix_list (pv 0) pe_int (fun _ _ => rfl))) (pe_op op_mul (pe_ix ix_list (pv 0) pe_int (fun _ _ => rfl)) pe_int)) pe_int) pa_nil)) pe_int))
      (pss_one (ps_ret (pe_op op_modN (pe_callTy (T := "int") call_int1 (by rfl) T.int_ (by decide +kernel) (pa_cons (pe_op op_fdivW (pv 4) pe_int) pa_nil)) (pv 1))))))))))), ?_⟩
    have i0 := hp.i0
    have pg : decide (i < (((cells.map V.int).length : Nat) : Int)) = true → atI (cells.map V.int) i = some (.int (cells.getD i.toNat 0)) := by
      intro h2
      have h2 := of_decide_eq_true h2
      rw [List.length_map] at h2
      refine at_int (j := i.toNat) (by omega) ?_
      rw [List.getElem?_map, List.getD_eq_getElem?_getD, List.getElem?_eq_getElem (by omega)]
      rfl
    refine ⟨_, rfl, p, _, _, _, rfl, rfl, SqL.of hp.at_, atI_nat (j := 2) rfl, _, _, rfl, rfl, _, rfl, ite2 (fun h => ?_) (fun h => ?_)⟩
    · obtain ⟨d, e, hd⟩ := emod_nat r m1
      refine ⟨_, rfl, p, _, _, _, rfl, rfl, SqL.of hp.at_, atI_nat (j := 2) rfl, .inl ⟨_, rfl, _, rfl, _, _, rfl, rfl, by omega, ?_⟩⟩
      refine ⟨_, rfl, p, _, _, _, rfl, rfl, SqL.of hp.at_, atI_nat (j := 2) rfl, _, rfl, _, _, rfl, rfl, wide_div (b := 64) (by omega) (by rw [Int.natAbs_natCast]; omega) (by decide) (by decide), _, rfl, p, _, 2, 2, rfl, rfl, hp.at_, rfl, ?_⟩
      refine ⟨_, rfl, ?_⟩
      show Q (.int (r.fmod (m : Int))) _
      rw [e]
      exact q _ d (hp.put hp.i0 hp.s0 hp.s1).any Keep.upd hd
    · refine ⟨_, rfl, p, _, _, _, rfl, rfl, SqL.of hp.at_, atI_nat (j := 1) rfl, _, rfl, p, _, _, _, rfl, rfl, SqL.of hp.at_, atI_nat (j := 0) rfl, c, _, rfl, .inl (SqL.of hp.cs), _, _, rfl, rfl, _, rfl, ite2 (fun h2 => ⟨_, rfl, p, _, _, _, rfl, rfl, SqL.of hp.at_, atI_nat (j := 0) rfl, _, rfl, p, _, _, _, rfl, rfl, SqL.of hp.at_, atI_nat (j := 1) rfl, c, _, _, _, rfl, rfl, SqL.of hp.cs, pg h2, ?_⟩) (fun h2 => ?_)⟩
      all_goals
        refine ⟨_, rfl, p, _, _, _, rfl, rfl, SqL.of hp.at_, atI_nat (j := 1) rfl, _, _, rfl, rfl, _, rfl, p, _, 1, 1, rfl, rfl, hp.at_, rfl, ?_⟩
        have hp1 := hp.put (i' := i + 1) (r' := r) (by omega) hp.s0 hp.s1
        refine ⟨_, rfl, _, _, rfl, rfl, ⟨by decide, by decide, by decide⟩, _, _, rfl, rfl, _, rfl, ite2 (fun h3 => ?_) (fun h3 => ?_)⟩
        · have h3 := of_decide_eq_true h3
          rw [pow18] at h3
          refine ⟨_, rfl, _, _, rfl, rfl, wide_div (b := 64) (by decide) (by decide) (by decide) (by decide), _, rfl, p, _, 2, 2, rfl, rfl, hp1.at_, rfl, ?_⟩
          have hp2 := fun r' => hp1.put (r' := r') hp1.i0 hp1.s0 hp1.s1
          refine ⟨_, rfl, _, rfl, p, c, cells, _, _, _, m, rfl, hp2 _, by omega, m1, m2, fun H' d h4 k h5 => q H' d h4 ((Keep.upd.trans Keep.upd).trans k) h5⟩
        · refine ⟨_, rfl, p, _, _, _, rfl, rfl, SqL.of hp1.at_, atI_nat (j := 3) rfl, _, _, rfl, rfl, .inr ⟨by decide, by decide⟩, _, rfl, _, _, rfl, rfl, .inr ⟨by decide, by decide⟩, _, _, rfl, rfl, _, rfl, p, _, _, _, rfl, rfl, SqL.of hp1.at_, atI_nat (j := 1) rfl, _, _, rfl, rfl, .inr ⟨by decide, by decide⟩, _, _, rfl, rfl, .inl ⟨_, rfl, _, _, rfl, rfl, by show (2147483647 : Int) ≠ 0; decide, _, rfl, p, _, 3, 3, rfl, rfl, hp1.at_, rfl, ?_⟩⟩
          have hs : ∀ a : Int, 0 ≤ a.fmod 2147483647 ∧ a.fmod 2147483647 < 2147483647 := fun a => by
            obtain ⟨d, e, hd⟩ := emod_nat a (m := 2147483647) (by decide)
            rw [show ((2147483647 : Nat) : Int) = 2147483647 from rfl] at e
            omega
          have hp2 := fun a => hp1.put (r' := r) (s' := Int.fmod a 2147483647) hp1.i0 (hs a).1 (hs a).2
          have cm : ∀ a b : Int, CMul (Int.fmod a 2147483647) b := fun a b => .inl ⟨by have := hs a; omega, by have := hs a; omega⟩
          refine ⟨_, rfl, p, _, _, _, rfl, rfl, SqL.of (hp2 _).at_, atI_nat (j := 3) rfl, _, rfl, p, _, _, _, rfl, rfl, SqL.of (hp2 _).at_, atI_nat (j := 3) rfl, _, _, rfl, rfl, cm _ _, ?_⟩
          refine ⟨_, rfl, p, _, _, _, rfl, rfl, SqL.of (hp2 _).at_, atI_nat (j := 3) rfl, _, _, rfl, rfl, .inr ⟨by decide, by decide⟩, _, _, rfl, rfl, _, _, rfl, rfl, .inl ⟨_, rfl, _, _, rfl, rfl, by show (1000000007 : Int) ≠ 0; decide, ?_⟩⟩
          refine ⟨_, rfl, _, _, rfl, rfl, wide_div (b := 64) (by decide) (by decide) (by decide) (by decide), .inl ⟨_, rfl, _, rfl, _, _, rfl, rfl, by omega, ?_⟩⟩
          have e := fun X : Int => (emod_nat X m1).choose_spec
          show Q (.int (Int.fmod _ (m : Int))) _
          rw [(e _).1]
          exact q _ _ (hp2 _).any (Keep.upd.trans Keep.upd) (e _).2
end
end Sh
set_option Elab.async false
set_option linter.all false
set_option maxRecDepth 100000
set_option maxHeartbeats 4000000
namespace Sh
open PySem PySem.Spec PyProof.Rows L2
open SX (S)
theorem SqL.sm {K : PySem.W.Frag} {H H' : Hp} {a : Addr} {xs : List V} (h : SqL K H a xs) (e : Same H H') : SqL K H' a xs := h.elim (fun r => .inl (r.elim (fun h => .inl (e _ _ h)) (fun ⟨o, h⟩ => .inr ⟨o, e _ _ h⟩))) .inr
theorem Keep.mut {p l : Addr} {H H' : Hp} {o : HO} (k : Keep p H H') (h : H l = none) : Keep p H (L2.upd H' l o) := fun b u e n => by
  rw [upd_ne (ne_of_none e h)]
  exact k b u e n
theorem Keep.same {p : Addr} {H H' H2 : Hp} (k : Keep p H H') (s : Same H' H2) : Keep p H H2 := fun b u e n => s _ _ (k b u e n)
theorem S_ne {z : L} (h : z ≠ []) : ¬ (V.str (S z) = V.str "") := by
  intro e
  have e1 : S z = S [] := by
    rw [S_nil]
    exact V.str.inj e
  exact h (SX.S_inj e1)
section
variable {P : Program} {w : World} {K : PySem.W.Frag} {mg : Str → Option Value} {base : Heap} {C D Z : Addr}
/-! ### _law_pool -/
def spLp (K : PySem.W.Frag) : Sp := fun vs H Q _ => ∃ (a : Addr) (ns : List Int), vs = [.ref a] ∧ SqL K H a (ns.map V.int) ∧ ns.length ≤ 1000 ∧ ∀ H' p c, Same H H' → Pool H' p c → H p = none → Q (.ref p) H'
theorem ok_Lp (T : Tx w K mg C D Z) (F : Df K mg "_law_pool" sLp) : Fc P w K mg base 1 "_law_pool" ["_law_script"] (spLp K) := by
  refine fc_of F (fun _ _ _ _ _ _ us hl => match us, hl with | [_], _ => rfl) scLp (fun vs H Q E h => ?_) (fun f cdv A outer st H vs Q E hr h => ?_)
  · obtain ⟨a, ns, rfl, _⟩ := h
    rfl
  · obtain ⟨a, ns, rfl, ha, hn, q⟩ := h
    refine ⟨_, (pss_one (ps_ret (pe_lst (pa_cons (pe_lc (own := [("_law_cell", 1)]) (g := gName 1) (tt := tYes) rfl scLp.nd (pi_list (pv 0)) (blkOk_by (N := ["_law_script", "_law_cell"]) (sc := defScope sLp) (by decide +kernel)) (fun _ _ _ _ _ => pg_name (i := 1) scLp.nd rfl (Or.inl rfl)) (fun _ _ _ _ _ => pts_nil) (fun _ _ _ _ _ => (pe_ifExp (pt_cmpR op_ge (pv 1) pe_int (nomark _)) (pe_op op_mul pe_int (pv 1)) (pe_op op_sub (pe_op op_mul (pe_un un_neg pe_int) (pv 1)) pe_int)))) (pa_cons pe_int (pa_cons pe_int (pa_cons pe_int pa_nil))))))), ?_⟩
    refine ⟨_, rfl, a, rfl, ⟨_, ha⟩, fun l hl => ?_⟩
    refine lc_it (walk_list (K := K) (a := a) (xs := ns.map V.int)) (fun i H' => ∃ zs : List Int, Same H H' ∧ H' l = some (.lst (zs.map V.int)) ∧ zs.length = i) ⟨[], same_upd hl, upd_same, rfl⟩ (fun i H' _ ⟨_, s1, _⟩ => SqL.sm ha s1) ?_ ?_
    · rintro i x H1 H2 hi ⟨zs, s1, h1, hz⟩ ⟨rfl, hx⟩
      rw [List.length_map] at hi
      rw [List.getElem?_map, List.getElem?_eq_getElem hi] at hx
      obtain rfl : x = .int ns[i] := (Option.some.inj hx).symm
      have fin : ∀ v : Int, ∃ zs : List Int, Same H (upd H2 l (.lst (zs.map V.int))) ∧ (upd H2 l (.lst (zs.map V.int))) l = some (.lst (zs.map V.int)) ∧ zs.length = i + 1 := fun v => ⟨zs.take 0 ++ zs ++ [v], sMut s1 hl, upd_same, by simp [hz]⟩
      refine ⟨rfl, ?_⟩
      dsimp only [tYes]
      rw [if_pos rfl]
      have hlt : (zs.map V.int).length < sizeLine := by
        rw [List.length_map]
        exact szl (by omega)
      refine ⟨_, rfl, _, _, rfl, rfl, _, rfl, ite2 (fun h => ?_) (fun h => ?_)⟩
      · refine ⟨_, rfl, _, _, rfl, rfl, .inl ⟨by decide, by decide⟩, _, h1, hlt, zs ++ [2 * ns[i]], sMut s1 hl, ?_, by simp [hz]⟩
        rw [upd_same, List.map_append]
        rfl
      · refine ⟨_, rfl, _, rfl, _, _, rfl, rfl, .inl ⟨by decide, by decide⟩, _, _, rfl, rfl, _, h1, hlt, zs ++ [-2 * ns[i] - 1], sMut s1 hl, ?_, by simp [hz]⟩
        rw [upd_same, List.map_append]
        rfl
    · rintro H1 ⟨zs, s1, h1, _⟩
      refine ⟨by show 4 ≤ sizeLine; decide, fun p hp => ?_⟩
      exact q _ p l (s1.trans (same_upd hp)) ⟨zs, 0, 0, 17, upd_same, by rw [upd_ne (ne_of_none h1 hp)]; exact h1, by decide, by decide, by decide⟩ (s1.free hp)
/-! ### _law_number -/
theorem ok_Ln (T : Tx w K mg C D Z) (GLt : Fc P w K mg base 2 "_law_take" ["_law_pool_here", "_law_many"] spLt) (F : Df K mg "_law_number" sLn) : Fc P w K mg base 3 "_law_number" ["_law_pool_here", "_law_many"] spLt := by
  refine fc_of F (fun _ _ _ _ _ _ us hl => match us, hl with | [_, _], _ => rfl) scLn (fun vs H Q E h => ?_) (fun f cdv A outer st H vs Q E hr h => ?_)
  · obtain ⟨p, c, m, rfl, _⟩ := h
    rfl
  · obtain ⟨p, c, m, rfl, hp, m1, m2, q⟩ := h
    refine ⟨_, (pss_cons (ps_if (pt_cmpR op_gt (pe_c GLt (hr.mono (by decide)) (pa_cons (pv 0) (pa_cons pe_int pa_nil))) pe_int (nomark _)) (pss_one (ps_ret (pe_op op_sub (pv 1) pe_int))) pss_nil)
      (pss_one (ps_ret (pe_c GLt (hr.mono (by decide)) (pa_cons (pv 0) (pa_cons (pv 1) pa_nil)))))), ?_⟩
    refine ⟨_, rfl, p, c, 3, rfl, hp, by decide, by decide, fun H1 d p1 k1 d1 => ?_⟩
    refine ⟨_, _, rfl, rfl, _, rfl, ite2 (fun h => ?_) (fun h => ?_)⟩
    · refine ⟨_, rfl, _, _, rfl, rfl, ?_⟩
      show Q (.int ((m : Int) - 1)) _
      rw [show (m : Int) - 1 = ((m - 1 : Nat) : Int) by omega]
      exact q _ _ p1 k1 (by omega)
    · refine ⟨_, rfl, _, rfl, p, c, m, rfl, p1, m1, m2, fun H2 d p2 k2 d2 => ?_⟩
      exact q _ _ p2 (k1.trans k2) d2
/-! ### _law_made -/
def txs (ds : List L) : List V := ds.map fun d => V.str (S d)
theorem txs_at {ds : List L} {i : Nat} (h : i < ds.length) : atI (txs ds) (i : Int) = some (.str (S (ds.getD i []))) := by
  refine atI_nat ?_
  unfold txs
  rw [List.getElem?_map, List.getD_eq_getElem?_getD, List.getElem?_eq_getElem h]
  rfl
theorem txs_len (ds : List L) : (txs ds).length = ds.length := by
  unfold txs
  rw [List.length_map]
def spLm : Sp := fun vs H Q _ => ∃ (t a : Addr) (r : Ru) (ds : List L), vs = [.ref t, .ref a] ∧ H t = some (.lst (txs ds)) ∧ H a = some (.tup r.vs) ∧ r.ok ds.length ds ∧ (r.den ds).length ≤ 200 ∧ (∀ d ∈ ds, d.length ≤ 200) ∧ Q (.str (S (r.den ds))) H
theorem ok_Lm (T : Tx w K mg C D Z) (F : Df K mg "_law_made" sLm) : Fc P w K mg base 1 "_law_made" ["_law_texts", "_law_rule"] spLm := by
  refine fc_of F (fun _ _ _ _ _ _ us hl => match us, hl with | [_, _], _ => rfl) scLm (fun vs H Q E h => ?_) (fun f cdv A outer st H vs Q E hr h => ?_)
  · obtain ⟨t, a, r, ds, rfl, _⟩ := h
    rfl
  · obtain ⟨t, a, r, ds, rfl, ht, ha, hok, hlen, hds, q⟩ := h
    have eM := MX_eq
    have dl : ∀ i, (ds.getD i []).length ≤ 200 := fun i => by
      rw [List.getD_eq_getElem?_getD]
      by_cases hi : i < ds.length
      · rw [List.getElem?_eq_getElem hi]
        exact hds _ (List.getElem_mem hi)
      · rw [List.getElem?_eq_none (by omega)]
        exact Nat.zero_le _
    have tx : ∀ i, i < ds.length → SqL K H t (txs ds) ∧ atI (txs ds) (i : Int) = some (.str (S (ds.getD i []))) := fun i hi => ⟨SqL.of ht, txs_at hi⟩
    refine ⟨_, (pss_cons (ps_if (pt_cmpR op_eq (pe_ix ix_tup (pv 1) pe_int (fun _ _ => rfl)) pe_str (nomark _)) (pss_one (ps_ret (pe_ix ix_tup (pv 1) pe_int (fun _ _ => rfl)))) pss_nil)
      (pss_cons (ps_if (pt_cmpR op_eq (pe_ix ix_tup (pv 1) pe_int (fun _ _ => rfl)) pe_str (nomark _)) (pss_one (ps_ret (pe_op op_add_str (pe_ix ix_list (pv 0) (pe_ix ix_tup (pv 1) pe_int (fun _ _ => rfl)) (fun _ _ => rfl)) (pe_ix ix_list (pv 0) (pe_ix ix_tup (pv 1) pe_int (fun _ _ => rfl)) (fun _ _ => rfl))))) pss_nil)
      (pss_cons (ps_if (pt_cmpR op_eq (pe_ix ix_tup (pv 1) pe_int (fun _ _ => rfl)) pe_str (nomark _)) (pss_cons (ps_if (pt_cmpR op_eq (pe_ix ix_list (pv 0) (pe_ix ix_tup (pv 1) pe_int (fun _ _ => rfl)) (fun _ _ => rfl)) pe_str (nomark _)) (pss_one (ps_ret pe_str)) pss_nil)
      (pss_one (ps_ret (pe_op op_mulS (pe_ix ix_list (pv 0) (pe_ix ix_tup (pv 1) pe_int (fun _ _ => rfl)) (fun _ _ => rfl)) (pe_ix ix_tup (pv 1) pe_int (fun _ _ => rfl)))))) pss_nil)
      (pss_cons (ps_if (pt_cmpR op_eq (pe_ix ix_tup (pv 1) pe_int (fun _ _ => rfl)) pe_str (nomark _)) (pss_one (ps_ret (pe_slice sl_str (pe_ix ix_list (pv 0) (pe_ix ix_tup (pv 1) pe_int (fun _ _ => rfl)) (fun _ _ => rfl)) (po_some (pe_ix ix_tup (pv 1) pe_int (fun _ _ => rfl))) (po_some (pe_ix ix_tup (pv 1) pe_int (fun _ _ => rfl)))))) pss_nil)
      (pss_one (ps_ret (pe_revS (pe_ix ix_list (pv 0) (pe_ix ix_tup (pv 1) pe_int (fun _ _ => rfl)) (fun _ _ => rfl))))))))), ?_⟩
    cases r with
    | lt z =>
      refine ⟨_, rfl, a, _, _, _, rfl, rfl, SqT.of ha, atI_nat (j := 0) rfl, rfl, _, rfl, ifP rfl ?_⟩
      exact ⟨_, rfl, a, _, _, _, rfl, rfl, SqT.of ha, atI_nat (j := 1) rfl, q⟩
    | jn i j =>
      have o1 := hok.2.1
      have o2 := hok.2.2
      refine ⟨_, rfl, a, _, _, _, rfl, rfl, SqT.of ha, atI_nat (j := 0) rfl, rfl, _, rfl, ifN wjl ?_⟩
      refine ⟨_, rfl, a, _, _, _, rfl, rfl, SqT.of ha, atI_nat (j := 0) rfl, rfl, _, rfl, ifP rfl ?_⟩
      refine ⟨_, rfl, _, rfl, a, _, _, _, rfl, rfl, SqT.of ha, atI_nat (j := 1) rfl, t, _, _, _, rfl, rfl, (tx i o1).1, (tx i o1).2, ?_⟩
      refine ⟨_, rfl, _, rfl, a, _, _, _, rfl, rfl, SqT.of ha, atI_nat (j := 2) rfl, t, _, _, _, rfl, rfl, (tx j o2).1, (tx j o2).2, ?_⟩
      refine ⟨_, _, rfl, rfl, ?_, ?_⟩
      · rw [SX.S_len, SX.S_len]
        have := dl i
        have := dl j
        exact sz (by omega)
      · rw [SX.S_cat]
        exact q
    | pw i k =>
      have o1 := hok.2.1
      have o2 := hok.2.2
      refine ⟨_, rfl, a, _, _, _, rfl, rfl, SqT.of ha, atI_nat (j := 0) rfl, rfl, _, rfl, ifN wpl ?_⟩
      refine ⟨_, rfl, a, _, _, _, rfl, rfl, SqT.of ha, atI_nat (j := 0) rfl, rfl, _, rfl, ifN wpj ?_⟩
      refine ⟨_, rfl, a, _, _, _, rfl, rfl, SqT.of ha, atI_nat (j := 0) rfl, rfl, _, rfl, ifP rfl ?_⟩
      refine ⟨_, rfl, _, rfl, a, _, _, _, rfl, rfl, SqT.of ha, atI_nat (j := 1) rfl, t, _, _, _, rfl, rfl, (tx i o1).1, (tx i o1).2, rfl, _, rfl, ?_⟩
      rw [Ru.den_len] at hlen
      have hlen : (ds.getD i []).length * k ≤ 200 := hlen
      have q : Q (.str (S (List.replicate k (ds.getD i [])).flatten)) H := q
      by_cases hz : ds.getD i [] = []
      · rw [hz] at q
        refine ifP (by rw [hz, S_nil]) ?_
        have e : (List.replicate k ([] : L)).flatten = [] := List.length_eq_zero_iff.mp (by rw [flat_rep]; rfl)
        rw [e, S_nil] at q
        exact q
      · refine ifN (S_ne hz) ?_
        have hp : 0 < (ds.getD i []).length := List.length_pos_iff.mpr hz
        have hk : k ≤ (ds.getD i []).length * k := Nat.le_mul_of_pos_left _ hp
        refine ⟨_, rfl, _, rfl, a, _, _, _, rfl, rfl, SqT.of ha, atI_nat (j := 1) rfl, t, _, _, _, rfl, rfl, (tx i o1).1, (tx i o1).2, ?_⟩
        refine ⟨_, rfl, a, _, _, _, rfl, rfl, SqT.of ha, atI_nat (j := 2) rfl, ds.getD i [], k, rfl, rfl, by omega, by omega, q⟩
    | pt i b c =>
      obtain ⟨o1, o2, o3⟩ := hok.2
      refine ⟨_, rfl, a, _, _, _, rfl, rfl, SqT.of ha, atI_nat (j := 0) rfl, rfl, _, rfl, ifN wtl ?_⟩
      refine ⟨_, rfl, a, _, _, _, rfl, rfl, SqT.of ha, atI_nat (j := 0) rfl, rfl, _, rfl, ifN wtj ?_⟩
      refine ⟨_, rfl, a, _, _, _, rfl, rfl, SqT.of ha, atI_nat (j := 0) rfl, rfl, _, rfl, ifN wtp ?_⟩
      refine ⟨_, rfl, a, _, _, _, rfl, rfl, SqT.of ha, atI_nat (j := 0) rfl, rfl, _, rfl, ifP rfl ?_⟩
      refine ⟨_, rfl, _, rfl, a, _, _, _, rfl, rfl, SqT.of ha, atI_nat (j := 1) rfl, t, _, _, _, rfl, rfl, (tx i o1).1, (tx i o1).2, ?_⟩
      refine ⟨_, rfl, a, _, _, _, rfl, rfl, SqT.of ha, atI_nat (j := 2) rfl, _, rfl, _, rfl, a, _, _, _, rfl, rfl, SqT.of ha, atI_nat (j := 3) rfl, _, rfl, S (ds.getD i []), rfl, (by rw [SX.S_len]; have := dl i; exact sz (by omega)), ?_⟩
      rw [cutS_S o2 o3]
      exact q
    | bk i =>
      have o1 : i < ds.length := hok.2
      refine ⟨_, rfl, a, _, _, _, rfl, rfl, SqT.of ha, atI_nat (j := 0) rfl, rfl, _, rfl, ifN wbl ?_⟩
      refine ⟨_, rfl, a, _, _, _, rfl, rfl, SqT.of ha, atI_nat (j := 0) rfl, rfl, _, rfl, ifN wbj ?_⟩
      refine ⟨_, rfl, a, _, _, _, rfl, rfl, SqT.of ha, atI_nat (j := 0) rfl, rfl, _, rfl, ifN wbp ?_⟩
      refine ⟨_, rfl, a, _, _, _, rfl, rfl, SqT.of ha, atI_nat (j := 0) rfl, rfl, _, rfl, ifN wbt ?_⟩
      refine ⟨_, rfl, _, rfl, a, _, _, _, rfl, rfl, SqT.of ha, atI_nat (j := 1) rfl, t, _, _, _, rfl, rfl, (tx i o1).1, (tx i o1).2, ?_⟩
      exact ⟨ds.getD i [], rfl, sz (by have := dl i; omega), q⟩
end
end Sh
set_option Elab.async false
set_option linter.all false
set_option maxRecDepth 100000
set_option maxHeartbeats 4000000
namespace Sh
open PySem PySem.Spec PyProof.Rows L2
open SX (S)
theorem letS_at : ∀ d : Nat, d < 94 → ∃ c : Nat, atI letS.cps.toList (d : Int) = some c ∧ isL c = true := by
  have h : ∀ d : Fin 94, ∃ c : Nat, c < 128 ∧ letS.cps.toList[d.1]? = some c ∧ isL c = true := by
    have h2 : ∀ d : Fin 94, isL (letS.cps.toList.getD d.1 0) = true ∧ letS.cps.toList[d.1]? = some (letS.cps.toList.getD d.1 0) := by decide +kernel
    intro d
    obtain ⟨a, b⟩ := h2 d
    refine ⟨_, ?_, b, a⟩
    unfold isL at a
    simp only [Bool.and_eq_true, decide_eq_true_eq] at a
    omega
  intro d hd
  obtain ⟨c, _, e, l⟩ := h ⟨d, hd⟩
  exact ⟨c, atI_nat e, l⟩
theorem ab_at : ∀ d : Nat, d < 2 → ∃ c : Nat, atI (Str.ofString "ab").cps.toList (d : Int) = some c ∧ isL c = true := by
  intro d hd
  match d, hd with
  | 0, _ => exact ⟨97, by decide +kernel, by decide⟩
  | 1, _ => exact ⟨98, by decide +kernel, by decide⟩
theorem tim_at (d : Nat) (h : d < 4) : ∃ k : Nat, [V.int 0, V.int 1, V.int 7, V.int ((10 : Int) ^ (12 : Int).toNat)][d]? = some (.int (k : Int)) ∧ k ≤ MX := by
  have e := MX_eq
  have e2 : (10 : Int) ^ (12 : Int).toNat = ((1000000000000 : Nat) : Int) := by decide +kernel
  match d, h with
  | 0, _ => exact ⟨0, rfl, by omega⟩
  | 1, _ => exact ⟨1, rfl, by omega⟩
  | 2, _ => exact ⟨7, rfl, by omega⟩
  | 3, _ => exact ⟨1000000000000, by rw [e2]; rfl, by omega⟩
theorem ones_sum : ∀ zs : L, ((zs.map fun c => (⟨#[c]⟩ : Str)).map fun x : Str => x.length).sum = zs.length
  | [] => rfl
  | a :: b => by
    have h := ones_sum b
    simp only [List.map_cons, List.sum_cons, List.length_cons] at h ⊢
    rw [h, Nat.add_comm]
    rfl
theorem ones_flat : ∀ zs : L, (zs.map fun c => [c]).flatten = zs
  | [] => rfl
  | a :: b => by
    rw [List.map_cons, List.flatten_cons, ones_flat b]
    rfl
theorem ones_join (zs : L) : Txt.join (Str.ofString "") (zs.map fun c => (⟨#[c]⟩ : Str)) = S zs := by
  rw [← S_nil]
  have e : (zs.map fun c => (⟨#[c]⟩ : Str)) = (zs.map fun c => [c]).map S := by
    rw [List.map_map]
    rfl
  rw [e, join_flat, ones_flat]
section
variable {P : Program} {w : World} {K : PySem.W.Frag} {mg : Str → Option Value} {base : Heap} {C D Z : Addr}
/-! ### _law_written -/
def spLw : Sp := fun vs H Q _ => ∃ (p c : Addr), vs = [.ref p] ∧ Pool H p c ∧ ∀ H' (z : L), Pool H' p c → Keep p H H' → z.length ≤ 64 → z.all isL = true → Q (.str (S z)) H'
theorem ok_Lw (T : Tx w K mg C D Z) (GLt : Fc P w K mg base 2 "_law_take" ["_law_pool_here", "_law_many"] spLt) (F : Df K mg "_law_written" sLw) : Fc P w K mg base 3 "_law_written" ["_law_pool_here"] spLw := by
  refine fc_of F (fun _ _ _ _ _ _ us hl => match us, hl with | [_], _ => rfl) scLw (fun vs H Q E h => ?_) (fun f cdv A outer st H vs Q E hr h => ?_)
  · obtain ⟨p, c, rfl, _⟩ := h
    rfl
  · obtain ⟨p, c, rfl, hp, q⟩ := h
    refine ⟨_, (pss_cons (ps_set (i := 1) scLw.nd rfl (by first | exact Or.inl rfl | exact Or.inr rfl) pe_str)
      (pss_cons (ps_set (i := 2) scLw.nd rfl (by first | exact Or.inl rfl | exact Or.inr rfl) (pe_c GLt (hr.mono (by decide)) (pa_cons (pv 0) (pa_cons pe_int pa_nil))))
      (pss_cons (ps_set (i := 3) scLw.nd rfl (by first | exact Or.inl rfl | exact Or.inr rfl) (pe_c GLt (hr.mono (by decide)) (pa_cons (pv 0) (pa_cons pe_int pa_nil))))
      (pss_cons (ps_if (pt_cmpR op_eq (pv 2) pe_int (nomark _)) (pss_one (ps_set (i := 3) scLw.nd rfl (by first | exact Or.inl rfl | exact Or.inr rfl) (pe_c GLt (hr.mono (by decide)) (pa_cons (pv 0) (pa_cons pe_int pa_nil))))) pss_nil)
      (pss_cons (ps_set (i := 4) scLw.nd rfl (by first | exact Or.inl rfl | exact Or.inr rfl) (pe_lst pa_nil))
      (pss_cons (ps_for PassesOwn.never rfl (pi_range1 rfl T.range_ (pa_cons (pv 3) pa_nil)) (pg_name (i := 5) scLw.nd rfl (Or.inl rfl)) (pss_one (ps_if (pt_cmpR op_lt (pv 2) pe_int (nomark _)) (pss_one (ps_expr (pe_bm PySem.F.plainAttrs_list PySem.F.slot_list_append PySem.F.type_list_append mt_append (pv 4) (pa_cons (pe_ix ix_str (pv 1) (pe_c GLt (hr.mono (by decide)) (pa_cons (pv 0) (pa_cons pe_int pa_nil))) (fun _ _ => rfl)) pa_nil)))) (pss_one (ps_expr (pe_bm PySem.F.plainAttrs_list PySem.F.slot_list_append PySem.F.type_list_append mt_append (pv 4) (pa_cons (pe_ix ix_str pe_str (pe_c GLt (hr.mono (by decide)) (pa_cons (pv 0) (pa_cons pe_int pa_nil))) (fun _ _ => rfl)) pa_nil)))))))
      (pss_one (ps_ret (pe_join pe_str (pv 4)))))))))), ?_⟩
    refine ⟨_, rfl, p, c, 6, rfl, hp, by decide, by decide, fun H1 d1 p1 k1 l1 => ?_⟩
    refine ⟨_, rfl, p, c, 6, rfl, p1, by decide, by decide, fun H3 m p3 k2 l2 => ?_⟩
    have k13 := k1.trans k2
    have hm : m < 65 := by omega
    refine ⟨_, rfl, rfl, _, rfl, ite2 (fun h => ⟨_, rfl, p, c, 65, rfl, p3, by decide, by decide, fun H3 m p3 k3 hm => have k13 := k13.trans k3; ?_⟩) (fun h => ?_)⟩
    all_goals
      refine ⟨Nat.zero_le _, fun l hl => ?_⟩
      have hl0 : H l = none := by
        cases e : H l with
        | none => rfl
        | some o =>
          have := k13 _ _ e (p3.fr hl).1
          rw [hl] at this
          cases this
      have nl := p3.fr hl
      refine ⟨_, rfl, (m : Int), rfl, by omega, by omega, for_it walk_range (fun i σ H' => ∃ (zs : L) (v5 : Option V), σ = [some (.ref p), some (.str letS), some (.int (d1 : Int)), some (.int (m : Int)), some (.ref l), v5] ∧ Pool H' p c ∧ Keep p H H' ∧ H' l = some (.lst (zs.map fun c => V.str ⟨#[c]⟩)) ∧ zs.length = i ∧ zs.all isL = true)
        ⟨[], none, rfl, p3.put nl.1 nl.2, k13.mut hl0, upd_same, rfl, rfl⟩ (fun _ _ _ _ _ => trivial) ?_ ?_⟩
      · rintro i v σ H4 H5 hi ⟨zs, v5, rfl, p4, k4, h4, hz, ha⟩ ⟨rfl, rfl⟩
        have hi : i < m := by simpa using hi
        have fin : ∀ (H6 : Hp) (c' : Nat), Pool H6 p c → Keep p H5 H6 → isL c' = true → ∃ (zs' : L), Pool (upd H6 l (.lst ((zs.map fun c => V.str ⟨#[c]⟩) ++ [V.str ⟨#[c']⟩]))) p c ∧ Keep p H (upd H6 l (.lst ((zs.map fun c => V.str ⟨#[c]⟩) ++ [V.str ⟨#[c']⟩]))) ∧ (upd H6 l (.lst ((zs.map fun c => V.str ⟨#[c]⟩) ++ [V.str ⟨#[c']⟩]))) l = some (.lst (zs'.map fun c => V.str ⟨#[c]⟩)) ∧ zs'.length = i + 1 ∧ zs'.all isL = true := by
          intro H6 c' p6 k6 hc'
          refine ⟨zs ++ [c'], p6.put nl.1 nl.2, (k4.trans k6).mut hl0, ?_, by simp [hz], ?_⟩
          · rw [upd_same, List.map_append]
            rfl
          · rw [List.all_append, ha]
            show (true && (isL c' && true)) = true
            rw [hc']
            rfl
        have hlt : (zs.map fun c => V.str ⟨#[c]⟩).length < sizeLine := by
          rw [List.length_map]
          exact szl (by omega)
        refine ⟨_, rfl, _, _, rfl, rfl, _, rfl, ite2 (fun h => ?_) (fun h => ?_)⟩
        · refine ⟨_, rfl, .inl ⟨rfl, _, SqL.of h4⟩, _, rfl, _, rfl, p, c, 94, rfl, p4, by decide, by decide, fun H6 d p6 k6 hd => ?_⟩
          obtain ⟨c', e1, e2⟩ := letS_at d hd
          obtain ⟨zs', f1⟩ := fin H6 c' p6 k6 e2
          exact ⟨letS, _, c', rfl, rfl, by decide +kernel, e1, l, _, _, rfl, rfl, k6 _ _ h4 nl.1, hlt, zs', _, rfl, f1⟩
        · refine ⟨_, rfl, .inl ⟨rfl, _, SqL.of h4⟩, _, rfl, p, c, 2, rfl, p4, by decide, by decide, fun H6 d p6 k6 hd => ?_⟩
          obtain ⟨c', e1, e2⟩ := ab_at d hd
          obtain ⟨zs', f1⟩ := fin H6 c' p6 k6 e2
          exact ⟨_, _, c', rfl, rfl, by decide +kernel, e1, l, _, _, rfl, rfl, k6 _ _ h4 nl.1, hlt, zs', _, rfl, f1⟩
      · rintro σ H4 ⟨zs, v5, rfl, p4, k4, h4, hz, ha⟩
        have hz : zs.length = m := by simpa using hz
        have hsum := ones_sum zs
        have hjoin := ones_join zs
        refine ⟨⟨_, rfl⟩, _, rfl, _, l, zs.map fun c => (⟨#[c]⟩ : Str), rfl, rfl, .inl (SqL.of (by rw [List.map_map]; exact h4)), ?_, ?_⟩
        · rw [hsum]
          have e2 : (Str.ofString "").length = 0 := by decide +kernel
          rw [e2, Nat.mul_zero]
          omega
        · rw [hjoin]
          exact q _ zs p4 k4 (by omega) ha
/-! ### _law_next -/
theorem txs_ne {ds : List L} {H : Hp} {t p c : Addr} (hp : Pool H p c) (ht : H t = some (.lst (txs ds))) : t ≠ p := by
  intro e
  obtain ⟨cells, i, r, s, h⟩ := hp
  rw [e, h.at_] at ht
  cases ds with
  | nil => cases ht
  | cons a b => cases ht
def spLx : Sp := fun vs H Q _ => ∃ (p c t : Addr) (ds : List L), vs = [.ref p, .ref t, .int 200] ∧ Pool H p c ∧ H t = some (.lst (txs ds)) ∧ ds.length ≤ 100 ∧ (∀ d ∈ ds, d.length ≤ 200) ∧
  ∀ H' (a : Addr) (r : Ru), Pool H' p c → Keep p H H' → H' a = some (.tup r.vs) → r.ok ds.length ds → (r.den ds).length ≤ 200 → Q (.ref a) H'
theorem ok_Lx (T : Tx w K mg C D Z) (GLt : Fc P w K mg base 2 "_law_take" ["_law_pool_here", "_law_many"] spLt) (GLn : Fc P w K mg base 3 "_law_number" ["_law_pool_here", "_law_many"] spLt) (GLw : Fc P w K mg base 3 "_law_written" ["_law_pool_here"] spLw) (F : Df K mg "_law_next" sLx) : Fc P w K mg base 4 "_law_next" ["_law_pool_here", "_law_texts", "_law_most"] spLx := by
  refine fc_of F (fun _ _ _ _ _ _ us hl => match us, hl with | [_, _, _], _ => rfl) scLx (fun vs H Q E h => ?_) (fun f0 cdv A outer st H vs Q E hr h => ?_)
  · obtain ⟨p, c, t, ds, rfl, _⟩ := h
    rfl
  · obtain ⟨p, c, t, ds, rfl, hp, ht, hlen, hds, q⟩ := h
    have eM := MX_eq
    have dl : ∀ i, (ds.getD i []).length ≤ 200 := fun i => by
      rw [List.getD_eq_getElem?_getD]
      by_cases hi : i < ds.length
      · rw [List.getElem?_eq_getElem hi]
        exact hds _ (List.getElem_mem hi)
      · rw [List.getElem?_eq_none (by omega)]
        exact Nat.zero_le _
    have nt := txs_ne hp ht
    have newT : ∀ (H1 : Hp) (a : Addr) (r : Ru) (xs : List V), Pool H1 p c → Keep p H H1 → H1 a = none → xs = r.vs → r.ok ds.length ds → (r.den ds).length ≤ 200 → Q (.ref a) (upd H1 a (.tup xs)) := by
      intro H1 a r xs p1 k1 ha e ok hl
      rw [e]
      exact q _ a r (p1.same (same_upd ha)) (k1.same (same_upd ha)) upd_same ok hl
    have wr : ∀ (H1 : Hp), Pool H1 p c → Keep p H H1 → spLw [.ref p] H1 (fun v H2 => 2 ≤ sizeLine ∧ ∀ a, H2 a = none → Q (.ref a) (upd H2 a (.tup [.str "letters", v]))) E0 := by
      intro H1 p1 k1
      refine ⟨p, c, rfl, p1, fun H2 z p2 k2 h64 hall => ⟨by decide, fun a ha => ?_⟩⟩
      exact newT H2 a (.lt z) _ p2 (k1.trans k2) ha rfl ⟨by show z.length ≤ MX; omega, h64, hall⟩ (by show z.length ≤ 200; omega)
    have htl : (((txs ds).length : Nat) : Int) = ((ds.length : Nat) : Int) := by rw [txs_len]
    have tx : ∀ (H2 : Hp) (i : Nat), Keep p H H2 → i < ds.length → SqL K H2 t (txs ds) ∧ atI (txs ds) (i : Int) = some (.str (S (ds.getD i []))) := fun H2 i k2 hi => ⟨SqL.of (k2 _ _ ht nt), txs_at hi⟩
    have tlen : ∀ i, (S (ds.getD i [])).length ≤ sizeLine := fun i => by
      rw [SX.S_len]
      have := dl i
      exact sz (by omega)
    have sl : ∀ i, (S (ds.getD i [])).length = (ds.getD i []).length := fun i => SX.S_len _
    have t6 : ∃ t', PSs (cxOf CX0 P w K mg base ["_law_pool_here", "_law_texts", "_law_most", "_law_kind", "_law_first", "_law_size", "_law_second", "_law_times", "_law_start"] "_law_next" (defScope sLx) f0 cdv A outer st H E).nox ((defBody sLx).drop 6) t' ∧
        ∀ (kd : Int) (f : Nat) (v6 v7 v8 : Option V) (H2 : Hp), f < ds.length → Pool H2 p c → Keep p H H2 →
          t' { nx := fun _ H' => Q .non H', rt := Q } [some (.ref p), some (.ref t), some (.int 200), some (.int kd), some (.int (f : Int)), some (.int (((S (ds.getD f [])).length : Nat) : Int)), v6, v7, v8] H2 := by
      refine ⟨_, (pss_cons (ps_if (pt_cmpR op_lt (pv 3) pe_int (nomark _)) (pss_cons (ps_set (i := 8) scLx.nd rfl (by first | exact Or.inl rfl | exact Or.inr rfl) (pe_c GLt (hr.mono (by decide)) (pa_cons (pv 0) (pa_cons (pe_op op_add (pv 5) pe_int) pa_nil))))
      (pss_one (ps_ret (pe_tup (pa_cons pe_str (pa_cons (pv 4) (pa_cons (pv 8) (pa_cons (pe_op op_add (pv 8) (pe_c GLt (hr.mono (by decide)) (pa_cons (pv 0) (pa_cons (pe_op op_add (pe_op op_sub (pv 5) (pv 8)) pe_int) pa_nil)))) pa_nil)))))))) pss_nil)
      (pss_one (ps_ret (pe_tup (pa_cons pe_str (pa_cons (pv 4) pa_nil)))))), ?_⟩
      intro kd f v6 v7 v8 H2 hf p2 k2
      have hx := sl f
      have hx2 := dl f
      refine ⟨_, rfl, _, _, rfl, rfl, _, rfl, ite2 (fun h => ?_) (fun h => ?_)⟩
      · refine ⟨_, rfl, _, rfl, _, _, rfl, rfl, p, c, (S (ds.getD f [])).length + 1, rfl, p2, by omega, by omega, fun H3 b p3 k3 hb => ?_⟩
        refine ⟨_, rfl, _, rfl, _, rfl, _, rfl, _, rfl, _, rfl, _, _, rfl, rfl, _, _, rfl, rfl, p, c, (S (ds.getD f [])).length - b + 1, ?_, p3, by omega, by omega, fun H4 e p4 k4 he => ?_⟩
        · refine congrArg (fun z => [V.ref p, V.int z]) ?_
          omega
        · refine ⟨_, _, rfl, rfl, by show 4 ≤ sizeLine; decide, fun a ha => ?_⟩
          refine newT H4 a (.pt f b (b + e)) _ p4 ((k2.trans k3).trans k4) ha ?_ ⟨?_, hf, by omega, by omega⟩ ?_
          · show _ = [V.str "part", .int (f : Int), .int (b : Int), .int ((b + e : Nat) : Int)]
            rw [Int.natCast_add]
          · rw [Ru.den_len]
            show min (b + e - b) ((ds.getD f []).length - b) ≤ MX
            omega
          · rw [Ru.den_len]
            show min (b + e - b) ((ds.getD f []).length - b) ≤ 200
            omega
      · refine ⟨_, rfl, by show 2 ≤ sizeLine; decide, fun a ha => ?_⟩
        refine newT H2 a (.bk f) _ p2 k2 ha rfl ⟨?_, hf⟩ ?_
        · rw [Ru.den_len]
          show (ds.getD f []).length ≤ MX
          omega
        · rw [Ru.den_len]
          exact hx2
    obtain ⟨t6, h6, q6⟩ := t6
    have t5 : ∃ t', PSs (cxOf CX0 P w K mg base ["_law_pool_here", "_law_texts", "_law_most", "_law_kind", "_law_first", "_law_size", "_law_second", "_law_times", "_law_start"] "_law_next" (defScope sLx) f0 cdv A outer st H E).nox ((defBody sLx).drop 5) t' ∧
        ∀ (kd : Int) (f : Nat) (v6 v7 v8 : Option V) (H2 : Hp), f < ds.length → Pool H2 p c → Keep p H H2 →
          t' { nx := fun _ H' => Q .non H', rt := Q } [some (.ref p), some (.ref t), some (.int 200), some (.int kd), some (.int (f : Int)), some (.int (((S (ds.getD f [])).length : Nat) : Int)), v6, v7, v8] H2 := by
      refine ⟨_, (pss_cons (ps_if (pt_cmpR op_eq (pv 3) pe_int (nomark _)) (pss_cons (ps_set (i := 7) scLx.nd rfl (by first | exact Or.inl rfl | exact Or.inr rfl) (pe_c GLt (hr.mono (by decide)) (pa_cons (pv 0) (pa_cons pe_int pa_nil))))
      (pss_cons (ps_if (pt_cmpR op_eq (pv 5) pe_int (nomark _)) (pss_one (ps_set (i := 7) scLx.nd rfl (by first | exact Or.inl rfl | exact Or.inr rfl) (pe_ix ix_tup (pe_tup (pa_cons pe_int (pa_cons pe_int (pa_cons pe_int (pa_cons (pe_op op_pow pe_int pe_int) pa_nil))))) (pe_c GLt (hr.mono (by decide)) (pa_cons (pv 0) (pa_cons pe_int pa_nil))) (fun _ _ => rfl)))) pss_nil)
      (pss_one (ps_if (pt_cmpR op_le (pe_op op_mul (pv 5) (pv 7)) (pv 2) (nomark _)) (pss_one (ps_ret (pe_tup (pa_cons pe_str (pa_cons (pv 4) (pa_cons (pv 7) pa_nil)))))) pss_nil)))) pss_nil) h6), ?_⟩
      intro kd f v6 v7 v8 H2 hf p2 k2
      have hx := sl f
      have hx2 := dl f
      refine ⟨_, rfl, rfl, _, rfl, ite2 (fun h => ?_) (fun h => q6 kd f v6 v7 v8 H2 hf p2 k2)⟩
      refine ⟨_, rfl, p, c, 6, rfl, p2, by decide, by decide, fun H3 k p3 k3 hk => ?_⟩
      have pw : ∀ (H4 : Hp) (k : Nat), Pool H4 p c → Keep p H H4 → k ≤ MX → ((S (ds.getD f [])).length : Int) * (k : Int) ≤ 200 → ∀ a, H4 a = none → Q (.ref a) (upd H4 a (.tup [.str "power", .int (f : Int), .int (k : Int)])) := by
        intro H4 k p4 k4 hk hle a ha
        rw [hx, ← Int.natCast_mul] at hle
        refine newT H4 a (.pw f k) _ p4 k4 ha rfl ⟨?_, hf, hk⟩ ?_
        · rw [Ru.den_len]
          show (ds.getD f []).length * k ≤ MX
          omega
        · rw [Ru.den_len]
          show (ds.getD f []).length * k ≤ 200
          omega
      have k13 := k2.trans k3
      refine ⟨_, rfl, rfl, _, rfl, ite2 (fun h => ?_) (fun h => ?_)⟩
      · refine ⟨_, _, rfl, rfl, ⟨by decide, by decide, by decide⟩, by show 4 ≤ sizeLine; decide, fun a ha => ⟨_, rfl, p, c, 4, rfl, p3.same (same_upd ha), by decide, by decide, fun H4 e p4 k4 he => ?_⟩⟩
        obtain ⟨k', e1, e2⟩ := tim_at e he
        have k14 := (k13.same (same_upd ha)).trans k4
        refine ⟨a, _, _, _, rfl, rfl, SqT.of (k4 _ _ upd_same (p3.fr ha).1), atI_nat e1, ?_⟩
        refine ⟨_, rfl, _, rfl, _, _, rfl, rfl, .inl ⟨by omega, by omega⟩, _, rfl, _, _, rfl, rfl, _, rfl, ite2 (fun h => ?_) (fun h => q6 kd f _ _ _ _ hf p4 k14)⟩
        exact ⟨_, rfl, _, rfl, by show 3 ≤ sizeLine; decide, pw _ _ p4 k14 e2 (of_decide_eq_true h)⟩
      · refine ⟨_, rfl, _, rfl, _, _, rfl, rfl, .inl ⟨by omega, by omega⟩, _, rfl, _, _, rfl, rfl, _, rfl, ite2 (fun h => ?_) (fun h => q6 kd f _ _ _ _ hf p3 k13)⟩
        exact ⟨_, rfl, _, rfl, by show 3 ≤ sizeLine; decide, pw _ _ p3 k13 (by omega) (of_decide_eq_true h)⟩
    obtain ⟨t5, h5, q5⟩ := t5
    refine ⟨_, (pss_cons (ps_set (i := 3) scLx.nd rfl (by first | exact Or.inl rfl | exact Or.inr rfl) (pe_c GLt (hr.mono (by decide)) (pa_cons (pv 0) (pa_cons pe_int pa_nil))))
      (pss_cons (ps_if (PW.pt (pw_or (pt_cmpR op_eq (pv 3) pe_int (nomark _)) (pw_or1 (pt_not (pt_truth (pv 1) (by intro _; rfl)))))) (pss_one (ps_ret (pe_tup (pa_cons pe_str (pa_cons (pe_c GLw (hr.mono (by decide)) (pa_cons (pv 0) pa_nil)) pa_nil))))) pss_nil)
      (pss_cons (ps_set (i := 4) scLx.nd rfl (by first | exact Or.inl rfl | exact Or.inr rfl) (pe_c GLn (hr.mono (by decide)) (pa_cons (pv 0) (pa_cons (pe_callB (id := "len") (call_lenK K) (by rfl) T.len_ (by decide +kernel) (pa_cons (pv 1) pa_nil)) pa_nil))))
      (pss_cons (ps_set (i := 5) scLx.nd rfl (by first | exact Or.inl rfl | exact Or.inr rfl) (pe_callB (id := "len") call_len_str (by rfl) T.len_ (by decide +kernel) (pa_cons (pe_ix ix_list (pv 1) (pv 4) (fun _ _ => rfl)) pa_nil)))
      (pss_cons (ps_if (pt_cmpR op_lt (pv 3) pe_int (nomark _)) (pss_cons (ps_set (i := 6) scLx.nd rfl (by first | exact Or.inl rfl | exact Or.inr rfl) (pe_c GLt (hr.mono (by decide)) (pa_cons (pv 0) (pa_cons (pe_callB (id := "len") (call_lenK K) (by rfl) T.len_ (by decide +kernel) (pa_cons (pv 1) pa_nil)) pa_nil))))
      (pss_cons (ps_if (pt_cmpR op_eq (pe_c GLt (hr.mono (by decide)) (pa_cons (pv 0) (pa_cons pe_int pa_nil))) pe_int (nomark _)) (pss_cons (ps_par (i := 4) (j := 6) (by rfl) scLx.nd rfl rfl (by decide) rfl rfl (pa_cons (pv 6) (pa_cons (pv 4) pa_nil)) (by rfl))
      (pss_one (ps_set (i := 5) scLx.nd rfl (by first | exact Or.inl rfl | exact Or.inr rfl) (pe_callB (id := "len") call_len_str (by rfl) T.len_ (by decide +kernel) (pa_cons (pe_ix ix_list (pv 1) (pv 4) (fun _ _ => rfl)) pa_nil))))) pss_nil)
      (pss_one (ps_if (pt_cmpR op_le (pe_op op_add (pe_callB (id := "len") call_len_str (by rfl) T.len_ (by decide +kernel) (pa_cons (pe_ix ix_list (pv 1) (pv 4) (fun _ _ => rfl)) pa_nil)) (pe_callB (id := "len") call_len_str (by rfl) T.len_ (by decide +kernel) (pa_cons (pe_ix ix_list (pv 1) (pv 6) (fun _ _ => rfl)) pa_nil))) (pv 2) (nomark _)) (pss_one (ps_ret (pe_tup (pa_cons pe_str (pa_cons (pv 4) (pa_cons (pv 6) pa_nil)))))) pss_nil)))) pss_nil)
      h5))))), ?_⟩
    refine ⟨_, rfl, p, c, 7, rfl, hp, by decide, by decide, fun H1 kd p1 k1 lk => ?_⟩
    refine ⟨_, rfl, rfl, _, rfl, ite2 (fun h => iteT ⟨_, rfl, wr H1 p1 k1⟩) (fun h => ?_)⟩
    by_cases hnil : ds = []
    · subst hnil
      exact ⟨_, rfl, false, .inl ⟨_, SqL.of (k1 _ _ ht nt), rfl⟩, nT ⟨_, rfl, wr H1 p1 k1⟩⟩
    have hpos : 0 < ds.length := List.length_pos_iff.mpr hnil
    have hne : (!(txs ds).isEmpty) = true := by
      cases ds with
      | nil => exact absurd rfl hnil
      | cons a b => rfl
    refine ⟨_, rfl, true, .inl ⟨_, SqL.of (k1 _ _ ht nt), hne.symm⟩, nF ?_⟩
    refine ⟨_, rfl, _, rfl, t, _, rfl, .inl (SqL.of (k1 _ _ ht nt)), p, c, ds.length, by rw [htl], p1, by omega, by omega, fun H2 f p2 k2 hf => ?_⟩
    have k2 := k1.trans k2
    refine ⟨_, rfl, _, rfl, t, _, _, _, rfl, rfl, (tx H2 f k2 hf).1, (tx H2 f k2 hf).2, _, rfl, tlen f, ?_⟩
    -- joins
    have jn : ∀ (f g : Nat) (H3 : Hp), Pool H3 p c → Keep p H H3 → f < ds.length → g < ds.length → (((S (ds.getD f [])).length : Nat) : Int) + (((S (ds.getD g [])).length : Nat) : Int) ≤ 200 → ∀ a, H3 a = none → Q (.ref a) (upd H3 a (.tup [.str "join", .int (f : Int), .int (g : Int)])) := by
      intro f g H3 p3 k3 hf hg hle a ha
      rw [sl, sl] at hle
      refine newT H3 a (.jn f g) _ p3 k3 ha rfl ⟨?_, hf, hg⟩ ?_
      · rw [Ru.den_len]
        show (ds.getD f []).length + (ds.getD g []).length ≤ MX
        omega
      · rw [Ru.den_len]
        show (ds.getD f []).length + (ds.getD g []).length ≤ 200
        omega
    refine ⟨_, rfl, _, _, rfl, rfl, _, rfl, ite2 (fun h3 => ⟨_, rfl, _, rfl, t, _, rfl, .inl (SqL.of (k2 _ _ ht nt)), p, c, ds.length, by rw [htl], p2, by omega, by omega, fun H3 g p3 k3 hg => ?_⟩) (fun h3 => q5 kd f _ _ _ _ hf p2 k2)⟩
    have k3 := k2.trans k3
    refine ⟨_, rfl, p, c, 2, rfl, p3, by decide, by decide, fun H4 e p4 k4 he => ?_⟩
    have k4 := k3.trans k4
    refine ⟨rfl, _, rfl, ite2 (fun h => ?_) (fun h => ?_)⟩
    · refine ⟨_, rfl, _, rfl, _, _, rfl, ?_⟩
      refine ⟨_, rfl, _, rfl, t, _, _, _, rfl, rfl, (tx H4 g k4 hg).1, (tx H4 g k4 hg).2, _, rfl, tlen g, ?_⟩
      refine ⟨_, rfl, _, rfl, t, _, _, _, rfl, rfl, (tx H4 g k4 hg).1, (tx H4 g k4 hg).2, _, rfl, tlen g, ?_⟩
      refine ⟨_, rfl, _, rfl, t, _, _, _, rfl, rfl, (tx H4 f k4 hf).1, (tx H4 f k4 hf).2, _, rfl, tlen f, _, _, rfl, rfl, ?_⟩
      refine ⟨_, rfl, _, _, rfl, rfl, _, rfl, ite2 (fun h => ?_) (fun h => q5 kd g _ _ _ _ hg p4 k4)⟩
      exact ⟨_, rfl, _, rfl, by show 3 ≤ sizeLine; decide, jn g f H4 p4 k4 hg hf (of_decide_eq_true h)⟩
    · refine ⟨_, rfl, _, rfl, t, _, _, _, rfl, rfl, (tx H4 f k4 hf).1, (tx H4 f k4 hf).2, _, rfl, tlen f, ?_⟩
      refine ⟨_, rfl, _, rfl, t, _, _, _, rfl, rfl, (tx H4 g k4 hg).1, (tx H4 g k4 hg).2, _, rfl, tlen g, _, _, rfl, rfl, ?_⟩
      refine ⟨_, rfl, _, _, rfl, rfl, _, rfl, ite2 (fun h => ?_) (fun h => q5 kd f _ _ _ _ hf p4 k4)⟩
      exact ⟨_, rfl, _, rfl, by show 3 ≤ sizeLine; decide, jn f g H4 p4 k4 hf hg (of_decide_eq_true h)⟩
end
end Sh
set_option Elab.async false
set_option linter.all false
set_option maxRecDepth 100000
set_option maxHeartbeats 4000000
namespace Sh
open PySem PySem.Spec PyProof.Rows L2
open SX (S)
theorem gb0 : Str.ofString "ab" = S [97, 98] := by decide +kernel
theorem gb1 : Str.ofString "abc" = S [97, 98, 99] := by decide +kernel
theorem gb2 : Str.ofString "a" = S [97] := by decide +kernel
theorem gb3 : Str.ofString "aabab" = S [97, 97, 98, 97, 98] := by decide +kernel
theorem gb4 : Str.ofString "xyzzy.q" = S [120, 121, 122, 122, 121, 46, 113] := by decide +kernel
theorem gbase (d : Nat) (h : d < 5) : ∃ z : L, [V.str "ab", V.str "abc", V.str "a", V.str "aabab", V.str "xyzzy.q"][d]? = some (.str (S z)) ∧ z.length ≤ 7 ∧ z.all isL = true := by
  rw [gb0, gb1, gb2, gb3, gb4]
  match d, h with
  | 0, _ => exact ⟨_, rfl, by decide, by decide⟩
  | 1, _ => exact ⟨_, rfl, by decide, by decide⟩
  | 2, _ => exact ⟨_, rfl, by decide, by decide⟩
  | 3, _ => exact ⟨_, rfl, by decide, by decide⟩
  | 4, _ => exact ⟨_, rfl, by decide, by decide⟩
theorem gtimes (a b : Nat) (ha : a < 100000000000) (hb : b < 30) (d : Nat) (h : d < 3) : ∃ k : Nat, atI [V.int (1 + (a : Int)), V.int (1 + (b : Int))] ((d : Int) / 2) = some (.int (k : Int)) ∧ k ≤ 100000000000 := by
  have e1 : 1 + (a : Int) = ((1 + a : Nat) : Int) := by omega
  have e2 : 1 + (b : Int) = ((1 + b : Nat) : Int) := by omega
  rw [e1, e2]
  match d, h with
  | 0, _ => exact ⟨_, at_int (j := 0) (by decide) rfl, by omega⟩
  | 1, _ => exact ⟨_, at_int (j := 0) (by decide) rfl, by omega⟩
  | 2, _ => exact ⟨_, at_int (j := 1) (by decide) rfl, by omega⟩
theorem pow11 : (10 : Int) ^ (11 : Int).toNat = ((100000000000 : Nat) : Int) := by decide +kernel
theorem mkT {C x dx t : Addr} {H : Hp} {as : List Addr} {rs : List Ru} {ds : List L} {d : L} {R : Hp → Prop} (nx : H x = none) (ndx : H dx = none) (ht : LT H t (as.map V.ref)) (hrs : RusAt H as rs) (hd : Dn rs ds) (hlast : ds.getLast? = some d) (h60 : rs.length ≤ 60)
    (q : ∀ H', Same H H' → TxtAt C H' x ds.length d → R H') : spTi C [.ref x, .ref t] (upd (upd H dx (.own x)) x (.ins C dx [])) (fun v H2 => v = .non ∧ R H2) E0 := by
  have s4 : Same H (upd (upd H dx (.own x)) x (.ins C dx [])) := fun b o e => by
    rw [upd_ne (ne_of_none e nx), upd_ne (ne_of_none e ndx)]
    exact e
  exact ⟨x, dx, t, as, rs, ds, d, rfl, upd_same, ht.same s4, hrs.gro (sGro s4), hd, hlast, h60, fun H1 k1 x1 => ⟨rfl, q H1 (fun b o e => k1 _ _ (s4 _ _ e) (ne_of_none e nx)) x1⟩⟩
section
variable {P : Program} {w : World} {K : PySem.W.Frag} {mg : Str → Option Value} {base : Heap} {C D Z : Addr}
/-! ### _law_rules -/
def spLr : Sp := fun vs H Q _ => ∃ (p c : Addr), vs = [.ref p, .int 200] ∧ Pool H p c ∧
  ∀ H' (tt l t : Addr) (as : List Addr) (rs : List Ru) (ds : List L), Pool H' p c → Keep p H H' → H' tt = some (.tup [.ref l, .ref t]) → H' l = some (.lst (as.map V.ref)) → RusAt H' as rs → Dn rs ds → 1 ≤ rs.length → rs.length ≤ 20 → (∀ d ∈ ds, d.length ≤ 200) → Q (.ref tt) H'
theorem ok_Lr (T : Tx w K mg C D Z) (GLt : Fc P w K mg base 2 "_law_take" ["_law_pool_here", "_law_many"] spLt) (GLx : Fc P w K mg base 4 "_law_next" ["_law_pool_here", "_law_texts", "_law_most"] spLx) (GLm : Fc P w K mg base 1 "_law_made" ["_law_texts", "_law_rule"] spLm) (F : Df K mg "_law_rules" sLr) : Fc P w K mg base 5 "_law_rules" ["_law_pool_here", "_law_most"] spLr := by
  refine fc_of F (fun _ _ _ _ _ _ us hl => match us, hl with | [_, _], _ => rfl) scLr (fun vs H Q E h => ?_) (fun f cdv A outer st H vs Q E hr h => ?_)
  · obtain ⟨p, c, rfl, _⟩ := h
    rfl
  · obtain ⟨p, c, rfl, hp, q⟩ := h
    refine ⟨_, (pss_cons (ps_set (i := 2) scLr.nd rfl (by first | exact Or.inl rfl | exact Or.inr rfl) (pe_lst pa_nil))
      (pss_cons (ps_set (i := 3) scLr.nd rfl (by first | exact Or.inl rfl | exact Or.inr rfl) (pe_lst pa_nil))
      (pss_cons (ps_for PassesOwn.never rfl (pi_range1 rfl T.range_ (pa_cons (pe_op op_add pe_int (pe_c GLt (hr.mono (by decide)) (pa_cons (pv 0) (pa_cons pe_int pa_nil)))) pa_nil)) (pg_name (i := 4) scLr.nd rfl (Or.inl rfl)) (pss_cons (ps_set (i := 5) scLr.nd rfl (by first | exact Or.inl rfl | exact Or.inr rfl) (pe_c GLx (hr.mono (by decide)) (pa_cons (pv 0) (pa_cons (pv 3) (pa_cons (pv 1) pa_nil)))))
      (pss_cons (ps_expr (pe_bm PySem.F.plainAttrs_list PySem.F.slot_list_append PySem.F.type_list_append mt_append (pv 2) (pa_cons (pv 5) pa_nil)))
      (pss_one (ps_expr (pe_bm PySem.F.plainAttrs_list PySem.F.slot_list_append PySem.F.type_list_append mt_append (pv 3) (pa_cons (pe_c GLm (hr.mono (by decide)) (pa_cons (pv 3) (pa_cons (pv 5) pa_nil))) pa_nil)))))))
      (pss_one (ps_ret (pe_tup (pa_cons (pv 2) (pa_cons (pv 3) pa_nil)))))))), ?_⟩
    refine ⟨Nat.zero_le _, fun l hl => ?_⟩
    have nl := hp.fr hl
    have p1 := hp.same (same_upd (o := .lst []) hl)
    have k1 : Keep p H (upd H l (.lst [])) := sKeep (same_upd hl)
    refine ⟨Nat.zero_le _, fun t ht => ?_⟩
    have nt := p1.fr ht
    have ht0 : H t = none := (same_upd (o := .lst []) hl).free ht
    have nlt : l ≠ t := ne_of_none upd_same ht
    have p2 := p1.same (same_upd (o := .lst []) ht)
    have k2 := k1.same (same_upd (o := .lst []) ht)
    refine ⟨_, rfl, p, c, 20, rfl, p2, by decide, by decide, fun H1 m p3 k3 hm => ?_⟩
    have k13 := k2.trans k3
    have hl3 : H1 l = some (.lst []) := k3 _ _ (by rw [upd_ne nlt, upd_same]) nl.1
    have ht3 : H1 t = some (.lst []) := k3 _ _ upd_same nt.1
    refine ⟨_, _, rfl, rfl, 1 + (m : Int), rfl, by omega, by omega, for_it walk_range (fun i σ H' => ∃ (v4 v5 : Option V) (as : List Addr) (rs : List Ru) (ds : List L), σ = [some (.ref p), some (.int 200), some (.ref l), some (.ref t), v4, v5] ∧ Pool H' p c ∧ Keep p H H' ∧ H' l = some (.lst (as.map V.ref)) ∧ H' t = some (.lst (txs ds)) ∧ RusAt H' as rs ∧ Dn rs ds ∧ rs.length = i ∧ ∀ d ∈ ds, d.length ≤ 200)
      ⟨none, none, [], [], [], rfl, p3, k13, hl3, ht3, RusAt.nil, Dn.nil, rfl, fun d hd => by cases hd⟩ (fun _ _ _ _ _ => trivial) ?_ ?_⟩
    · rintro i v σ H2 H3 hi ⟨v4, v5, as, rs, ds, rfl, p4, k4, l4, t4, r4, d4, hi4, h200⟩ ⟨rfl, rfl⟩
      have hi : i < 1 + m := by omega
      have hdl := d4.len
      refine ⟨_, rfl, _, rfl, _, rfl, p, c, t, ds, rfl, p4, t4, by omega, h200, fun H4 a r p5 k5 ha ok hden => ?_⟩
      obtain ⟨px, hpx⟩ := p4.lst
      have g5 : Gro H3 H4 := k5.gro hpx
      have l5 := k5 _ _ l4 nl.1
      have t5 := k5 _ _ t4 nt.1
      refine ⟨_, rfl, .inl ⟨rfl, _, SqL.of l5⟩, _, rfl, l, _, _, rfl, rfl, l5, ?_, ?_⟩
      · rw [List.length_map, r4.len]
        exact szl (by omega)
      have g6 : Gro H4 (upd H4 l (.lst (as.map V.ref ++ [.ref a]))) := upd_gro l5
      have t6 : (upd H4 l (.lst (as.map V.ref ++ [.ref a]))) t = some (.lst (txs ds)) := by rw [upd_ne nlt.symm]; exact t5
      refine ⟨_, rfl, .inl ⟨rfl, _, SqL.of t6⟩, _, rfl, _, rfl, t, a, r, ds, rfl, t6, g6.tup _ _ ha, ok, hden, h200, t, _, _, rfl, rfl, t6, ?_, ?_⟩
      · rw [txs_len]
        exact szl (by omega)
      have g7 : Gro (upd H4 l (.lst (as.map V.ref ++ [.ref a]))) (upd (upd H4 l (.lst (as.map V.ref ++ [.ref a]))) t (.lst (txs ds ++ [.str (S (r.den ds))]))) := upd_gro t6
      refine ⟨_, _, as ++ [a], rs ++ [r], ds ++ [r.den ds], rfl, (p5.put nl.1 nl.2).put nt.1 nt.2, ((k4.trans k5).mut hl).mut ht0, ?_, ?_, ((r4.gro g5).gro (g6.trans g7)).snoc ((g6.trans g7).tup _ _ ha), d4.snoc ok, by simp [hi4], ?_⟩
      · rw [upd_ne nlt, upd_same, List.map_append]
        rfl
      · rw [upd_same]
        unfold txs
        rw [List.map_append]
        rfl
      · intro d hd
        rcases List.mem_append.mp hd with hd | hd
        · exact h200 d hd
        · rw [List.mem_singleton.mp hd]
          exact hden
    · rintro σ H2 ⟨v4, v5, as, rs, ds, rfl, p4, k4, l4, t4, r4, d4, hi4, h200⟩
      refine ⟨_, rfl, _, rfl, by show 2 ≤ sizeLine; decide, fun tt htt => ?_⟩
      have s5 := same_upd (o := .tup [.ref l, .ref t]) htt
      exact q _ tt l t as rs ds (p4.same s5) (k4.same s5) upd_same (s5 _ _ l4) (r4.gro (sGro s5)) d4 (by omega) (by omega) h200
/-! ### _law_great -/
def spLg (C : Addr) : Sp := fun vs H Q _ => ∃ (p c : Addr), vs = [.ref p] ∧ Pool H p c ∧
  ∀ H' (tt x y : Addr) (d : L), Pool H' p c → Keep p H H' → H' tt = some (.tup [.ref x, .ref y]) → TxtAt C H' x 2 d → Q (.ref tt) H'
theorem ok_Lg (T : Tx w K mg C D Z) (GLt : Fc P w K mg base 2 "_law_take" ["_law_pool_here", "_law_many"] spLt) (GTi : Fk P w K mg base 4 "Text" C ["self", "rules"] (spTi C)) (F : Df K mg "_law_great" sLg) : Fc P w K mg base 6 "_law_great" ["_law_pool_here"] (spLg C) := by
  refine fc_of F (fun _ _ _ _ _ _ us hl => match us, hl with | [_], _ => rfl) scLg (fun vs H Q E h => ?_) (fun f cdv A outer st H vs Q E hr h => ?_)
  · obtain ⟨p, c, rfl, _⟩ := h
    rfl
  · obtain ⟨p, c, rfl, hp, q⟩ := h
    have eM := MX_eq
    refine ⟨_, (pss_cons (ps_set (i := 1) scLg.nd rfl (by first | exact Or.inl rfl | exact Or.inr rfl) (pe_ix ix_tup (pe_tup (pa_cons pe_str (pa_cons pe_str (pa_cons pe_str (pa_cons pe_str (pa_cons pe_str pa_nil)))))) (pe_c GLt (hr.mono (by decide)) (pa_cons (pv 0) (pa_cons pe_int pa_nil))) (fun _ _ => rfl)))
      (pss_cons (ps_set (i := 2) scLg.nd rfl (by first | exact Or.inl rfl | exact Or.inr rfl) (pe_ix ix_tup (pe_tup (pa_cons (pe_op op_add pe_int (pe_c GLt (hr.mono (by decide)) (pa_cons (pv 0) (pa_cons (pe_op op_pow pe_int pe_int) pa_nil)))) (pa_cons (pe_op op_add pe_int (pe_c GLt (hr.mono (by decide)) (pa_cons (pv 0) (pa_cons pe_int pa_nil)))) pa_nil))) (pe_op op_fdivW (pe_c GLt (hr.mono (by decide)) (pa_cons (pv 0) (pa_cons pe_int pa_nil))) pe_int) (fun _ _ => rfl)))
      (pss_one (ps_ret (pe_tup (pa_cons (pe_mk GTi (hr.mono (by decide)) (pa_cons (pe_tup (pa_cons (pe_tup (pa_cons pe_str (pa_cons (pv 1) pa_nil))) (pa_cons (pe_tup (pa_cons pe_str (pa_cons pe_int (pa_cons (pv 2) pa_nil)))) pa_nil))) pa_nil)) (pa_cons (pe_lst (pa_cons (pe_tup (pa_cons (pv 1) (pa_cons pe_int (pa_cons (pe_op op_mul (pe_callB (id := "len") call_len_str (by rfl) T.len_ (by decide +kernel) (pa_cons (pv 1) pa_nil)) (pv 2)) (pa_cons pe_bl pa_nil))))) pa_nil)) pa_nil))))))), ?_⟩
    refine ⟨by show 5 ≤ sizeLine; decide, fun a ha => ⟨_, rfl, p, c, 5, rfl, hp.same (same_upd ha), by decide, by decide, fun H1 e1 p1 k1 h1 => ?_⟩⟩
    obtain ⟨z, ez, z7, zall⟩ := gbase e1 h1
    have k01 : Keep p H H1 := (sKeep (same_upd ha)).trans k1
    refine ⟨a, _, _, _, rfl, rfl, SqT.of (k1 _ _ upd_same (hp.fr ha).1), atI_nat ez, ?_⟩
    refine ⟨_, rfl, _, _, rfl, rfl, ⟨by decide, by decide, by decide⟩, p, c, 100000000000, congrArg (fun z => [V.ref p, V.int z]) pow11, p1, by decide, by decide, fun H2 e2 p2 k2 h2 => ⟨_, _, rfl, rfl, _, rfl, p, c, 30, rfl, p2, by decide, by decide, fun H3 e3 p3 k3 h3 => ⟨_, _, rfl, rfl, ?_⟩⟩⟩
    have k03 := (k01.trans k2).trans k3
    refine ⟨by show 2 ≤ sizeLine; decide, fun a2 ha2 => ⟨_, rfl, p, c, 3, rfl, p3.same (same_upd ha2), by decide, by decide, fun H4 e4 p4 k4 h4 => ?_⟩⟩
    have k04 := (k03.same (same_upd ha2)).trans k4
    obtain ⟨k, ek, hk⟩ := gtimes e2 e3 h2 h3 e4 h4
    refine ⟨_, _, rfl, rfl, wide_div (b := 64) (by decide) (by decide) (by decide) (by decide), a2, _, _, _, rfl, rfl, SqT.of (k4 _ _ upd_same (p3.fr ha2).1), ek, ?_⟩
    -- the text
    refine ⟨_, rfl, by show 2 ≤ sizeLine; decide, fun b1 hb1 => ⟨_, rfl, by show 3 ≤ sizeLine; decide, fun b2 hb2 => ⟨by show 2 ≤ sizeLine; decide, fun b3 hb3 => ?_⟩⟩⟩
    intro x dx nx ndx _
    have s12 : Same H4 (upd H4 b1 (.tup [.str "letters", .str (S z)])) := same_upd hb1
    have s23 := same_upd (o := .tup [.str "power", .int 0, .int (k : Int)]) hb2
    have s34 := same_upd (o := .tup [.ref b1, .ref b2]) hb3
    have r12 : RusAt (upd (upd (upd H4 b1 (.tup [.str "letters", .str (S z)])) b2 (.tup [.str "power", .int 0, .int (k : Int)])) b3 (.tup [.ref b1, .ref b2])) [b1, b2] [.lt z, .pw 0 k] := by
      refine RusAt.snoc (as := [b1]) (rs := [.lt z]) (RusAt.snoc (as := []) (rs := []) RusAt.nil ?_) ?_
      · exact s34 _ _ (s23 _ _ upd_same)
      · exact s34 _ _ upd_same
    have hlk : (List.replicate k z).flatten.length ≤ MX := by
      rw [flat_rep]
      have := Nat.mul_le_mul hk z7
      omega
    have dn : Dn [.lt z, .pw 0 k] [z, (List.replicate k z).flatten] := Dn.snoc (rs := [.lt z]) (ds := [z]) (r := .pw 0 k) (dn_one (by omega) zall) ⟨hlk, by show 0 < 1; decide, by omega⟩
    refine mkT nx ndx (as := [b1, b2]) (.inr upd_same) r12 dn rfl (by show 2 ≤ 60; decide) fun H5 s5 X => ?_
    have s45 := ((s12.trans s23).trans s34).trans s5
    have p5 := p4.same s45
    have k05 := k04.same s45
    refine ⟨_, rfl, _, rfl, S z, rfl, (by rw [SX.S_len]; exact sz (by omega)), _, rfl, _, _, rfl, rfl, .inl ⟨by omega, by rw [SX.S_len]; omega⟩, by show 4 ≤ sizeLine; decide, fun b4 hb4 => ⟨by show 1 ≤ sizeLine; decide, fun b5 hb5 => ⟨by show 2 ≤ sizeLine; decide, fun tt htt => ?_⟩⟩⟩
    have t1 := same_upd (o := .tup [.str (S z), .int 0, .int ((((S z).length : Nat) : Int) * (k : Int)), .bl false]) hb4
    have t2 := same_upd (o := .lst [.ref b4]) hb5
    have t3 := same_upd (o := .tup [.ref x, .ref b5]) htt
    have t := (t1.trans t2).trans t3
    exact q _ tt x b5 _ (p5.same t) (k05.same t) upd_same (X.gro (sGro t))
end
end Sh
set_option Elab.async false
set_option linter.all false
set_option maxRecDepth 100000
set_option maxHeartbeats 4000000
namespace Sh
open PySem PySem.Spec PyProof.Rows L2
open SX (S)
section
variable {P : Program} {w : World} {K : PySem.W.Frag} {mg : Str → Option Value} {base : Heap} {C D Z : Addr}
theorem nonI (i : Int) : ¬ (V.int i = V.non) := fun e => by cases e
theorem nonS (s : Str) : ¬ (V.str s = V.non) := fun e => by cases e
/-! ### _law_is_integer -/
def spLi : Sp := fun vs H Q _ => ∃ (i : Int), vs = [.int i] ∧ Q (.bl true) H
theorem ok_Li (T : Tx w K mg C D Z) (F : Df K mg "_law_is_integer" sLi) : Fc P w K mg base 1 "_law_is_integer" ["_law_actual"] spLi := by
  refine fc_of F (fun _ _ _ _ _ _ us hl => match us, hl with | [_], _ => rfl) scLi (fun vs H Q E h => ?_) (fun f cdv A outer st H vs Q E hr h => ?_)
  · obtain ⟨i, rfl, _⟩ := h
    rfl
  · obtain ⟨i, rfl, q⟩ := h
    refine ⟨_, (pss_one (ps_ret (pe_and (pe_callB (id := "isinstance") call_isi (by rfl) T.isinstance_ (by decide +kernel) (pa_cons (pv 0) (pa_cons (pe_bltn (v := .ty "int") (u := .type "int") (by rfl) T.int_ (by decide +kernel) rfl) pa_nil))) (pe_one (pe_not (pe_callB (id := "isinstance") call_isi (by rfl) T.isinstance_ (by decide +kernel) (pa_cons (pv 0) (pa_cons (pe_bltn (v := .ty "bool") (u := .type "bool") (by rfl) T.bool_ (by decide +kernel) rfl) pa_nil)))))))), ?_⟩
    refine ⟨_, rfl, .int i, .ty "int", _, _, true, rfl, .ty _, .base (.int i), kit_ty (by decide +kernel), _, rfl, iteT ?_⟩
    exact ⟨_, rfl, .int i, .ty "bool", _, _, false, rfl, .ty _, .base (.int i), kit_ty (by decide +kernel), _, rfl, q⟩
/-! ### _law_same -/
def spLs : Sp := fun vs H Q _ => ((∃ i : Int, vs = [.int i, .int i]) ∨ (∃ s : Str, vs = [.str s, .str s])) ∧ Q (.bl true) H
theorem ok_Ls (T : Tx w K mg C D Z) (GLi : Fc P w K mg base 1 "_law_is_integer" ["_law_actual"] spLi) (F : Df K mg "_law_same" sLs) : Fc P w K mg base 2 "_law_same" ["_law_actual", "_law_due"] spLs := by
  refine fc_of F (fun _ _ _ _ _ _ us hl => match us, hl with | [_, _], _ => rfl) scLs (fun vs H Q E h => ?_) (fun f cdv A outer st H vs Q E hr h => ?_)
  · obtain ⟨⟨i, rfl⟩ | ⟨s, rfl⟩, _⟩ := h
    · rfl
    · rfl
  · obtain ⟨⟨i, rfl⟩ | ⟨s, rfl⟩, q⟩ := h
    · refine ⟨_, (pss_cons (ps_if (pt_val (pe_callB (id := "isinstance") call_isi (by rfl) T.isinstance_ (by decide +kernel) (pa_cons (pv 1) (pa_cons (pe_bltn (v := .ty "tuple") (u := .type "tuple") (by rfl) T.tuple_ (by decide +kernel) rfl) pa_nil)))) (pss_cons (ps_if (PW.pt (pw_or (pt_not (pt_val (pe_callB (id := "isinstance") call_isi (by rfl) T.isinstance_ (by decide +kernel) (pa_cons (pv 0) (pa_cons (pe_bltn (v := .ty "tuple") (u := .type "tuple") (by rfl) T.tuple_ (by decide +kernel) rfl) pa_nil))))) (pw_or1 (pt_cmpR op_ne (pe_callB (id := "len") (call_lenK K) (by rfl) T.len_ (by decide +kernel) (pa_cons (pv 0) pa_nil)) (pe_callB (id := "len") (call_lenK K) (by rfl) T.len_ (by decide +kernel) (pa_cons (pv 1) pa_nil)) (nomark _))))) (pss_one (ps_ret pe_bl)) pss_nil)
      (pss_one (ps_ret (pe_callB (id := "all") (cr_all rfl) (by rfl) T.all_ (by decide +kernel) (pa_cons (pe_lc (own := [("_law_k", 2)]) (g := gName 2) (tt := tYes) rfl scLs.nd (pi_range1 rfl T.range_ (pa_cons (pe_callB (id := "len") (call_lenK K) (by rfl) T.len_ (by decide +kernel) (pa_cons (pv 1) pa_nil)) pa_nil)) (blkOk_by (N := ["_law_actual", "_law_due", "_law_k"]) (sc := defScope sLs) (by decide +kernel)) (fun _ _ _ _ _ => pg_name (i := 2) scLs.nd rfl (Or.inl rfl)) (fun _ _ _ _ _ => pts_nil) (fun _ _ _ _ _ => pe_no)) pa_nil))))) pss_nil)
      (pss_cons (ps_if (pt_val (pe_callB (id := "isinstance") call_isi (by rfl) T.isinstance_ (by decide +kernel) (pa_cons (pv 1) (pa_cons (pe_bltn (v := .ty "list") (u := .type "list") (by rfl) T.list_ (by decide +kernel) rfl) pa_nil)))) (pss_cons (ps_if (PW.pt (pw_or (pt_not (pt_val (pe_callB (id := "isinstance") call_isi (by rfl) T.isinstance_ (by decide +kernel) (pa_cons (pv 0) (pa_cons (pe_bltn (v := .ty "list") (u := .type "list") (by rfl) T.list_ (by decide +kernel) rfl) pa_nil))))) (pw_or1 (pt_cmpR op_ne (pe_callB (id := "len") (call_lenK K) (by rfl) T.len_ (by decide +kernel) (pa_cons (pv 0) pa_nil)) (pe_callB (id := "len") (call_lenK K) (by rfl) T.len_ (by decide +kernel) (pa_cons (pv 1) pa_nil)) (nomark _))))) (pss_one (ps_ret pe_bl)) pss_nil)
      (pss_one (ps_ret (pe_callB (id := "all") (cr_all rfl) (by rfl) T.all_ (by decide +kernel) (pa_cons (pe_lc (own := [("_law_k", 2)]) (g := gName 2) (tt := tYes) rfl scLs.nd (pi_range1 rfl T.range_ (pa_cons (pe_callB (id := "len") (call_lenK K) (by rfl) T.len_ (by decide +kernel) (pa_cons (pv 1) pa_nil)) pa_nil)) (blkOk_by (N := ["_law_actual", "_law_due", "_law_k"]) (sc := defScope sLs) (by decide +kernel)) (fun _ _ _ _ _ => pg_name (i := 2) scLs.nd rfl (Or.inl rfl)) (fun _ _ _ _ _ => pts_nil) (fun _ _ _ _ _ => pe_no)) pa_nil))))) pss_nil)
      (pss_cons (ps_if (pt_cmpR op_isN (pv 1) pe_non (nomark _)) (pss_one (ps_ret (pe_cmpR op_isN (pv 0) pe_non (nomark _)))) pss_nil)
      (pss_cons (ps_if (pt_val (pe_callB (id := "isinstance") call_isi (by rfl) T.isinstance_ (by decide +kernel) (pa_cons (pv 1) (pa_cons (pe_bltn (v := .ty "bool") (u := .type "bool") (by rfl) T.bool_ (by decide +kernel) rfl) pa_nil)))) (pss_one (ps_ret (pe_and (pe_callB (id := "isinstance") call_isi (by rfl) T.isinstance_ (by decide +kernel) (pa_cons (pv 0) (pa_cons (pe_bltn (v := .ty "bool") (u := .type "bool") (by rfl) T.bool_ (by decide +kernel) rfl) pa_nil))) (pe_one (pe_cmpR op_eq (pv 0) (pv 1) (nomark _)))))) pss_nil)
      (pss_cons (ps_if (pt_val (pe_callB (id := "isinstance") call_isi (by rfl) T.isinstance_ (by decide +kernel) (pa_cons (pv 1) (pa_cons (pe_bltn (v := .ty "str") (u := .type "str") (by rfl) T.str_ (by decide +kernel) rfl) pa_nil)))) (pss_one (ps_ret (pe_and (pe_callB (id := "isinstance") call_isi (by rfl) T.isinstance_ (by decide +kernel) (pa_cons (pv 0) (pa_cons (pe_bltn (v := .ty "str") (u := .type "str") (by rfl) T.str_ (by decide +kernel) rfl) pa_nil))) (pe_one (pe_cmpR op_eq (pv 0) (pv 1) (nomark _)))))) pss_nil)
      (pss_one (ps_ret (pe_and (pe_c GLi (hr.mono (by decide)) (pa_cons (pv 0) pa_nil)) (pe_one (pe_cmpR op_eq (pv 0) (pv 1) (nomark _))))))))))), ?_⟩
      refine ⟨_, rfl, .int i, .ty "tuple", _, _, false, rfl, .ty _, .base (.int i), kit_ty (by decide +kernel), _, rfl, iteF ?_⟩
      refine ⟨_, rfl, .int i, .ty "list", _, _, false, rfl, .ty _, .base (.int i), kit_ty (by decide +kernel), _, rfl, iteF ?_⟩
      refine ⟨_, rfl, rfl, _, rfl, ifN (nonI i) ?_⟩
      refine ⟨_, rfl, .int i, .ty "bool", _, _, false, rfl, .ty _, .base (.int i), kit_ty (by decide +kernel), _, rfl, iteF ?_⟩
      refine ⟨_, rfl, .int i, .ty "str", _, _, false, rfl, .ty _, .base (.int i), kit_ty (by decide +kernel), _, rfl, iteF ?_⟩
      refine ⟨_, rfl, i, rfl, _, rfl, iteT ?_⟩
      refine ⟨_, rfl, _, rfl, rfl, ?_⟩
      rw [decide_eq_true rfl]
      exact q
    · refine ⟨_, (pss_cons (ps_if (pt_val (pe_callB (id := "isinstance") call_isi (by rfl) T.isinstance_ (by decide +kernel) (pa_cons (pv 1) (pa_cons (pe_bltn (v := .ty "tuple") (u := .type "tuple") (by rfl) T.tuple_ (by decide +kernel) rfl) pa_nil)))) (pss_cons (ps_if (PW.pt (pw_or (pt_not (pt_val (pe_callB (id := "isinstance") call_isi (by rfl) T.isinstance_ (by decide +kernel) (pa_cons (pv 0) (pa_cons (pe_bltn (v := .ty "tuple") (u := .type "tuple") (by rfl) T.tuple_ (by decide +kernel) rfl) pa_nil))))) (pw_or1 (pt_cmpR op_ne (pe_callB (id := "len") (call_lenK K) (by rfl) T.len_ (by decide +kernel) (pa_cons (pv 0) pa_nil)) (pe_callB (id := "len") (call_lenK K) (by rfl) T.len_ (by decide +kernel) (pa_cons (pv 1) pa_nil)) (nomark _))))) (pss_one (ps_ret pe_bl)) pss_nil)
      (pss_one (ps_ret (pe_callB (id := "all") (cr_all rfl) (by rfl) T.all_ (by decide +kernel) (pa_cons (pe_lc (own := [("_law_k", 2)]) (g := gName 2) (tt := tYes) rfl scLs.nd (pi_range1 rfl T.range_ (pa_cons (pe_callB (id := "len") (call_lenK K) (by rfl) T.len_ (by decide +kernel) (pa_cons (pv 1) pa_nil)) pa_nil)) (blkOk_by (N := ["_law_actual", "_law_due", "_law_k"]) (sc := defScope sLs) (by decide +kernel)) (fun _ _ _ _ _ => pg_name (i := 2) scLs.nd rfl (Or.inl rfl)) (fun _ _ _ _ _ => pts_nil) (fun _ _ _ _ _ => pe_no)) pa_nil))))) pss_nil)
      (pss_cons (ps_if (pt_val (pe_callB (id := "isinstance") call_isi (by rfl) T.isinstance_ (by decide +kernel) (pa_cons (pv 1) (pa_cons (pe_bltn (v := .ty "list") (u := .type "list") (by rfl) T.list_ (by decide +kernel) rfl) pa_nil)))) (pss_cons (ps_if (PW.pt (pw_or (pt_not (pt_val (pe_callB (id := "isinstance") call_isi (by rfl) T.isinstance_ (by decide +kernel) (pa_cons (pv 0) (pa_cons (pe_bltn (v := .ty "list") (u := .type "list") (by rfl) T.list_ (by decide +kernel) rfl) pa_nil))))) (pw_or1 (pt_cmpR op_ne (pe_callB (id := "len") (call_lenK K) (by rfl) T.len_ (by decide +kernel) (pa_cons (pv 0) pa_nil)) (pe_callB (id := "len") (call_lenK K) (by rfl) T.len_ (by decide +kernel) (pa_cons (pv 1) pa_nil)) (nomark _))))) (pss_one (ps_ret pe_bl)) pss_nil)
      (pss_one (ps_ret (pe_callB (id := "all") (cr_all rfl) (by rfl) T.all_ (by decide +kernel) (pa_cons (pe_lc (own := [("_law_k", 2)]) (g := gName 2) (tt := tYes) rfl scLs.nd (pi_range1 rfl T.range_ (pa_cons (pe_callB (id := "len") (call_lenK K) (by rfl) T.len_ (by decide +kernel) (pa_cons (pv 1) pa_nil)) pa_nil)) (blkOk_by (N := ["_law_actual", "_law_due", "_law_k"]) (sc := defScope sLs) (by decide +kernel)) (fun _ _ _ _ _ => pg_name (i := 2) scLs.nd rfl (Or.inl rfl)) (fun _ _ _ _ _ => pts_nil) (fun _ _ _ _ _ => pe_no)) pa_nil))))) pss_nil)
      (pss_cons (ps_if (pt_cmpR op_isN (pv 1) pe_non (nomark _)) (pss_one (ps_ret (pe_cmpR op_isN (pv 0) pe_non (nomark _)))) pss_nil)
      (pss_cons (ps_if (pt_val (pe_callB (id := "isinstance") call_isi (by rfl) T.isinstance_ (by decide +kernel) (pa_cons (pv 1) (pa_cons (pe_bltn (v := .ty "bool") (u := .type "bool") (by rfl) T.bool_ (by decide +kernel) rfl) pa_nil)))) (pss_one (ps_ret (pe_and (pe_callB (id := "isinstance") call_isi (by rfl) T.isinstance_ (by decide +kernel) (pa_cons (pv 0) (pa_cons (pe_bltn (v := .ty "bool") (u := .type "bool") (by rfl) T.bool_ (by decide +kernel) rfl) pa_nil))) (pe_one (pe_cmpR op_eq (pv 0) (pv 1) (nomark _)))))) pss_nil)
      (pss_cons (ps_if (pt_val (pe_callB (id := "isinstance") call_isi (by rfl) T.isinstance_ (by decide +kernel) (pa_cons (pv 1) (pa_cons (pe_bltn (v := .ty "str") (u := .type "str") (by rfl) T.str_ (by decide +kernel) rfl) pa_nil)))) (pss_one (ps_ret (pe_and (pe_callB (id := "isinstance") call_isi (by rfl) T.isinstance_ (by decide +kernel) (pa_cons (pv 0) (pa_cons (pe_bltn (v := .ty "str") (u := .type "str") (by rfl) T.str_ (by decide +kernel) rfl) pa_nil))) (pe_one (pe_cmpR op_eq (pv 0) (pv 1) (nomark _)))))) pss_nil)
      (pss_one (ps_ret (pe_and (pe_c GLi (hr.mono (by decide)) (pa_cons (pv 0) pa_nil)) (pe_one (pe_cmpR op_eq (pv 0) (pv 1) (nomark _))))))))))), ?_⟩
      refine ⟨_, rfl, .str s, .ty "tuple", _, _, false, rfl, .ty _, .base (.str s), kit_ty (by decide +kernel), _, rfl, iteF ?_⟩
      refine ⟨_, rfl, .str s, .ty "list", _, _, false, rfl, .ty _, .base (.str s), kit_ty (by decide +kernel), _, rfl, iteF ?_⟩
      refine ⟨_, rfl, rfl, _, rfl, ifN (nonS s) ?_⟩
      refine ⟨_, rfl, .str s, .ty "bool", _, _, false, rfl, .ty _, .base (.str s), kit_ty (by decide +kernel), _, rfl, iteF ?_⟩
      refine ⟨_, rfl, .str s, .ty "str", _, _, true, rfl, .ty _, .base (.str s), kit_ty (by decide +kernel), _, rfl, iteT ?_⟩
      refine ⟨_, rfl, .str s, .ty "str", _, _, true, rfl, .ty _, .base (.str s), kit_ty (by decide +kernel), _, rfl, iteT ?_⟩
      refine ⟨_, rfl, _, rfl, rfl, ?_⟩
      rw [decide_eq_true rfl]
      exact q
/-! ### _law_alike -/
theorem three_at (d : Nat) (h : d < 3) : ∃ k : Nat, [V.int 1, V.int 30, V.int 400][d]? = some (.int (k : Int)) ∧ 1 ≤ k ∧ k ≤ 400 := by
  match d, h with
  | 0, _ => exact ⟨1, rfl, by decide, by decide⟩
  | 1, _ => exact ⟨30, rfl, by decide, by decide⟩
  | 2, _ => exact ⟨400, rfl, by decide, by decide⟩
theorem max1 (n : Nat) : (if (n : Int) > 1 then (n : Int) else 1) = ((max 1 n : Nat) : Int) := by
  split <;> omega
theorem Keep.txt {p c x : Addr} {H H' : Hp} {n : Nat} {d : L} (k : Keep p H H') (hp : Pool H p c) (X : TxtAt C H x n d) : TxtAt C H' x n d := by
  obtain ⟨xs, e⟩ := hp.lst
  exact X.gro (k.gro e)
def spLa (C : Addr) : Sp := fun vs H Q _ => ∃ (p c x y : Addr) (n m : Nat) (d : L), vs = [.ref p, .ref x, .ref y] ∧ Pool H p c ∧ TxtAt C H x n d ∧ TxtAt C H y m d ∧ ∀ H', Pool H' p c → Keep p H H' → Q (.bl true) H'
theorem ok_La (T : Tx w K mg C D Z) (GLt : Fc P w K mg base 2 "_law_take" ["_law_pool_here", "_law_many"] spLt) (GLs : Fc P w K mg base 2 "_law_same" ["_law_actual", "_law_due"] spLs) (GTl : Fm P w K mg base 2 C "letter" ["self", "place"] (spTl C)) (GTs : Fm P w K mg base 2 C "letters" ["self", "start", "stop"] (spTs C)) (F : Df K mg "_law_alike" sLa) : Fc P w K mg base 3 "_law_alike" ["_law_pool_here", "_law_one", "_law_other"] (spLa C) := by
  refine fc_of F (fun _ _ _ _ _ _ us hl => match us, hl with | [_, _, _], _ => rfl) scLa (fun vs H Q E h => ?_) (fun f cdv A outer st H vs Q E hr h => ?_)
  · obtain ⟨p, c, x, y, n, m, d, rfl, _⟩ := h
    rfl
  · obtain ⟨p, c, x, y, n, m, d, rfl, hp, X, Y, q⟩ := h
    have eM := MX_eq
    have hmx := X.le
    refine ⟨_, (pss_cons (ps_if (pt_not (pt_val (pe_c GLs (hr.mono (by decide)) (pa_cons (pe_fld (pv 1) rfl) (pa_cons (pe_fld (pv 2) rfl) pa_nil))))) (pss_one (ps_ret pe_bl)) pss_nil)
      (pss_cons (ps_set (i := 3) scLa.nd rfl (by first | exact Or.inl rfl | exact Or.inr rfl) (pe_fld (pv 1) rfl))
      (pss_cons (ps_set (i := 4) scLa.nd rfl (by first | exact Or.inl rfl | exact Or.inr rfl) (pe_op op_cat (pe_lst (pa_cons pe_int (pa_cons (pe_op op_sub (pv 3) pe_int) pa_nil))) (pe_lc (own := [("_law_k", 5)]) (g := gName 5) (tt := tYes) rfl scLa.nd (pi_range1 rfl T.range_ (pa_cons pe_int pa_nil)) (blkOk_by (N := ["_law_pool_here", "_law_one", "_law_other", "_law_length", "_law_places", "_law_k", "_law_place", "_law_far"]) (sc := defScope sLa) (by decide +kernel)) (fun _ _ _ _ _ => pg_name (i := 5) scLa.nd rfl (Or.inl rfl)) (fun _ _ _ _ _ => pts_nil) (fun _ _ _ _ _ => (pe_c GLt (hr.mono (by decide)) (pa_cons (pv 0) (pa_cons (pe_callB (id := "max") (call_max2 rfl) (by rfl) T.max_ (by decide +kernel) (pa_cons pe_int (pa_cons (pv 3) pa_nil))) pa_nil)))))))
      (pss_cons (ps_for PassesOwn.never rfl (pi_list (pv 4)) (pg_name (i := 6) scLa.nd rfl (Or.inl rfl)) (pss_one (ps_if (pt_chain op_le op_lt pe_int (pv 6) (pv 3)) (pss_cons (ps_set (i := 7) scLa.nd rfl (by first | exact Or.inl rfl | exact Or.inr rfl) (pe_callB (id := "min") (call_min2 rfl) (by rfl) T.min_ (by decide +kernel) (pa_cons (pv 3) (pa_cons (pe_op op_add (pv 6) (pe_ix ix_tup (pe_tup (pa_cons pe_int (pa_cons pe_int (pa_cons pe_int pa_nil)))) (pe_c GLt (hr.mono (by decide)) (pa_cons (pv 0) (pa_cons pe_int pa_nil))) (fun _ _ => rfl))) pa_nil))))
      (pss_cons (ps_if (pt_not (pt_val (pe_c GLs (hr.mono (by decide)) (pa_cons (pe_m (pv 1) T.clT GTl (hr.mono (by decide)) (pa_cons (pv 6) pa_nil)) (pa_cons (pe_m (pv 2) T.clT GTl (hr.mono (by decide)) (pa_cons (pv 6) pa_nil)) pa_nil))))) (pss_one (ps_ret pe_bl)) pss_nil)
      (pss_one (ps_if (pt_not (pt_val (pe_c GLs (hr.mono (by decide)) (pa_cons (pe_m (pv 1) T.clT GTs (hr.mono (by decide)) (pa_cons (pv 6) (pa_cons (pv 7) pa_nil))) (pa_cons (pe_m (pv 2) T.clT GTs (hr.mono (by decide)) (pa_cons (pv 6) (pa_cons (pv 7) pa_nil))) pa_nil))))) (pss_one (ps_ret pe_bl)) pss_nil)))) pss_nil)))
      (pss_one (ps_ret pe_bl)))))), ?_⟩
    refine ⟨_, rfl, fN T X ⟨_, rfl, fN T Y ⟨.inl ⟨_, rfl⟩, _, rfl, nF ?_⟩⟩⟩
    refine ⟨_, rfl, fN T X ?_⟩
    refine ⟨_, rfl, _, _, rfl, rfl, by show 2 ≤ sizeLine; decide, fun l1 hl1 => ?_⟩
    have s1 := same_upd (o := .lst [.int 0, .int (((d.length : Nat) : Int) - 1)]) hl1
    have p1 := hp.same s1
    have n1 := hp.fr hl1
    refine ⟨4, rfl, by decide, by decide, fun l2 hl2 => ?_⟩
    have n2 := p1.fr hl2
    have nll : l1 ≠ l2 := ne_of_none upd_same hl2
    have hl20 : H l2 = none := s1.free hl2
    refine lc_it walk_range (fun i H' => ∃ zs : List Int, Pool H' p c ∧ Keep p H H' ∧ H' l1 = some (.lst [.int 0, .int (((d.length : Nat) : Int) - 1)]) ∧ H' l2 = some (.lst (zs.map V.int)) ∧ zs.length = i)
      ⟨[], p1.put n2.1 n2.2, (sKeep s1).mut hl20, by rw [upd_ne nll]; exact upd_same, upd_same, rfl⟩ (fun _ _ _ _ => trivial) ?_ ?_
    · rintro i v H1 H2 hi ⟨zs, p3, k3, h1, h2, hz⟩ ⟨rfl, rfl⟩
      have hi : i < 4 := by simpa using hi
      refine ⟨rfl, ?_⟩
      dsimp only [tYes]
      rw [if_pos rfl]
      refine ⟨_, rfl, _, rfl, _, _, rfl, p, c, max 1 d.length, congrArg (fun z => [V.ref p, V.int z]) (max1 d.length), p3, by omega, by omega, fun H3 e p4 k4 he => ?_⟩
      refine ⟨_, k4 _ _ h2 n2.1, ?_, zs ++ [(e : Int)], p4.put n2.1 n2.2, (k3.trans k4).mut hl20, ?_, ?_, by simp [hz]⟩
      · rw [List.length_map]
        exact szl (by omega)
      · rw [upd_ne nll]
        exact k4 _ _ h1 n1.1
      · rw [upd_same, List.map_append]
        rfl
    rintro H1 ⟨zs, p3, k3, h1, h2, hz⟩
    have hz : zs.length = 4 := by simpa using hz
    refine ⟨l1, l2, _, _, rfl, rfl, h1, h2, ?_, fun l3 hl3 => ?_⟩
    · rw [List.length_map, hz]
      show 2 + 4 ≤ sizeLine
      decide
    have s3 := same_upd (o := .lst ([.int 0, .int (((d.length : Nat) : Int) - 1)] ++ zs.map V.int)) hl3
    have n3 := p3.fr hl3
    have p4 := p3.same s3
    have k4 := k3.same s3
    have h3 : (upd H1 l3 (.lst ([.int 0, .int (((d.length : Nat) : Int) - 1)] ++ zs.map V.int))) l3 = some (.lst (([0, ((d.length : Nat) : Int) - 1] ++ zs).map V.int)) := upd_same
    refine ⟨_, rfl, l3, rfl, ⟨_, SqL.of h3⟩, for_it (walk_list (K := K) (a := l3) (xs := ([0, ((d.length : Nat) : Int) - 1] ++ zs).map V.int)) (fun i σ H' => ∃ v5 v6 v7, σ = [some (.ref p), some (.ref x), some (.ref y), some (.int ((d.length : Nat) : Int)), some (.ref l3), v5, v6, v7] ∧ Pool H' p c ∧ Keep p H H' ∧ H' l3 = some (.lst (([0, ((d.length : Nat) : Int) - 1] ++ zs).map V.int)))
      ⟨none, none, none, rfl, p4, k4, h3⟩ (fun i σ H' _ ⟨_, _, _, _, _, _, h⟩ => SqL.of h) ?_ ?_⟩
    · rintro i v σ H2 H3 hi ⟨v5, v6, v7, rfl, p5, k5, h5⟩ ⟨rfl, hv⟩
      obtain ⟨z, rfl⟩ : ∃ z : Int, v = .int z := by
        rw [List.getElem?_map] at hv
        cases e : ([0, ((d.length : Nat) : Int) - 1] ++ zs)[i]? with
        | none => rw [e] at hv; cases hv
        | some z => rw [e] at hv; exact ⟨z, (Option.some.inj hv).symm⟩
      refine ⟨_, rfl, _, _, rfl, rfl, _, rfl, ite2 (fun h => ?_) (fun h => ?_)⟩
      · have h := of_decide_eq_true h
        refine ⟨_, rfl, _, _, rfl, rfl, _, rfl, ite2 (fun h' => ?_) (fun h' => ?_)⟩
        · have h' := of_decide_eq_true h'
          obtain ⟨g, rfl⟩ : ∃ g : Nat, z = (g : Int) := ⟨z.toNat, by omega⟩
          have hg : g < d.length := by omega
          refine ⟨_, rfl, _, rfl, by show 3 ≤ sizeLine; decide, fun a ha => ⟨_, rfl, p, c, 3, rfl, p5.same (same_upd ha), by decide, by decide, fun H4 e p6 k6 he => ?_⟩⟩
          obtain ⟨k, ek, k1, k400⟩ := three_at e he
          have k56 := (k5.same (same_upd ha)).trans k6
          refine ⟨a, _, _, _, rfl, rfl, SqT.of (k6 _ _ upd_same (p5.fr ha).1), atI_nat ek, _, _, rfl, rfl, _, _, rfl, ?_⟩
          have em : (if (g : Int) + (k : Int) < ((d.length : Nat) : Int) then (g : Int) + (k : Int) else ((d.length : Nat) : Int)) = ((min d.length (g + k) : Nat) : Int) := by
            split <;> omega
          rw [em]
          have X6 := k56.txt hp X
          have Y6 := k56.txt hp Y
          have h6 : H4 l3 = _ := k6 _ _ (same_upd (o := .tup [.int 1, .int 30, .int 400]) ha _ _ h5) n3.1
          have ed := List.getElem?_eq_getElem hg
          refine ⟨_, rfl, mT X6 (by decide +kernel) (by decide +kernel) (by decide +kernel) ⟨_, rfl, x, n, g, _, d, rfl, X6, ed, fun H7 s7 => ?_⟩⟩
          have Y7 := Y6.gro (sGro s7)
          refine ⟨_, rfl, mT Y7 (by decide +kernel) (by decide +kernel) (by decide +kernel) ⟨_, rfl, y, m, g, _, d, rfl, Y7, ed, fun H8 s8 => ?_⟩⟩
          refine ⟨.inr ⟨_, rfl⟩, _, rfl, nF ?_⟩
          have X8 := X6.gro (sGro (s7.trans s8))
          refine ⟨_, rfl, mT X8 (by decide +kernel) (by decide +kernel) (by decide +kernel) ⟨_, rfl, _, rfl, x, n, g, min d.length (g + k), d, rfl, X8, by omega, by omega, by omega, fun H9 s9 => ?_⟩⟩
          have Y9 := Y7.gro (sGro (s8.trans s9))
          refine ⟨_, rfl, mT Y9 (by decide +kernel) (by decide +kernel) (by decide +kernel) ⟨_, rfl, _, rfl, y, m, g, min d.length (g + k), d, rfl, Y9, by omega, by omega, by omega, fun H10 s10 => ?_⟩⟩
          have s := ((s7.trans s8).trans s9).trans s10
          exact ⟨.inr ⟨_, rfl⟩, _, rfl, nF ⟨_, _, _, rfl, p6.same s, k56.same s, s _ _ h6⟩⟩
        · exact ⟨_, _, _, rfl, p5, k5, h5⟩
      · exact ⟨_, rfl, iteF ⟨_, _, _, rfl, p5, k5, h5⟩⟩
    · rintro σ H2 ⟨v5, v6, v7, rfl, p5, k5, h5⟩
      exact q _ p5 k5
end
end Sh
set_option Elab.async false
set_option linter.all false
set_option maxRecDepth 100000
set_option maxHeartbeats 4000000
namespace Sh
open PySem PySem.Spec PyProof.Rows L2
theorem tri {X P M Q : L} (h : X = P ++ (M ++ Q)) {a b n : Nat} (ha : a = P.length) (hb : b = P.length + M.length) (hn : n = X.length) : cutL X 0 a = P ∧ cutL X a b = M ∧ cutL X b n = Q := by
  subst ha hb hn h
  refine ⟨?_, ?_, ?_⟩
  · rw [cutL_app1 (Nat.le_refl _), cutL_all]
  · rw [cutL_app2 (Nat.le_refl _), Nat.sub_self, Nat.add_sub_cancel_left, cutL_app1 (Nat.le_refl _), cutL_all]
  · rw [cutL_app2 (Nat.le_add_right _ _), Nat.add_sub_cancel_left, cutL_app2 (Nat.le_refl _), Nat.sub_self, List.length_append, Nat.add_sub_cancel_left, List.length_append, Nat.add_sub_cancel_left, cutL_all]
theorem duo {X P Q : L} (h : X = P ++ Q) {a n : Nat} (ha : a = P.length) (hn : n = X.length) : cutL X 0 a = P ∧ cutL X a n = Q := by
  have z := tri (X := X) (P := P) (M := []) (Q := Q) (by rw [h]; rfl) (a := a) (b := a) (n := n) ha (by rw [ha]; rfl) hn
  exact ⟨z.1, z.2.2⟩
section
variable {d : L} {s t : Nat}
theorem cut3 (h1 : s ≤ t) (h2 : t ≤ d.length) : d = cutL d 0 s ++ (cutL d s t ++ cutL d t d.length) := by
  rw [cutL_cat h1 h2, cutL_cat (Nat.zero_le _) (Nat.le_trans h1 h2), cutL_all]
theorem cut2 (h : s ≤ d.length) : d = cutL d 0 s ++ cutL d s d.length := by
  rw [cutL_cat (Nat.zero_le _) h, cutL_all]
/-- put in, taken out -/
theorem pr1 (e : L) (h : s ≤ d.length) : cutL (cutL d 0 s ++ (e ++ cutL d s d.length)) 0 s ++ cutL (cutL d 0 s ++ (e ++ cutL d s d.length)) (s + e.length) (cutL d 0 s ++ (e ++ cutL d s d.length)).length = d := by
  have l1 := cutL_len (d := d) (a := 0) (b := s) (by omega) h
  obtain ⟨a1, _, a3⟩ := tri (X := cutL d 0 s ++ (e ++ cutL d s d.length)) (P := cutL d 0 s) (M := e) (Q := cutL d s d.length) rfl (a := s) (b := s + e.length) (by omega) (by omega) rfl
  rw [a1, a3]
  exact (cut2 h).symm
/-- turned twice -/
theorem pr2 (h1 : s ≤ t) (h2 : t ≤ d.length) : cutL (cutL d 0 s ++ ((cutL d s t).reverse ++ cutL d t d.length)) 0 s ++ ((cutL (cutL d 0 s ++ ((cutL d s t).reverse ++ cutL d t d.length)) s t).reverse ++ cutL (cutL d 0 s ++ ((cutL d s t).reverse ++ cutL d t d.length)) t (cutL d 0 s ++ ((cutL d s t).reverse ++ cutL d t d.length)).length) = d := by
  have l1 := cutL_len (d := d) (a := 0) (b := s) (by omega) (by omega)
  have l2 := cutL_len (d := d) h1 h2
  obtain ⟨a1, a2, a3⟩ := tri (X := cutL d 0 s ++ ((cutL d s t).reverse ++ cutL d t d.length)) (P := cutL d 0 s) (M := (cutL d s t).reverse) (Q := cutL d t d.length) rfl (a := s) (b := t) (by omega) (by rw [List.length_reverse]; omega) rfl
  rw [a1, a2, a3, List.reverse_reverse]
  exact (cut3 h1 h2).symm
theorem left_len (h1 : s ≤ t) (h2 : t ≤ d.length) : (cutL d 0 s ++ cutL d t d.length).length = d.length - (t - s) := by
  rw [List.length_append, cutL_len (by omega) (by omega), cutL_len h2 (Nat.le_refl _)]
  omega
/-- the letters moved to p -/
def mvL (d : L) (s t p : Nat) : L := cutL (cutL d 0 s ++ cutL d t d.length) 0 p ++ (cutL d s t ++ cutL (cutL d 0 s ++ cutL d t d.length) p (d.length - (t - s)))
theorem mv_len {p : Nat} (h1 : s ≤ t) (h2 : t ≤ d.length) (h3 : p + (t - s) ≤ d.length) : (mvL d s t p).length = d.length := by
  have l := left_len h1 h2
  unfold mvL
  rw [List.length_append, List.length_append, cutL_len (by omega) (by omega), cutL_len h1 h2, cutL_len (by omega) (by omega)]
  omega
/-- moved, and back -/
theorem pr3 {p : Nat} (h1 : s ≤ t) (h2 : t ≤ d.length) (h3 : p + (t - s) ≤ d.length) : mvL (mvL d s t p) p (p + (t - s)) s = d := by
  have l := left_len h1 h2
  have ml := mv_len h1 h2 h3
  have l0 := cutL_len (d := d) (a := 0) (b := s) (by omega) (by omega)
  have l1 := cutL_len (d := d) h1 h2
  have l2 := cutL_len (d := cutL d 0 s ++ cutL d t d.length) (a := 0) (b := p) (by omega) (by omega)
  obtain ⟨a1, a2, a3⟩ := tri (X := mvL d s t p) rfl (a := p) (b := p + (t - s)) (n := (mvL d s t p).length) (by omega) (by omega) rfl
  unfold mvL at a1 a2 a3 ⊢
  rw [a1, a2, a3]
  rw [← l, cutL_cat (Nat.zero_le _) (by omega), cutL_all]
  obtain ⟨b1, b2⟩ := duo (X := cutL d 0 s ++ cutL d t d.length) rfl (a := s) (by omega) rfl
  have e : (cutL (cutL d 0 s ++ cutL d t d.length) 0 p ++ (cutL d s t ++ cutL (cutL d 0 s ++ cutL d t d.length) p (cutL d 0 s ++ cutL d t d.length).length)).length - (p + (t - s) - p) = (cutL d 0 s ++ cutL d t d.length).length := by
    have : (cutL (cutL d 0 s ++ cutL d t d.length) 0 p ++ (cutL d s t ++ cutL (cutL d 0 s ++ cutL d t d.length) p (cutL d 0 s ++ cutL d t d.length).length)).length = d.length := by
      rw [l]
      exact ml
    rw [this, l]
    omega
  rw [e, b1, b2]
  exact (cut3 h1 h2).symm
theorem pr4 (h1 : s ≤ t) (h2 : t ≤ d.length) : cutL d 0 s ++ ((List.replicate 1 (cutL d s t)).flatten ++ cutL d t d.length) = d := by
  have e : (List.replicate 1 (cutL d s t)).flatten = cutL d s t := by simp
  rw [e]
  exact (cut3 h1 h2).symm
theorem pr5 : cutL d 0 s ++ ((List.replicate 0 (cutL d s t)).flatten ++ cutL d t d.length) = cutL d 0 s ++ cutL d t d.length := rfl
theorem pr6 (h1 : s ≤ t) (h2 : t ≤ d.length) : cutL d 0 s ++ ((List.replicate 2 (cutL d s t)).flatten ++ cutL d t d.length) = cutL d 0 t ++ (cutL d s t ++ cutL d t d.length) := by
  have e : (List.replicate 2 (cutL d s t)).flatten = cutL d s t ++ cutL d s t := by
    show cutL d s t ++ (cutL d s t ++ []) = _
    rw [List.append_nil]
  rw [e, ← cutL_cat (d := d) (Nat.zero_le s) h1, List.append_assoc, List.append_assoc]
theorem pr7 (e : L) (h1 : s ≤ t) (h2 : t ≤ d.length) : cutL d 0 s ++ (e ++ cutL d t d.length) = cutL (cutL d 0 s ++ cutL d t d.length) 0 s ++ (e ++ cutL (cutL d 0 s ++ cutL d t d.length) s (cutL d 0 s ++ cutL d t d.length).length) := by
  have l0 := cutL_len (d := d) (a := 0) (b := s) (by omega) (by omega)
  obtain ⟨b1, b2⟩ := duo (X := cutL d 0 s ++ cutL d t d.length) rfl (a := s) (by omega) rfl
  rw [b1, b2]
theorem pr8 {p : Nat} (h1 : s ≤ t) (h2 : t ≤ d.length) : cutL (cutL d 0 s ++ cutL d t d.length) 0 p ++ (cutL d s t ++ cutL (cutL d 0 s ++ cutL d t d.length) p (cutL d 0 s ++ cutL d t d.length).length) = mvL d s t p := by
  unfold mvL
  rw [left_len h1 h2]
/-- the phrases -/
def phs (n s : Nat) : List Ph := (if 0 < s then [(0, s)] else []) ++ if s < n then [(s, n - s)] else []
theorem phs_cat (h : s ≤ d.length) : catP d (phs d.length s) = d := by
  have e := cut2 (d := d) (s := s) h
  unfold phs catP
  by_cases h1 : 0 < s
  · rw [if_pos h1]
    by_cases h2 : s < d.length
    · rw [if_pos h2]
      show cutL d 0 (0 + s) ++ (cutL d s (s + (d.length - s)) ++ []) = d
      rw [List.append_nil, Nat.zero_add, show s + (d.length - s) = d.length by omega]
      exact e.symm
    · rw [if_neg h2]
      show cutL d 0 (0 + s) ++ [] = d
      rw [List.append_nil, Nat.zero_add, show s = d.length by omega, cutL_all]
  · rw [if_neg h1]
    by_cases h2 : s < d.length
    · rw [if_pos h2]
      show cutL d s (s + (d.length - s)) ++ [] = d
      rw [List.append_nil, show s + (d.length - s) = d.length by omega, show s = 0 by omega, cutL_all]
    · rw [if_neg h2]
      show [] = d
      exact (List.length_eq_zero_iff.mp (by omega)).symm
theorem phs_ok (h : s ≤ d.length) : ∀ p ∈ phs d.length s, p.1 + p.2 ≤ d.length ∧ 1 ≤ p.2 := by
  intro p hp
  unfold phs at hp
  rcases List.mem_append.mp hp with hp | hp
  · split at hp
    · rw [List.mem_singleton.mp hp]
      exact ⟨by show 0 + s ≤ d.length; omega, by show 1 ≤ s; omega⟩
    · cases hp
  · split at hp
    · rw [List.mem_singleton.mp hp]
      exact ⟨by show s + (d.length - s) ≤ d.length; omega, by show 1 ≤ d.length - s; omega⟩
    · cases hp
theorem phs_sum (h : s ≤ d.length) : sumP (phs d.length s) = d.length := by
  have e := catP_len d (phs d.length s) fun p hp => (phs_ok h p hp).1
  rw [phs_cat h] at e
  exact e.symm
theorem phs_len (n s : Nat) : (phs n s).length ≤ 2 := by
  unfold phs
  rw [List.length_append]
  split <;> split <;> simp
end
end Sh
set_option Elab.async false
set_option linter.all false
set_option maxRecDepth 100000
set_option maxHeartbeats 8000000
namespace Sh
open PySem PySem.Spec PyProof.Rows L2
open SX (S)
theorem abc_S : Str.ofString "abc" = S [97, 98, 99] := by decide +kernel
theorem pow12 : (10 : Int) ^ (12 : Int).toNat = 1000000000000 := by decide +kernel
/-- a pair of texts of the same letters -/
def PairAt (C : Addr) (H : Hp) (q : Addr) : Prop := ∃ (a b : Addr) (n m : Nat) (d : L), H q = some (.tup [.ref a, .ref b]) ∧ TxtAt C H a n d ∧ TxtAt C H b m d
theorem PairAt.gro {C : Addr} {H H' : Hp} {q : Addr} (h : PairAt C H q) (g : Gro H H') : PairAt C H' q := by
  obtain ⟨a, b, n, m, d, h1, h2, h3⟩ := h
  exact ⟨a, b, n, m, d, g.tup _ _ h1, h2.gro g, h3.gro g⟩
/-- what stands while the pairs are laid -/
structure Ev (C : Addr) (H : Hp) (p c l : Addr) (as : List Addr) (ts : List (Addr × Nat × L)) : Prop where
  pool : Pool H p c
  txt : ∀ q ∈ ts, TxtAt C H q.1 q.2.1 q.2.2
  lst : H l = some (.lst (as.map V.ref))
  prs : ∀ q ∈ as, PairAt C H q
  np : l ≠ p
  nc : l ≠ c
theorem Ev.same {C : Addr} {H H' : Hp} {p c l : Addr} {as : List Addr} {ts : List (Addr × Nat × L)} (h : Ev C H p c l as ts) (s : Same H H') : Ev C H' p c l as ts :=
  ⟨h.pool.same s, fun q hq => (h.txt q hq).gro (sGro s), s _ _ h.lst, fun q hq => (h.prs q hq).gro (sGro s), h.np, h.nc⟩
theorem Ev.add {C : Addr} {H : Hp} {p c l : Addr} {as : List Addr} {ts : List (Addr × Nat × L)} (h : Ev C H p c l as ts) {x : Addr} {n : Nat} {d : L} (X : TxtAt C H x n d) : Ev C H p c l as (ts ++ [(x, n, d)]) :=
  ⟨h.pool, fun q hq => by
    rcases List.mem_append.mp hq with hq | hq
    · exact h.txt q hq
    · rw [List.mem_singleton.mp hq]
      exact X, h.lst, h.prs, h.np, h.nc⟩
theorem Ev.push {C : Addr} {H : Hp} {p c l q : Addr} {as : List Addr} {ts : List (Addr × Nat × L)} (h : Ev C H p c l as ts) (hq : PairAt C H q) : Ev C (upd H l (.lst (as.map V.ref ++ [.ref q]))) p c l (as ++ [q]) ts := by
  have g : Gro H (upd H l (.lst (as.map V.ref ++ [.ref q]))) := upd_gro h.lst
  refine ⟨h.pool.put h.np h.nc, fun q hq => (h.txt q hq).gro g, ?_, fun q' hq' => ?_, h.np, h.nc⟩
  · rw [upd_same, List.map_append]
    rfl
  · rcases List.mem_append.mp hq' with hq' | hq'
    · exact (h.prs q' hq').gro g
    · rw [List.mem_singleton.mp hq']
      exact hq.gro g
/-- .. and a list beside it changes -/
theorem Ev.put {C : Addr} {H : Hp} {p c l l2 : Addr} {as : List Addr} {ts : List (Addr × Nat × L)} {xs : List V} {o : HO} (h : Ev C H p c l as ts) (h2 : H l2 = some (.lst xs)) (n1 : l2 ≠ p) (n2 : l2 ≠ c) (n3 : l2 ≠ l) : Ev C (upd H l2 o) p c l as ts := by
  have g : Gro H (upd H l2 o) := upd_gro h2
  exact ⟨h.pool.put n1 n2, fun q hq => (h.txt q hq).gro g, by rw [upd_ne n3.symm]; exact h.lst, fun q hq => (h.prs q hq).gro g, h.np, h.nc⟩
theorem PhAt.nil {H : Hp} : PhAt H [] [] := ⟨rfl, fun i a r h => by simp at h⟩
theorem PhAt.gro {H H' : Hp} {as : List Addr} {ps : List Ph} (h : PhAt H as ps) (g : Gro H H') : PhAt H' as ps := ⟨h.len, fun i a p e1 e2 => g.tup _ _ (h.at_ i a p e1 e2)⟩
theorem PhAt.snoc {H : Hp} {as : List Addr} {rs : List Ph} {a : Addr} {r : Ph} (h : PhAt H as rs) (ha : H a = some (.tup (phv r))) : PhAt H (as ++ [a]) (rs ++ [r]) := by
  refine ⟨by simp [h.len], fun i b q hb hq => ?_⟩
  by_cases hi : i < as.length
  · rw [List.getElem?_append_left hi] at hb
    rw [List.getElem?_append_left (by rw [← h.len]; exact hi)] at hq
    exact h.at_ i b q hb hq
  · have h1 := (List.getElem?_eq_some_iff.mp hb).1
    rw [List.length_append, List.length_singleton] at h1
    have e : i = as.length := by omega
    subst e
    rw [List.getElem?_append_right (Nat.le_refl _), Nat.sub_self] at hb
    rw [h.len, List.getElem?_append_right (Nat.le_refl _), Nat.sub_self] at hq
    have e1 : a = b := Option.some.inj hb
    have e2 : r = q := Option.some.inj hq
    rw [← e1, ← e2]; exact ha
section
variable {P : Program} {w : World} {K : PySem.W.Frag} {mg : Str → Option Value} {base : Heap} {C D Z : Addr}
/-- the pair (a, b) appended to the list at l; in the form that tBM asks -/
theorem push_ok {H : Hp} {p c l a b : Addr} {as : List Addr} {ts : List (Addr × Nat × L)} {n m : Nat} {d d' : L} {R : Hp → Prop} (h : Ev C H p c l as ts) (ha : TxtAt C H a n d) (hb : TxtAt C H b m d') (e : d = d') (hz : as.length ≤ 100)
    (q : ∀ H' q', Ev C H' p c l (as ++ [q']) ts → R H') : 2 ≤ sizeLine ∧ ∀ t, H t = none → ∃ (l' : Addr) (xs : List V) (y : V), V.ref l = .ref l' ∧ [V.ref t] = [y] ∧ (upd H t (.tup [.ref a, .ref b])) l' = some (.lst xs) ∧ xs.length < sizeLine ∧ R (upd (upd H t (.tup [.ref a, .ref b])) l' (.lst (xs ++ [y]))) := by
  refine ⟨by decide, fun t ht => ?_⟩
  have s := same_upd (o := .tup [.ref a, .ref b]) ht
  refine ⟨l, _, _, rfl, rfl, (h.same s).lst, ?_, ?_⟩
  · rw [List.length_map]
    exact szl (by omega)
  · refine q _ t ((h.same s).push ⟨a, b, n, m, d, upd_same, ha.gro (sGro s), ?_⟩)
    rw [e]
    exact hb.gro (sGro s)
/-! ### law -/
def spLz (K : PySem.W.Frag) : Sp := fun vs H Q _ => ∃ (a : Addr) (ns : List Int), vs = [.ref a] ∧ SqL K H a (ns.map V.int) ∧ ns.length ≤ 1000 ∧ ∀ H', Q (.bl true) H'
/-- the promises that the law calls -/
structure Lc (P : Program) (w : World) (K : PySem.W.Frag) (mg : Str → Option Value) (base : Heap) (C : Addr) : Prop where
  Lp : Fc P w K mg base 1 "_law_pool" ["_law_script"] (spLp K)
  Lt : Fc P w K mg base 2 "_law_take" ["_law_pool_here", "_law_many"] spLt
  Lr : Fc P w K mg base 5 "_law_rules" ["_law_pool_here", "_law_most"] spLr
  Lg : Fc P w K mg base 6 "_law_great" ["_law_pool_here"] (spLg C)
  La : Fc P w K mg base 3 "_law_alike" ["_law_pool_here", "_law_one", "_law_other"] (spLa C)
  Ti : Fk P w K mg base 4 "Text" C ["self", "rules"] (spTi C)
  To : Fcm P w K mg base 6 "Text" C "of_letters" ["cls", "letters"] (spTo C)
  Po : Fc P w K mg base 8 "part_of" ["text", "start", "stop"] (spPo C)
  Rm : Fc P w K mg base 8 "remove_part" ["text", "start", "stop"] (spRm C)
  Ia : Fc P w K mg base 9 "insert_at" ["text", "place", "other"] (spIa C)
  Rp : Fc P w K mg base 8 "replace_part" ["text", "start", "stop", "other"] (spRp C)
  Tp : Fc P w K mg base 8 "turn_part" ["text", "start", "stop"] (spTp C)
  Mp : Fc P w K mg base 8 "move_part" ["text", "start", "stop", "place"] (spMp C)
  Re : Fc P w K mg base 8 "repeat_part" ["text", "start", "stop", "times"] (spRe C)
  Ap : Fc P w K mg base 9 "apply_phrases" ["text", "phrases"] (spAp C)
theorem bod_Lz (T : Tx w K mg C D Z) (Y : Lc P w K mg base C) : Bod P w K mg base ["_law_script", "_law_pool_here", "_law_text", "_law_other", "_law_size", "_law_start", "_law_stop", "_law_place", "_law_part", "_law_left", "_law_pairs", "_law_moved", "_law_phrases", "_law_one", "_law_two"] "law" sLz 9 (spLz K) := by
  obtain ⟨GLp, GLt, GLr, GLg, GLa, GTi, GTo, GPo, GRm, GIa, GRp, GTp, GMp, GRe, GAp⟩ := Y
  intro f0 cdv A outer st H vs Q E hr h
  · obtain ⟨a, ns, rfl, ha, hns, q⟩ := h
    have eM := MX_eq
    -- the last: all([..])
    have t22 : ∃ t', PSs (cxOf CX0 P w K mg base ["_law_script", "_law_pool_here", "_law_text", "_law_other", "_law_size", "_law_start", "_law_stop", "_law_place", "_law_part", "_law_left", "_law_pairs", "_law_moved", "_law_phrases", "_law_one", "_law_two"] "law" (defScope sLz) f0 cdv A outer st H E).nox ((defBody sLz).drop 22) t' ∧
        ∀ (p c l : Addr) (as : List Addr) (ts : List (Addr × Nat × L)) (v2 v3 v4 v5 v6 v7 v8 v9 v11 v12 v13 v14 : Option V) (H2 : Hp), Ev C H2 p c l as ts → as.length ≤ 100 →
          t' { nx := fun _ H' => Q .non H', rt := Q } [some (.ref a), some (.ref p), v2, v3, v4, v5, v6, v7, v8, v9, some (.ref l), v11, v12, v13, v14] H2 := by
      refine ⟨_, (pss_one (ps_ret (pe_callB (id := "all") (cr_all rfl) (by rfl) T.all_ (by decide +kernel) (pa_cons (pe_lc (own := [("_law_one", 13), ("_law_two", 14)]) (g := gTup K 2 (gCons (gName 13) (gCons (gName 14) gNil))) (tt := tYes) rfl scLz.nd (pi_list (pv 10)) (blkOk_by (N := ["_law_script", "_law_pool_here", "_law_text", "_law_other", "_law_size", "_law_start", "_law_stop", "_law_place", "_law_part", "_law_left", "_law_pairs", "_law_moved", "_law_phrases", "_law_one", "_law_two"]) (sc := defScope sLz) (by decide +kernel)) (fun _ _ _ _ _ => pg_tup rfl (pgs_cons (pg_name (i := 13) scLz.nd rfl (Or.inl rfl)) (pgs_cons (pg_name (i := 14) scLz.nd rfl (Or.inl rfl)) pgs_nil))) (fun _ _ _ _ _ => pts_nil) (fun _ _ _ _ _ => (pe_c GLa (hr.mono (by decide)) (pa_cons (pv 1) (pa_cons (pv 13) (pa_cons (pv 14) pa_nil)))))) pa_nil)))), ?_⟩
      intro p c l as ts v2 v3 v4 v5 v6 v7 v8 v9 v11 v12 v13 v14 H2 ev hlen
      refine ⟨_, rfl, l, rfl, ⟨_, SqL.of ev.lst⟩, fun o ho => ?_⟩
      have no := ev.pool.fr ho
      have nlo : l ≠ o := ne_of_none ev.lst ho
      refine lc_it (walk_list (K := K) (a := l) (xs := as.map V.ref)) (fun i H' => Pool H' p c ∧ Keep p H2 H' ∧ H' o = some (.lst (List.replicate i (V.bl true)))) ⟨ev.pool.put no.1 no.2, sKeep (same_upd ho), upd_same⟩ (fun i H' _ ⟨_, k, _⟩ => SqL.of (k _ _ ev.lst ev.np)) ?_ ?_
      · rintro i v H3 H4 hi ⟨p3, k3, h3⟩ ⟨rfl, hv⟩
        rw [List.length_map] at hi
        rw [List.getElem?_map, List.getElem?_eq_getElem hi] at hv
        obtain rfl : v = .ref as[i] := (Option.some.inj hv).symm
        have g3 : Gro H2 H4 := by
          obtain ⟨xs, e⟩ := ev.pool.lst
          exact k3.gro e
        obtain ⟨x, y, n, m, d, h1, X, Y⟩ := (ev.prs _ (List.getElem_mem hi)).gro g3
        refine ⟨as[i], _, rfl, SqT.of h1, rfl, _, _, rfl, _, _, rfl, rfl, ?_⟩
        refine ⟨rfl, ?_⟩
        dsimp only [tYes]
        rw [if_pos rfl]
        refine ⟨_, rfl, _, rfl, _, rfl, p, c, x, y, n, m, d, rfl, p3, X, Y, fun H5 p5 k5 => ?_⟩
        refine ⟨_, k5 _ _ h3 no.1, ?_, p5.put no.1 no.2, (k3.trans k5).mut ho, ?_⟩
        · rw [List.length_replicate]
          exact szl (by omega)
        · rw [upd_same, List.replicate_succ']
      · rintro H3 ⟨p3, k3, h3⟩
        refine ⟨o, List.replicate (as.map V.ref).length true, rfl, ?_, ?_⟩
        · rw [← rep_true]
          exact SqL.of h3
        · rw [rep_all]
          exact q _
    obtain ⟨t22, h22, q22⟩ := t22
    -- the phrases
    have t21 : ∃ t', PSs (cxOf CX0 P w K mg base ["_law_script", "_law_pool_here", "_law_text", "_law_other", "_law_size", "_law_start", "_law_stop", "_law_place", "_law_part", "_law_left", "_law_pairs", "_law_moved", "_law_phrases", "_law_one", "_law_two"] "law" (defScope sLz) f0 cdv A outer st H E).nox ((defBody sLz).drop 21) t' ∧
        ∀ (p c l x o : Addr) (n s : Nat) (d : L) (as bs : List Addr) (ts : List (Addr × Nat × L)) (v3 v4 v5 v6 v7 v8 v9 v11 v13 v14 : Option V) (H2 : Hp), Ev C H2 p c l as ts → as.length ≤ 90 → (x, n, d) ∈ ts → n ≤ 39 → s ≤ d.length → H2 o = some (.lst (bs.map V.ref)) → PhAt H2 bs (phs d.length s) →
          t' { nx := fun _ H' => Q .non H', rt := Q } [some (.ref a), some (.ref p), some (.ref x), v3, v4, v5, v6, v7, v8, v9, some (.ref l), v11, some (.ref o), v13, v14] H2 := by
      refine ⟨_, (pss_cons (ps_expr (pe_bm PySem.F.plainAttrs_list PySem.F.slot_list_append PySem.F.type_list_append mt_append (pv 10) (pa_cons (pe_tup (pa_cons (pe_c GAp (hr.mono (by decide)) (pa_cons (pv 2) (pa_cons (pv 12) pa_nil))) (pa_cons (pv 2) pa_nil))) pa_nil))) h22), ?_⟩
      intro p c l x o n s d as bs ts v3 v4 v5 v6 v7 v8 v9 v11 v13 v14 H2 ev hlen hx hn hs ho hb
      have X := ev.txt _ hx
      have hmx := X.le
      have hpl := phs_len d.length s
      refine ⟨_, rfl, .inl ⟨rfl, _, SqL.of ev.lst⟩, _, rfl, _, rfl, x, o, n, d, bs, phs d.length s, rfl, X, ho, hb, phs_ok hs, ?_, by omega, hn, fun z k H3 s3 Z' => ?_⟩
      · rw [phs_sum hs]
        exact hmx
      rw [phs_cat hs] at Z'
      refine ⟨_, rfl, push_ok (ev.same s3) Z' ((ev.same s3).txt _ hx) rfl (by omega) fun H4 q' ev4 => ?_⟩
      exact q22 p c l _ ts _ _ _ _ _ _ _ _ _ _ _ _ H4 ev4 (by rw [List.length_append]; show as.length + 1 ≤ 100; omega)
    obtain ⟨t21, h21, q21⟩ := t21
    have t20 : ∃ t', PSs (cxOf CX0 P w K mg base ["_law_script", "_law_pool_here", "_law_text", "_law_other", "_law_size", "_law_start", "_law_stop", "_law_place", "_law_part", "_law_left", "_law_pairs", "_law_moved", "_law_phrases", "_law_one", "_law_two"] "law" (defScope sLz) f0 cdv A outer st H E).nox ((defBody sLz).drop 20) t' ∧
        ∀ (p c l x o : Addr) (n s : Nat) (d : L) (as bs : List Addr) (ts : List (Addr × Nat × L)) (v3 v6 v7 v8 v9 v11 v13 v14 : Option V) (H2 : Hp), Ev C H2 p c l as ts → as.length ≤ 90 → (x, n, d) ∈ ts → n ≤ 39 → s ≤ d.length → H2 o = some (.lst (bs.map V.ref)) → PhAt H2 bs (if 0 < s then [(0, s)] else []) → o ≠ p → o ≠ c → o ≠ l →
          t' { nx := fun _ H' => Q .non H', rt := Q } [some (.ref a), some (.ref p), some (.ref x), v3, some (.int ((d.length : Nat) : Int)), some (.int (s : Int)), v6, v7, v8, v9, some (.ref l), v11, some (.ref o), v13, v14] H2 := by
      refine ⟨_, (pss_cons (ps_if (pt_cmpR op_gt (pv 4) (pv 5) (nomark _)) (pss_one (ps_expr (pe_bm PySem.F.plainAttrs_list PySem.F.slot_list_append PySem.F.type_list_append mt_append (pv 12) (pa_cons (pe_tup (pa_cons pe_str (pa_cons pe_int (pa_cons (pv 5) (pa_cons (pe_op op_sub (pv 4) (pv 5)) pa_nil))))) pa_nil)))) pss_nil) h21), ?_⟩
      intro p c l x o n s d as bs ts v3 v6 v7 v8 v9 v11 v13 v14 H2 ev hlen hx hn hs ho hb n1 n2 n3
      have hbl : bs.length ≤ 1 := by
        rw [hb.len]
        split <;> simp
      refine ⟨_, rfl, _, rfl, _, _, rfl, rfl, _, rfl, ite2 (fun h => ?_) (fun h => ?_)⟩
      · have h := of_decide_eq_true h
        have hsl : s < d.length := by omega
        refine ⟨_, rfl, .inl ⟨rfl, _, SqL.of ho⟩, _, rfl, _, rfl, _, rfl, _, _, rfl, rfl, by show 4 ≤ sizeLine; decide, fun t1 ht1 => ?_⟩
        have s1 := same_upd (o := .tup [.str "copy", .int 0, .int (s : Int), .int (((d.length : Nat) : Int) - (s : Int))]) ht1
        refine ⟨o, _, _, rfl, rfl, s1 _ _ ho, by rw [List.length_map]; exact szl (by omega), ?_⟩
        have g := upd_gro (o := .lst (bs.map V.ref ++ [.ref t1])) (s1 _ _ ho)
        refine q21 p c l x o n s d as (bs ++ [t1]) ts _ _ _ _ _ _ _ _ _ _ _ ((ev.same s1).put (s1 _ _ ho) n1 n2 n3) hlen hx hn hs ?_ ?_
        · rw [upd_same, List.map_append]
          rfl
        · have e : phs d.length s = (if 0 < s then [(0, s)] else []) ++ [(s, d.length - s)] := by
            unfold phs
            rw [if_pos hsl]
          rw [e]
          refine ((hb.same s1).gro g).snoc (g.tup _ _ ?_)
          rw [upd_same]
          show some (HO.tup [V.str "copy", .int 0, .int (s : Int), .int (((d.length : Nat) : Int) - (s : Int))]) = some (HO.tup [V.str "copy", .int 0, .int (s : Int), .int ((d.length - s : Nat) : Int)])
          rw [show ((d.length : Nat) : Int) - (s : Int) = ((d.length - s : Nat) : Int) by omega]
      · have h : ¬ ((d.length : Nat) : Int) > (s : Int) := fun z => h (decide_eq_true z)
        refine q21 p c l x o n s d as bs ts _ _ _ _ _ _ _ _ _ _ _ ev hlen hx hn hs ho ?_
        have e : phs d.length s = (if 0 < s then [(0, s)] else []) := by
          unfold phs
          rw [if_neg (show ¬ s < d.length by omega), List.append_nil]
        rw [e]
        exact hb
    obtain ⟨t20, h20, q20⟩ := t20
    have t18 : ∃ t', PSs (cxOf CX0 P w K mg base ["_law_script", "_law_pool_here", "_law_text", "_law_other", "_law_size", "_law_start", "_law_stop", "_law_place", "_law_part", "_law_left", "_law_pairs", "_law_moved", "_law_phrases", "_law_one", "_law_two"] "law" (defScope sLz) f0 cdv A outer st H E).nox ((defBody sLz).drop 18) t' ∧
        ∀ (p c l x : Addr) (n s : Nat) (d : L) (as : List Addr) (ts : List (Addr × Nat × L)) (v3 v6 v7 v8 v9 v11 v12 v13 v14 : Option V) (H2 : Hp), Ev C H2 p c l as ts → as.length ≤ 90 → (x, n, d) ∈ ts → n ≤ 39 → s ≤ d.length →
          t' { nx := fun _ H' => Q .non H', rt := Q } [some (.ref a), some (.ref p), some (.ref x), v3, some (.int ((d.length : Nat) : Int)), some (.int (s : Int)), v6, v7, v8, v9, some (.ref l), v11, v12, v13, v14] H2 := by
      refine ⟨_, (pss_cons (ps_set (i := 12) scLz.nd rfl (by first | exact Or.inl rfl | exact Or.inr rfl) (pe_lst pa_nil)) (pss_cons (ps_if (pt_cmpR op_gt (pv 5) pe_int (nomark _)) (pss_one (ps_expr (pe_bm PySem.F.plainAttrs_list PySem.F.slot_list_append PySem.F.type_list_append mt_append (pv 12) (pa_cons (pe_tup (pa_cons pe_str (pa_cons pe_int (pa_cons pe_int (pa_cons (pv 5) pa_nil))))) pa_nil)))) pss_nil) h20)), ?_⟩
      intro p c l x n s d as ts v3 v6 v7 v8 v9 v11 v12 v13 v14 H2 ev hlen hx hn hs
      refine ⟨Nat.zero_le _, fun o ho => ?_⟩
      have no := ev.pool.fr ho
      have nlo : o ≠ l := (ne_of_none ev.lst ho).symm
      have s1 := same_upd (o := .lst []) ho
      have ev1 := ev.same s1
      refine ⟨_, rfl, _, _, rfl, rfl, _, rfl, ite2 (fun h => ?_) (fun h => ?_)⟩
      · have h := of_decide_eq_true h
        refine ⟨_, rfl, .inl ⟨rfl, _, SqL.of upd_same⟩, _, rfl, by show 4 ≤ sizeLine; decide, fun t1 ht1 => ?_⟩
        have s2 := same_upd (o := .tup [.str "copy", .int 0, .int 0, .int (s : Int)]) ht1
        have ho2 := s2 _ _ upd_same
        refine ⟨o, _, _, rfl, rfl, ho2, by show 0 < sizeLine; decide, ?_⟩
        have g := upd_gro (o := .lst ([] ++ [.ref t1])) ho2
        refine q20 p c l x o n s d as [t1] ts _ _ _ _ _ _ _ _ _ ((ev1.same s2).put ho2 no.1 no.2 nlo) hlen hx hn hs upd_same ?_ no.1 no.2 nlo
        rw [if_pos (show 0 < s by omega)]
        exact PhAt.snoc (as := []) (rs := []) PhAt.nil (g.tup _ _ upd_same)
      · have h : ¬ (s : Int) > 0 := fun z => h (decide_eq_true z)
        refine q20 p c l x o n s d as [] ts _ _ _ _ _ _ _ _ _ ev1 hlen hx hn hs upd_same ?_ no.1 no.2 nlo
        rw [if_neg (show ¬ 0 < s by omega)]
        exact PhAt.nil
    obtain ⟨t18, h18, q18⟩ := t18
    -- the pairs
    have t7 : ∃ t', PSs (cxOf CX0 P w K mg base ["_law_script", "_law_pool_here", "_law_text", "_law_other", "_law_size", "_law_start", "_law_stop", "_law_place", "_law_part", "_law_left", "_law_pairs", "_law_moved", "_law_phrases", "_law_one", "_law_two"] "law" (defScope sLz) f0 cdv A outer st H E).nox ((defBody sLz).drop 7) t' ∧
        ∀ (p c x y : Addr) (n m s t b : Nat) (d e : L) (H2 : Hp), Pool H2 p c → TxtAt C H2 x n d → TxtAt C H2 y m e → n ≤ 21 → m ≤ 20 → d.length ≤ 400000000000 → d.length + e.length ≤ 1000000000000 → s ≤ t → t ≤ d.length → b + (t - s) ≤ d.length →
          t' { nx := fun _ H' => Q .non H', rt := Q } [some (.ref a), some (.ref p), some (.ref x), some (.ref y), some (.int ((d.length : Nat) : Int)), some (.int (s : Int)), some (.int (t : Int)), some (.int (b : Int)), none, none, none, none, none, none, none] H2 := by
      refine ⟨_, (pss_cons (ps_set (i := 8) scLz.nd rfl (by first | exact Or.inl rfl | exact Or.inr rfl) (pe_c GPo (hr.mono (by decide)) (pa_cons (pv 2) (pa_cons (pv 5) (pa_cons (pv 6) pa_nil))))) (pss_cons (ps_set (i := 9) scLz.nd rfl (by first | exact Or.inl rfl | exact Or.inr rfl) (pe_c GRm (hr.mono (by decide)) (pa_cons (pv 2) (pa_cons (pv 5) (pa_cons (pv 6) pa_nil))))) (pss_cons (ps_set (i := 10) scLz.nd rfl (by first | exact Or.inl rfl | exact Or.inr rfl) (pe_lst (pa_cons (pe_tup (pa_cons (pe_c GRm (hr.mono (by decide)) (pa_cons (pe_c GIa (hr.mono (by decide)) (pa_cons (pv 2) (pa_cons (pv 5) (pa_cons (pv 3) pa_nil)))) (pa_cons (pv 5) (pa_cons (pe_op op_add (pv 5) (pe_fld (pv 3) rfl)) pa_nil)))) (pa_cons (pv 2) pa_nil))) pa_nil))) (pss_cons (ps_expr (pe_bm PySem.F.plainAttrs_list PySem.F.slot_list_append PySem.F.type_list_append mt_append (pv 10) (pa_cons (pe_tup (pa_cons (pe_c GTp (hr.mono (by decide)) (pa_cons (pe_c GTp (hr.mono (by decide)) (pa_cons (pv 2) (pa_cons (pv 5) (pa_cons (pv 6) pa_nil)))) (pa_cons (pv 5) (pa_cons (pv 6) pa_nil)))) (pa_cons (pv 2) pa_nil))) pa_nil))) (pss_cons (ps_set (i := 11) scLz.nd rfl (by first | exact Or.inl rfl | exact Or.inr rfl) (pe_c GMp (hr.mono (by decide)) (pa_cons (pv 2) (pa_cons (pv 5) (pa_cons (pv 6) (pa_cons (pv 7) pa_nil)))))) (pss_cons (ps_expr (pe_bm PySem.F.plainAttrs_list PySem.F.slot_list_append PySem.F.type_list_append mt_append (pv 10) (pa_cons (pe_tup (pa_cons (pe_c GMp (hr.mono (by decide)) (pa_cons (pv 11) (pa_cons (pv 7) (pa_cons (pe_op op_sub (pe_op op_add (pv 7) (pv 6)) (pv 5)) (pa_cons (pv 5) pa_nil))))) (pa_cons (pv 2) pa_nil))) pa_nil))) (pss_cons (ps_expr (pe_bm PySem.F.plainAttrs_list PySem.F.slot_list_append PySem.F.type_list_append mt_append (pv 10) (pa_cons (pe_tup (pa_cons (pe_c GRe (hr.mono (by decide)) (pa_cons (pv 2) (pa_cons (pv 5) (pa_cons (pv 6) (pa_cons pe_int pa_nil))))) (pa_cons (pv 2) pa_nil))) pa_nil))) (pss_cons (ps_expr (pe_bm PySem.F.plainAttrs_list PySem.F.slot_list_append PySem.F.type_list_append mt_append (pv 10) (pa_cons (pe_tup (pa_cons (pe_c GRe (hr.mono (by decide)) (pa_cons (pv 2) (pa_cons (pv 5) (pa_cons (pv 6) (pa_cons pe_int pa_nil))))) (pa_cons (pv 9) pa_nil))) pa_nil))) (pss_cons (ps_expr (pe_bm PySem.F.plainAttrs_list PySem.F.slot_list_append PySem.F.type_list_append mt_append (pv 10) (pa_cons (pe_tup (pa_cons (pe_c GRe (hr.mono (by decide)) (pa_cons (pv 2) (pa_cons (pv 5) (pa_cons (pv 6) (pa_cons pe_int pa_nil))))) (pa_cons (pe_c GIa (hr.mono (by decide)) (pa_cons (pv 2) (pa_cons (pv 6) (pa_cons (pv 8) pa_nil)))) pa_nil))) pa_nil))) (pss_cons (ps_expr (pe_bm PySem.F.plainAttrs_list PySem.F.slot_list_append PySem.F.type_list_append mt_append (pv 10) (pa_cons (pe_tup (pa_cons (pe_c GRp (hr.mono (by decide)) (pa_cons (pv 2) (pa_cons (pv 5) (pa_cons (pv 6) (pa_cons (pv 3) pa_nil))))) (pa_cons (pe_c GIa (hr.mono (by decide)) (pa_cons (pv 9) (pa_cons (pv 5) (pa_cons (pv 3) pa_nil)))) pa_nil))) pa_nil))) (pss_cons (ps_expr (pe_bm PySem.F.plainAttrs_list PySem.F.slot_list_append PySem.F.type_list_append mt_append (pv 10) (pa_cons (pe_tup (pa_cons (pe_c GIa (hr.mono (by decide)) (pa_cons (pv 9) (pa_cons (pv 7) (pa_cons (pv 8) pa_nil)))) (pa_cons (pv 11) pa_nil))) pa_nil))) h18))))))))))), ?_⟩
      intro p c x y n m s t b d e H2 hp X Y hn hm hd4 hde hst htd hb
      refine ⟨_, rfl, _, rfl, _, rfl, x, n, s, t, d, rfl, X, hst, htd, by omega, fun z H3 s3 Zt => ?_⟩
      have X3 := X.gro (sGro s3)
      refine ⟨_, rfl, _, rfl, _, rfl, x, n, s, t, d, rfl, X3, hst, htd, by omega, fun u H4 s4 U => ?_⟩
      have X4 := X3.gro (sGro s4)
      have Y4 := Y.gro (sGro (s3.trans s4))
      have Z4 := Zt.gro (sGro s4)
      -- 9
      refine ⟨_, rfl, _, rfl, _, rfl, x, y, n, m, s, d, e, rfl, X4, Y4, by omega, by omega, by omega, fun i H5 s5 I => ?_⟩
      have il : (cutL d 0 s ++ (e ++ cutL d s d.length)).length = d.length + e.length := by
        rw [List.length_append, List.length_append, cutL_len (by omega) (by omega), cutL_len (by omega) (Nat.le_refl _)]
        omega
      refine ⟨_, rfl, _, rfl, _, rfl, fN T (Y4.gro (sGro s5)) ⟨_, _, rfl, rfl, i, n + m + 4, s, s + e.length, _, rfl, I, by omega, by rw [il]; omega, by omega, fun r H6 s6 R => ?_⟩⟩
      rw [pr1 e (by omega)] at R
      refine ⟨_, rfl, by show 2 ≤ sizeLine; decide, fun t1 ht1 => ⟨by show 1 ≤ sizeLine; decide, fun l hl => ?_⟩⟩
      have s7 := same_upd (o := .tup [.ref r, .ref x]) ht1
      have s8 := same_upd (o := .lst [.ref t1]) hl
      have s68 := s7.trans s8
      have s48 := (s5.trans s6).trans s68
      have hp8 := (hp.same (s3.trans s4)).same s48
      have nl := (((hp.same (s3.trans s4)).same (s5.trans s6)).same s7).fr hl
      have ev0 : Ev C (upd (upd H6 t1 (.tup [.ref r, .ref x])) l (.lst [.ref t1])) p c l [t1] [(x, n, d), (y, m, e), (z, n + 1, cutL d s t), (u, n + 3, cutL d 0 s ++ cutL d t d.length)] := by
        refine ⟨hp8, fun q hq => ?_, upd_same, fun q hq => ?_, nl.1, nl.2⟩
        · rcases List.mem_cons.mp hq with rfl | hq
          · exact X4.gro (sGro s48)
          rcases List.mem_cons.mp hq with rfl | hq
          · exact Y4.gro (sGro s48)
          rcases List.mem_cons.mp hq with rfl | hq
          · exact Z4.gro (sGro s48)
          · rw [List.mem_singleton.mp hq]
            exact U.gro (sGro s48)
        · rw [List.mem_singleton.mp hq]
          exact ⟨r, x, _, n, d, s8 _ _ upd_same, R.gro (sGro s68), X4.gro (sGro s48)⟩
      have ll := left_len hst htd
      have lb := cutL_len hst htd
      have m0 : (x, n, d) ∈ [(x, n, d), (y, m, e), (z, n + 1, cutL d s t), (u, n + 3, cutL d 0 s ++ cutL d t d.length)] := .head _
      have m1 : (y, m, e) ∈ [(x, n, d), (y, m, e), (z, n + 1, cutL d s t), (u, n + 3, cutL d 0 s ++ cutL d t d.length)] := .tail _ (.head _)
      have m2 : (z, n + 1, cutL d s t) ∈ [(x, n, d), (y, m, e), (z, n + 1, cutL d s t), (u, n + 3, cutL d 0 s ++ cutL d t d.length)] := .tail _ (.tail _ (.head _))
      have m3 : (u, n + 3, cutL d 0 s ++ cutL d t d.length) ∈ [(x, n, d), (y, m, e), (z, n + 1, cutL d s t), (u, n + 3, cutL d 0 s ++ cutL d t d.length)] := .tail _ (.tail _ (.tail _ (.head _)))
      -- 10
      refine ⟨_, rfl, .inl ⟨rfl, _, SqL.of ev0.lst⟩, _, rfl, _, rfl, _, rfl, x, n, s, t, d, rfl, ev0.txt _ m0, hst, htd, by omega, fun i H s1 I => ?_⟩
      have tl : (cutL d 0 s ++ ((cutL d s t).reverse ++ cutL d t d.length)).length = d.length := by
        rw [List.length_append, List.length_append, List.length_reverse, lb, cutL_len (by omega) (by omega), cutL_len htd (Nat.le_refl _)]
        omega
      refine ⟨_, rfl, _, rfl, i, n + 6, s, t, _, rfl, I, hst, by rw [tl]; exact htd, by omega, fun r H s2 R => ?_⟩
      rw [pr2 hst htd] at R
      refine ⟨_, rfl, push_ok (ev0.same (s1.trans s2)) R ((ev0.same (s1.trans s2)).txt _ m0) rfl (by simp) fun H q ev1 => ?_⟩
      -- 11
      refine ⟨_, rfl, _, rfl, _, rfl, _, rfl, x, n, s, t, b, d, rfl, ev1.txt _ m0, hst, htd, hb, by omega, fun v H s1 W => ?_⟩
      have W : TxtAt C H v (n + 8) (mvL d s t b) := W
      have ev2 := (ev1.same s1).add W
      have m0 := List.mem_append_left [(v, n + 8, mvL d s t b)] m0
      have m1 := List.mem_append_left [(v, n + 8, mvL d s t b)] m1
      have m2 := List.mem_append_left [(v, n + 8, mvL d s t b)] m2
      have m3 := List.mem_append_left [(v, n + 8, mvL d s t b)] m3
      have m4 : (v, n + 8, mvL d s t b) ∈ [(x, n, d), (y, m, e), (z, n + 1, cutL d s t), (u, n + 3, cutL d 0 s ++ cutL d t d.length)] ++ [(v, n + 8, mvL d s t b)] := List.mem_append_right _ (.head _)
      have ml := mv_len hst htd hb
      -- 12
      refine ⟨_, rfl, .inl ⟨rfl, _, SqL.of ev2.lst⟩, _, rfl, _, rfl, _, rfl, _, rfl, _, _, rfl, rfl, _, rfl, _, _, rfl, rfl, _, rfl, v, n + 8, b, b + (t - s), s, mvL d s t b, congrArg (fun z => [V.ref v, V.int (b : Int), V.int z, V.int (s : Int)]) (show (b : Int) + (t : Int) - (s : Int) = ((b + (t - s) : Nat) : Int) by omega), ev2.txt _ m4, by omega, by omega, by omega, by omega, fun r H s1 R => ?_⟩
      have R : TxtAt C H r (n + 8 + 8) (mvL (mvL d s t b) b (b + (t - s)) s) := R
      rw [pr3 hst htd hb] at R
      refine ⟨_, rfl, push_ok (ev2.same s1) R ((ev2.same s1).txt _ m0) rfl (by simp) fun H q ev3 => ?_⟩
      -- 13
      refine ⟨_, rfl, .inl ⟨rfl, _, SqL.of ev3.lst⟩, _, rfl, _, rfl, _, rfl, x, n, s, t, 1, d, rfl, ev3.txt _ m0, hst, htd, by omega, by decide, by omega, fun r H s1 R => ?_⟩
      rw [pr4 hst htd] at R
      refine ⟨_, rfl, push_ok (ev3.same s1) R ((ev3.same s1).txt _ m0) rfl (by simp) fun H q ev4 => ?_⟩
      -- 14
      refine ⟨_, rfl, .inl ⟨rfl, _, SqL.of ev4.lst⟩, _, rfl, _, rfl, _, rfl, x, n, s, t, 0, d, rfl, ev4.txt _ m0, hst, htd, by omega, by decide, by omega, fun r H s1 R => ?_⟩
      rw [pr5] at R
      refine ⟨_, rfl, push_ok (ev4.same s1) R ((ev4.same s1).txt _ m3) rfl (by simp) fun H q ev5 => ?_⟩
      -- 15
      refine ⟨_, rfl, .inl ⟨rfl, _, SqL.of ev5.lst⟩, _, rfl, _, rfl, _, rfl, x, n, s, t, 2, d, rfl, ev5.txt _ m0, hst, htd, by omega, by decide, by omega, fun r H s1 R => ?_⟩
      have ev6 := ev5.same s1
      refine ⟨_, rfl, _, rfl, _, rfl, x, z, n, n + 1, t, d, cutL d s t, rfl, ev6.txt _ m0, ev6.txt _ m2, htd, by omega, by omega, fun r2 H s2 R2 => ?_⟩
      refine push_ok (ev6.same s2) (R.gro (sGro s2)) R2 (pr6 hst htd) (by simp) fun H q ev7 => ?_
      -- 16
      refine ⟨_, rfl, .inl ⟨rfl, _, SqL.of ev7.lst⟩, _, rfl, _, rfl, _, rfl, _, rfl, x, y, n, m, s, t, d, e, rfl, ev7.txt _ m0, ev7.txt _ m1, hst, htd, by omega, by omega, fun r H s1 R => ?_⟩
      have ev8 := ev7.same s1
      refine ⟨_, rfl, _, rfl, _, rfl, u, y, n + 3, m, s, cutL d 0 s ++ cutL d t d.length, e, rfl, ev8.txt _ m3, ev8.txt _ m1, by omega, by omega, by omega, fun r2 H s2 R2 => ?_⟩
      refine push_ok (ev8.same s2) (R.gro (sGro s2)) R2 (pr7 e hst htd) (by simp) fun H q ev9 => ?_
      -- 17
      refine ⟨_, rfl, .inl ⟨rfl, _, SqL.of ev9.lst⟩, _, rfl, _, rfl, _, rfl, u, z, n + 3, n + 1, b, cutL d 0 s ++ cutL d t d.length, cutL d s t, rfl, ev9.txt _ m3, ev9.txt _ m2, by omega, by omega, by omega, fun r H s1 R => ?_⟩
      refine ⟨_, rfl, push_ok (ev9.same s1) R ((ev9.same s1).txt _ m4) (pr8 hst htd) (by simp) fun H q ev10 => ?_⟩
      exact q18 p c l x n s d _ _ _ _ _ _ _ _ _ _ _ H ev10 (by simp) m0 (by omega) (by omega)
    obtain ⟨t7, h7, q7⟩ := t7
    have t3 : ∃ t', PSs (cxOf CX0 P w K mg base ["_law_script", "_law_pool_here", "_law_text", "_law_other", "_law_size", "_law_start", "_law_stop", "_law_place", "_law_part", "_law_left", "_law_pairs", "_law_moved", "_law_phrases", "_law_one", "_law_two"] "law" (defScope sLz) f0 cdv A outer st H E).nox ((defBody sLz).drop 3) t' ∧
        ∀ (p c x y : Addr) (n m : Nat) (d e : L) (H2 : Hp), Pool H2 p c → TxtAt C H2 x n d → TxtAt C H2 y m e → n ≤ 21 → m ≤ 20 → d.length ≤ 400000000000 → d.length + e.length ≤ 1000000000000 →
          t' { nx := fun _ H' => Q .non H', rt := Q } [some (.ref a), some (.ref p), some (.ref x), some (.ref y), none, none, none, none, none, none, none, none, none, none, none] H2 := by
      refine ⟨_, (pss_cons (ps_set (i := 4) scLz.nd rfl (by first | exact Or.inl rfl | exact Or.inr rfl) (pe_fld (pv 2) rfl)) (pss_cons (ps_set (i := 5) scLz.nd rfl (by first | exact Or.inl rfl | exact Or.inr rfl) (pe_c GLt (hr.mono (by decide)) (pa_cons (pv 1) (pa_cons (pe_op op_add (pv 4) pe_int) pa_nil)))) (pss_cons (ps_set (i := 6) scLz.nd rfl (by first | exact Or.inl rfl | exact Or.inr rfl) (pe_op op_add (pv 5) (pe_c GLt (hr.mono (by decide)) (pa_cons (pv 1) (pa_cons (pe_op op_add (pe_op op_sub (pv 4) (pv 5)) pe_int) pa_nil))))) (pss_cons (ps_set (i := 7) scLz.nd rfl (by first | exact Or.inl rfl | exact Or.inr rfl) (pe_c GLt (hr.mono (by decide)) (pa_cons (pv 1) (pa_cons (pe_op op_add (pe_op op_sub (pv 4) (pe_op op_sub (pv 6) (pv 5))) pe_int) pa_nil)))) h7)))), ?_⟩
      intro p c x y n m d e H2 hp X Y hn hm hd4 hde
      refine ⟨_, rfl, fN T X ?_⟩
      refine ⟨_, rfl, _, rfl, _, _, rfl, rfl, p, c, d.length + 1, rfl, hp, by omega, by omega, fun H3 s p3 k3 hs => ?_⟩
      refine ⟨_, rfl, _, rfl, _, rfl, _, rfl, _, _, rfl, rfl, _, _, rfl, rfl, p, c, d.length - s + 1, congrArg (fun z => [V.ref p, V.int z]) (show ((d.length : Nat) : Int) - (s : Int) + 1 = ((d.length - s + 1 : Nat) : Int) by omega), p3, by omega, by omega, fun H4 k p4 k4 hk => ⟨_, _, rfl, rfl, ?_⟩⟩
      refine ⟨_, rfl, _, rfl, _, rfl, _, rfl, _, _, rfl, rfl, _, _, rfl, rfl, _, _, rfl, rfl, p, c, d.length - k + 1, congrArg (fun z => [V.ref p, V.int z]) (show ((d.length : Nat) : Int) - (((s : Int) + (k : Int)) - (s : Int)) + 1 = ((d.length - k + 1 : Nat) : Int) by omega), p4, by omega, by omega, fun H5 b p5 k5 hb => ?_⟩
      have k25 := (k3.trans k4).trans k5
      exact q7 p c x y n m s (s + k) b d e H5 p5 (k25.txt hp X) (k25.txt hp Y) hn hm hd4 hde (by omega) (by omega) (by omega)
    obtain ⟨t3, h3, q3⟩ := t3
    have t2 : ∃ t', PSs (cxOf CX0 P w K mg base ["_law_script", "_law_pool_here", "_law_text", "_law_other", "_law_size", "_law_start", "_law_stop", "_law_place", "_law_part", "_law_left", "_law_pairs", "_law_moved", "_law_phrases", "_law_one", "_law_two"] "law" (defScope sLz) f0 cdv A outer st H E).nox ((defBody sLz).drop 2) t' ∧
        ∀ (p c x y : Addr) (n m : Nat) (d e : L) (H2 : Hp), Pool H2 p c → TxtAt C H2 x n d → TxtAt C H2 y m e → n ≤ 20 → m ≤ 20 →
          t' { nx := fun _ H' => Q .non H', rt := Q } [some (.ref a), some (.ref p), some (.ref x), some (.ref y), none, none, none, none, none, none, none, none, none, none, none] H2 := by
      refine ⟨_, (pss_cons (ps_if (PW.pt (pw_or (pt_cmpR op_gt (pe_op op_add (pe_fld (pv 2) rfl) (pe_fld (pv 3) rfl)) (pe_op op_pow pe_int pe_int) (nomark _)) (pw_or1 (pt_cmpR op_gt (pe_fld (pv 2) rfl) (pe_op op_mul pe_int (pe_op op_pow pe_int pe_int)) (nomark _))))) (pss_cons (ps_set (i := 3) scLz.nd rfl (by first | exact Or.inl rfl | exact Or.inr rfl) (pe_cm GTo (hr.mono (by decide)) (pa_cons pe_str pa_nil)))
      (pss_one (ps_set (i := 2) scLz.nd rfl (by first | exact Or.inl rfl | exact Or.inr rfl) (pe_c GPo (hr.mono (by decide)) (pa_cons (pv 2) (pa_cons pe_int (pa_cons (pe_callB (id := "min") (call_min2 rfl) (by rfl) T.min_ (by decide +kernel) (pa_cons (pe_fld (pv 2) rfl) (pa_cons (pe_op op_mul pe_int (pe_op op_pow pe_int pe_int)) pa_nil))) pa_nil))))))) pss_nil) h3), ?_⟩
      intro p c x y n m d e H2 hp X Y hn hm
      have cm : ∀ b : Int, CMul 4 b := fun b => .inl ⟨by decide, by decide⟩
      have cm3 : ∀ b : Int, CMul 3 b := fun b => .inl ⟨by decide, by decide⟩
      have mn : (if (3 : Int) * (10 : Int) ^ (11 : Int).toNat < ((d.length : Nat) : Int) then (3 : Int) * (10 : Int) ^ (11 : Int).toNat else ((d.length : Nat) : Int)) = ((min d.length 300000000000 : Nat) : Int) := by
        rw [pow11]
        split <;> omega
      refine ⟨_, rfl, fN T X ⟨_, rfl, fN T Y ⟨_, _, rfl, rfl, _, _, rfl, rfl, ⟨by decide, by decide, by decide⟩, _, _, rfl, rfl, _, rfl, ite2 (fun h => iteT ?_) (fun h => ⟨_, rfl, fN T X ⟨_, _, rfl, rfl, ⟨by decide, by decide, by decide⟩, _, _, rfl, rfl, cm _, _, _, rfl, rfl, _, rfl, ite2 (fun h2 => ?_) (fun h2 => ?_)⟩⟩)⟩⟩⟩
      rotate_left 2
      · have h : ¬ (((d.length : Nat) : Int) + ((e.length : Nat) : Int) > (10 : Int) ^ (12 : Int).toNat) := fun z => h (decide_eq_true z)
        have h2 : ¬ (((d.length : Nat) : Int) > 4 * (10 : Int) ^ (11 : Int).toNat) := fun z => h2 (decide_eq_true z)
        rw [pow12] at h
        rw [pow11] at h2
        exact q3 p c x y n m d e H2 hp X Y (by omega) hm (by omega) (by omega)
      all_goals
        refine ⟨[97, 98, 99], by rw [abc_S], by decide, by decide, fun y' H3 s3 Y3 => ?_⟩
        have X3 := X.gro (sGro s3)
        refine ⟨_, rfl, _, rfl, fN T X3 ⟨_, _, rfl, rfl, ⟨by decide, by decide, by decide⟩, _, _, rfl, rfl, cm3 _, _, _, rfl, x, n, 0, min d.length 300000000000, d, congrArg (fun z => [V.ref x, V.int 0, V.int z]) mn, X3, by omega, by omega, by omega, fun x' H4 s4 X4 => ?_⟩⟩
        have l4 := cutL_len (d := d) (a := 0) (b := min d.length 300000000000) (by omega) (by omega)
        exact q3 p c x' y' (n + 1) 1 _ [97, 98, 99] H4 ((hp.same s3).same s4) X4 (Y3.gro (sGro s4)) (by omega) (by decide) (by omega) (by rw [l4]; show _ + 3 ≤ _; omega)
    obtain ⟨t2, h2, q2⟩ := t2
    refine ⟨_, (pss_cons (ps_set (i := 1) scLz.nd rfl (by first | exact Or.inl rfl | exact Or.inr rfl) (pe_c GLp (hr.mono (by decide)) (pa_cons (pv 0) pa_nil))) (pss_cons (ps_if (pt_cmpR op_eq (pe_c GLt (hr.mono (by decide)) (pa_cons (pv 1) (pa_cons pe_int pa_nil))) pe_int (nomark _)) (pss_cons (ps_set (i := 2) scLz.nd rfl (by first | exact Or.inl rfl | exact Or.inr rfl) (pe_mk GTi (hr.mono (by decide)) (pa_cons (pe_ix ix_tup (pe_c GLr (hr.mono (by decide)) (pa_cons (pv 1) (pa_cons pe_int pa_nil))) pe_int (fun _ _ => rfl)) pa_nil)))
      (pss_one (ps_set (i := 3) scLz.nd rfl (by first | exact Or.inl rfl | exact Or.inr rfl) (pe_mk GTi (hr.mono (by decide)) (pa_cons (pe_ix ix_tup (pe_c GLr (hr.mono (by decide)) (pa_cons (pv 1) (pa_cons pe_int pa_nil))) pe_int (fun _ _ => rfl)) pa_nil))))) (pss_cons (ps_set (i := 2) scLz.nd rfl (by first | exact Or.inl rfl | exact Or.inr rfl) (pe_ix ix_tup (pe_c GLg (hr.mono (by decide)) (pa_cons (pv 1) pa_nil)) pe_int (fun _ _ => rfl)))
      (pss_one (ps_set (i := 3) scLz.nd rfl (by first | exact Or.inl rfl | exact Or.inr rfl) (pe_ix ix_tup (pe_c GLg (hr.mono (by decide)) (pa_cons (pv 1) pa_nil)) pe_int (fun _ _ => rfl)))))) h2)), ?_⟩
    refine ⟨_, rfl, a, ns, rfl, ha, hns, fun H1 p c s1 hp _ => ?_⟩
    refine ⟨_, rfl, p, c, 2, rfl, hp, by decide, by decide, fun H2 k p2 k2 hk => ?_⟩
    refine ⟨rfl, _, rfl, ite2 (fun h => ?_) (fun h => ?_)⟩
    · refine ⟨_, rfl, p, c, rfl, p2, fun H3 tt l t as rs ds p3 k3 htt hl r3 d3 h1 h20 h200 => ⟨tt, _, _, _, rfl, rfl, SqT.of htt, atI_nat (j := 0) rfl, ?_⟩⟩
      have hdl := d3.len
      obtain ⟨d, hd⟩ : ∃ d, ds.getLast? = some d := by
        cases e : ds.getLast? with
        | none =>
          rw [List.getLast?_eq_none_iff] at e
          subst e
          have z0 : ([] : List L).length = 0 := rfl
          omega
        | some d => exact ⟨d, rfl⟩
      intro x dx nx ndx _
      refine mkT nx ndx (.inl hl) r3 d3 hd (by omega) fun H4 s4 X => ?_
      have p4 := p3.same s4
      refine ⟨_, rfl, p, c, rfl, p4, fun H5 tt l t as rs ds2 p5 k5 htt hl r5 d5 h1 h20' h200 => ⟨tt, _, _, _, rfl, rfl, SqT.of htt, atI_nat (j := 0) rfl, ?_⟩⟩
      have hdl2 := d5.len
      obtain ⟨e, he⟩ : ∃ d, ds2.getLast? = some d := by
        cases e : ds2.getLast? with
        | none =>
          rw [List.getLast?_eq_none_iff] at e
          subst e
          have z0 : ([] : List L).length = 0 := rfl
          omega
        | some d => exact ⟨d, rfl⟩
      intro y dy ny ndy _
      refine mkT ny ndy (.inl hl) r5 d5 he (by omega) fun H6 s6 Y => ?_
      exact q2 p c x y _ _ d e H6 (p5.same s6) ((k5.txt p4 X).gro (sGro s6)) Y (by omega) (by omega)
    · refine ⟨_, rfl, p, c, rfl, p2, fun H3 tt x xx d p3 k3 htt X => ⟨tt, _, _, _, rfl, rfl, SqT.of htt, atI_nat (j := 0) rfl, ?_⟩⟩
      refine ⟨_, rfl, p, c, rfl, p3, fun H4 tt y yy e p4 k4 htt Y => ⟨tt, _, _, _, rfl, rfl, SqT.of htt, atI_nat (j := 0) rfl, ?_⟩⟩
      exact q2 p c x y 2 2 d e H4 p4 (k4.txt p3 X) Y (by decide) (by decide)
end
end Sh
set_option Elab.async false
set_option linter.all false
set_option maxRecDepth 100000
set_option maxHeartbeats 4000000
namespace Sh
open PySem PySem.Spec PyProof.Rows L2
section
variable {P : Program} {w : World} {K : PySem.W.Frag} {h : Heap} {mg : Str → Option Value}
theorem SaysH.a (c : SaysH w K) : He5.SaysA fa fn K := congrArg (fun z : AlH => z.1.2) c
theorem SaysH.x (c : SaysH w K) : xtr K = true := congrArg (fun z : AlH => z.1.1) c
theorem SaysH.t (c : SaysH w K) : ∃ es n, KDict K w (He.ga K "SIZES") es n := He.dicW_ok (congrArg (fun z : AlH => z.2) c)
theorem rd_of {C : Addr} (h : PySem.W.readsIn K C (.type "type") = true) : ClX.CRead K C (.type "type") := by
  refine ⟨h, ?_⟩
  unfold PySem.W.readsIn at h
  obtain ⟨h, _⟩ := He.ba h
  obtain ⟨h, _⟩ := He.ba h
  obtain ⟨h, h3⟩ := He.ba h
  obtain ⟨_, h2⟩ := He.ba h
  unfold PySem.W.specialIn
  rw [beq_iff_eq.mp h2, Option.bind_some]
  exact beq_iff_eq.mp h3
theorem cm_of {m : Str} (h : clm K m = true) : ClX.CMet K (He.ga K "Text") (.type "type") m (He.ma K (He.ga K "Text") m) (He5.wf K (He.ga K "Text") "classmethod" m) := by
  obtain ⟨h1, h2⟩ := He.ba h
  exact He5.cmet_of h1 h2
theorem sz_of (h : He.valsB K (He.ga K "SIZES") szs = true) : ∀ q ∈ ([("letters", 2), ("join", 3), ("power", 3), ("part", 4), ("back", 2)] : List (Str × Int)), ∃ u, PySem.W.nsIn K (He.ga K "SIZES") q.1 = some (some u) ∧ RelV (.int q.2) u := by
  intro q hq
  exact He.valsB_ok h (q := (q.1, He.Dv.int q.2)) (List.mem_map_of_mem (f := fun q : Str × Int => (q.1, He.Dv.int q.2)) hq)
theorem tx_of (X : K.In h) (G : h.Ns mainGlobals mg) (c : SaysH w K) : Tx w K mg (He.ga K "Text") (He.ga K "Builder") (He.ga K "SIZES") := by
  have ca := c.a
  exact {
    clT := He.cls_ok (ca.fact 0 (f := .cls "Text") rfl),
    tR := He.noat_ok (ca.fact 1 (f := .noat "Text" "rules") rfl),
    tL := He.noat_ok (ca.fact 2 (f := .noat "Text" "lengths") rfl),
    tN := He.noat_ok (ca.fact 3 (f := .noat "Text" "length") rfl),
    mgT := He.glo_ok X G (ca.fact 4 (f := .glo "Text") rfl),
    rdT := rd_of (He.ba c.x).1,
    clB := He.cls_ok (ca.fact 5 (f := .cls "Builder") rfl),
    bR := He.noat_ok (ca.fact 6 (f := .noat "Builder" "rules") rfl),
    bL := He.noat_ok (ca.fact 7 (f := .noat "Builder" "lengths") rfl),
    mgB := He.glo_ok X G (ca.fact 8 (f := .glo "Builder") rfl),
    MOST_RULES := He.int_ok X G (ca.fact 9 (f := .int "MOST_RULES" 60) rfl),
    MOST_WRITTEN := He.int_ok X G (ca.fact 10 (f := .int "MOST_WRITTEN" 64) rfl),
    MOST_LETTERS := He.int_ok X G (ca.fact 11 (f := .int "MOST_LETTERS" 1000000000000) rfl),
    MOST_TOLD := He.int_ok X G (ca.fact 12 (f := .int "MOST_TOLD" 1000) rfl),
    MOST_AT_ONCE := He.int_ok X G (ca.fact 13 (f := .int "MOST_AT_ONCE" 10) rfl),
    LETTERS := He.str_ok X G (ca.fact 14 (f := .str "LETTERS" letS) rfl),
    mgS := He.glo_ok X G (ca.fact 15 (f := .glo "SIZES") rfl),
    kS := c.t,
    vS := sz_of (He.ba (He.ba (He.ba c.x).2).2).2,
    len_ := He.free_ok X G (ca.fact 16 (f := .free "len") rfl),
    all_ := He.free_ok X G (ca.fact 17 (f := .free "all") rfl),
    tuple_ := He.free_ok X G (ca.fact 18 (f := .free "tuple") rfl),
    enumerate_ := He.free_ok X G (ca.fact 19 (f := .free "enumerate") rfl),
    range_ := He.free_ok X G (ca.fact 20 (f := .free "range") rfl),
    max_ := He.free_ok X G (ca.fact 21 (f := .free "max") rfl),
    min_ := He.free_ok X G (ca.fact 22 (f := .free "min") rfl),
    int_ := He.free_ok X G (ca.fact 23 (f := .free "int") rfl),
    isinstance_ := He.free_ok X G (ca.fact 24 (f := .free "isinstance") rfl),
    list_ := He.free_ok X G (ca.fact 25 (f := .free "list") rfl),
    bool_ := He.free_ok X G (ca.fact 26 (f := .free "bool") rfl),
    str_ := He.free_ok X G (ca.fact 27 (f := .free "str") rfl) }
theorem D_Rl (X : K.In h) (G : h.Ns mainGlobals mg) (c : SaysH w K) : Df K mg "rule_length" sRl := by
  have ca := c.a
  obtain ⟨fd, F⟩ := ca.def_ 0 (h := rfl)
  exact ⟨_, fd, He.glo_ok X G (ca.fact 38 (f := .glo "rule_length") rfl), He5.fun_of (st := sRl) F⟩
theorem D_Ea (X : K.In h) (G : h.Ns mainGlobals mg) (c : SaysH w K) : Df K mg "earlier" sEa := by
  have ca := c.a
  obtain ⟨fd, F⟩ := ca.def_ 1 (h := rfl)
  exact ⟨_, fd, He.glo_ok X G (ca.fact 39 (f := .glo "earlier") rfl), He5.fun_of (st := sEa) F⟩
theorem D_Fa (X : K.In h) (G : h.Ns mainGlobals mg) (c : SaysH w K) : Df K mg "fault" sFa := by
  have ca := c.a
  obtain ⟨fd, F⟩ := ca.def_ 2 (h := rfl)
  exact ⟨_, fd, He.glo_ok X G (ca.fact 40 (f := .glo "fault") rfl), He5.fun_of (st := sFa) F⟩
theorem D_Lo (X : K.In h) (G : h.Ns mainGlobals mg) (c : SaysH w K) : Df K mg "lengths_of" sLo := by
  have ca := c.a
  obtain ⟨fd, F⟩ := ca.def_ 3 (h := rfl)
  exact ⟨_, fd, He.glo_ok X G (ca.fact 41 (f := .glo "lengths_of") rfl), He5.fun_of (st := sLo) F⟩
theorem D_Cr (X : K.In h) (G : h.Ns mainGlobals mg) (c : SaysH w K) : Df K mg "check_rules" sCr := by
  have ca := c.a
  obtain ⟨fd, F⟩ := ca.def_ 4 (h := rfl)
  exact ⟨_, fd, He.glo_ok X G (ca.fact 42 (f := .glo "check_rules") rfl), He5.fun_of (st := sCr) F⟩
theorem D_Ip (X : K.In h) (G : h.Ns mainGlobals mg) (c : SaysH w K) : Df K mg "inner_place" sIp := by
  have ca := c.a
  obtain ⟨fd, F⟩ := ca.def_ 5 (h := rfl)
  exact ⟨_, fd, He.glo_ok X G (ca.fact 43 (f := .glo "inner_place") rfl), He5.fun_of (st := sIp) F⟩
theorem D_Ib (X : K.In h) (G : h.Ns mainGlobals mg) (c : SaysH w K) : Df K mg "inner_parts" sIb := by
  have ca := c.a
  obtain ⟨fd, F⟩ := ca.def_ 6 (h := rfl)
  exact ⟨_, fd, He.glo_ok X G (ca.fact 44 (f := .glo "inner_parts") rfl), He5.fun_of (st := sIb) F⟩
theorem D_Mr (X : K.In h) (G : h.Ns mainGlobals mg) (c : SaysH w K) : Df K mg "moved_rule" sMr := by
  have ca := c.a
  obtain ⟨fd, F⟩ := ca.def_ 7 (h := rfl)
  exact ⟨_, fd, He.glo_ok X G (ca.fact 45 (f := .glo "moved_rule") rfl), He5.fun_of (st := sMr) F⟩
theorem D_Se (X : K.In h) (G : h.Ns mainGlobals mg) (c : SaysH w K) : Df K mg "settled" sSe := by
  have ca := c.a
  obtain ⟨fd, F⟩ := ca.def_ 8 (h := rfl)
  exact ⟨_, fd, He.glo_ok X G (ca.fact 46 (f := .glo "settled") rfl), He5.fun_of (st := sSe) F⟩
theorem D_Cs (X : K.In h) (G : h.Ns mainGlobals mg) (c : SaysH w K) : Df K mg "check_size" sCs := by
  have ca := c.a
  obtain ⟨fd, F⟩ := ca.def_ 9 (h := rfl)
  exact ⟨_, fd, He.glo_ok X G (ca.fact 47 (f := .glo "check_size") rfl), He5.fun_of (st := sCs) F⟩
theorem D_Cp (X : K.In h) (G : h.Ns mainGlobals mg) (c : SaysH w K) : Df K mg "check_place" sCp := by
  have ca := c.a
  obtain ⟨fd, F⟩ := ca.def_ 10 (h := rfl)
  exact ⟨_, fd, He.glo_ok X G (ca.fact 48 (f := .glo "check_place") rfl), He5.fun_of (st := sCp) F⟩
theorem D_Ct (X : K.In h) (G : h.Ns mainGlobals mg) (c : SaysH w K) : Df K mg "check_times" sCt := by
  have ca := c.a
  obtain ⟨fd, F⟩ := ca.def_ 11 (h := rfl)
  exact ⟨_, fd, He.glo_ok X G (ca.fact 49 (f := .glo "check_times") rfl), He5.fun_of (st := sCt) F⟩
theorem D_Rp (X : K.In h) (G : h.Ns mainGlobals mg) (c : SaysH w K) : Df K mg "replace_part" sRp := by
  have ca := c.a
  obtain ⟨fd, F⟩ := ca.def_ 12 (h := rfl)
  exact ⟨_, fd, He.glo_ok X G (ca.fact 50 (f := .glo "replace_part") rfl), He5.fun_of (st := sRp) F⟩
theorem D_Ia (X : K.In h) (G : h.Ns mainGlobals mg) (c : SaysH w K) : Df K mg "insert_at" sIa := by
  have ca := c.a
  obtain ⟨fd, F⟩ := ca.def_ 13 (h := rfl)
  exact ⟨_, fd, He.glo_ok X G (ca.fact 51 (f := .glo "insert_at") rfl), He5.fun_of (st := sIa) F⟩
theorem D_Rm (X : K.In h) (G : h.Ns mainGlobals mg) (c : SaysH w K) : Df K mg "remove_part" sRm := by
  have ca := c.a
  obtain ⟨fd, F⟩ := ca.def_ 14 (h := rfl)
  exact ⟨_, fd, He.glo_ok X G (ca.fact 52 (f := .glo "remove_part") rfl), He5.fun_of (st := sRm) F⟩
theorem D_Po (X : K.In h) (G : h.Ns mainGlobals mg) (c : SaysH w K) : Df K mg "part_of" sPo := by
  have ca := c.a
  obtain ⟨fd, F⟩ := ca.def_ 15 (h := rfl)
  exact ⟨_, fd, He.glo_ok X G (ca.fact 53 (f := .glo "part_of") rfl), He5.fun_of (st := sPo) F⟩
theorem D_Mp (X : K.In h) (G : h.Ns mainGlobals mg) (c : SaysH w K) : Df K mg "move_part" sMp := by
  have ca := c.a
  obtain ⟨fd, F⟩ := ca.def_ 16 (h := rfl)
  exact ⟨_, fd, He.glo_ok X G (ca.fact 54 (f := .glo "move_part") rfl), He5.fun_of (st := sMp) F⟩
theorem D_Tp (X : K.In h) (G : h.Ns mainGlobals mg) (c : SaysH w K) : Df K mg "turn_part" sTp := by
  have ca := c.a
  obtain ⟨fd, F⟩ := ca.def_ 17 (h := rfl)
  exact ⟨_, fd, He.glo_ok X G (ca.fact 55 (f := .glo "turn_part") rfl), He5.fun_of (st := sTp) F⟩
theorem D_Re (X : K.In h) (G : h.Ns mainGlobals mg) (c : SaysH w K) : Df K mg "repeat_part" sRe := by
  have ca := c.a
  obtain ⟨fd, F⟩ := ca.def_ 18 (h := rfl)
  exact ⟨_, fd, He.glo_ok X G (ca.fact 56 (f := .glo "repeat_part") rfl), He5.fun_of (st := sRe) F⟩
theorem D_Is (X : K.In h) (G : h.Ns mainGlobals mg) (c : SaysH w K) : Df K mg "is_spelling" sIs := by
  have ca := c.a
  obtain ⟨fd, F⟩ := ca.def_ 19 (h := rfl)
  exact ⟨_, fd, He.glo_ok X G (ca.fact 57 (f := .glo "is_spelling") rfl), He5.fun_of (st := sIs) F⟩
theorem D_Ch (X : K.In h) (G : h.Ns mainGlobals mg) (c : SaysH w K) : Df K mg "check_phrases" sCh := by
  have ca := c.a
  obtain ⟨fd, F⟩ := ca.def_ 20 (h := rfl)
  exact ⟨_, fd, He.glo_ok X G (ca.fact 58 (f := .glo "check_phrases") rfl), He5.fun_of (st := sCh) F⟩
theorem D_Sp (X : K.In h) (G : h.Ns mainGlobals mg) (c : SaysH w K) : Df K mg "spelled_on" sSp := by
  have ca := c.a
  obtain ⟨fd, F⟩ := ca.def_ 21 (h := rfl)
  exact ⟨_, fd, He.glo_ok X G (ca.fact 59 (f := .glo "spelled_on") rfl), He5.fun_of (st := sSp) F⟩
theorem D_Ap (X : K.In h) (G : h.Ns mainGlobals mg) (c : SaysH w K) : Df K mg "apply_phrases" sAp := by
  have ca := c.a
  obtain ⟨fd, F⟩ := ca.def_ 22 (h := rfl)
  exact ⟨_, fd, He.glo_ok X G (ca.fact 60 (f := .glo "apply_phrases") rfl), He5.fun_of (st := sAp) F⟩
theorem D_Lp (X : K.In h) (G : h.Ns mainGlobals mg) (c : SaysH w K) : Df K mg "_law_pool" sLp := by
  have ca := c.a
  obtain ⟨fd, F⟩ := ca.def_ 23 (h := rfl)
  exact ⟨_, fd, He.glo_ok X G (ca.fact 61 (f := .glo "_law_pool") rfl), He5.fun_of (st := sLp) F⟩
theorem D_Lt (X : K.In h) (G : h.Ns mainGlobals mg) (c : SaysH w K) : Df K mg "_law_take" sLt := by
  have ca := c.a
  obtain ⟨fd, F⟩ := ca.def_ 24 (h := rfl)
  exact ⟨_, fd, He.glo_ok X G (ca.fact 62 (f := .glo "_law_take") rfl), He5.fun_of (st := sLt) F⟩
theorem D_Lw (X : K.In h) (G : h.Ns mainGlobals mg) (c : SaysH w K) : Df K mg "_law_written" sLw := by
  have ca := c.a
  obtain ⟨fd, F⟩ := ca.def_ 25 (h := rfl)
  exact ⟨_, fd, He.glo_ok X G (ca.fact 63 (f := .glo "_law_written") rfl), He5.fun_of (st := sLw) F⟩
theorem D_Ln (X : K.In h) (G : h.Ns mainGlobals mg) (c : SaysH w K) : Df K mg "_law_number" sLn := by
  have ca := c.a
  obtain ⟨fd, F⟩ := ca.def_ 26 (h := rfl)
  exact ⟨_, fd, He.glo_ok X G (ca.fact 64 (f := .glo "_law_number") rfl), He5.fun_of (st := sLn) F⟩
theorem D_Lx (X : K.In h) (G : h.Ns mainGlobals mg) (c : SaysH w K) : Df K mg "_law_next" sLx := by
  have ca := c.a
  obtain ⟨fd, F⟩ := ca.def_ 27 (h := rfl)
  exact ⟨_, fd, He.glo_ok X G (ca.fact 65 (f := .glo "_law_next") rfl), He5.fun_of (st := sLx) F⟩
theorem D_Lm (X : K.In h) (G : h.Ns mainGlobals mg) (c : SaysH w K) : Df K mg "_law_made" sLm := by
  have ca := c.a
  obtain ⟨fd, F⟩ := ca.def_ 28 (h := rfl)
  exact ⟨_, fd, He.glo_ok X G (ca.fact 66 (f := .glo "_law_made") rfl), He5.fun_of (st := sLm) F⟩
theorem D_Lr (X : K.In h) (G : h.Ns mainGlobals mg) (c : SaysH w K) : Df K mg "_law_rules" sLr := by
  have ca := c.a
  obtain ⟨fd, F⟩ := ca.def_ 29 (h := rfl)
  exact ⟨_, fd, He.glo_ok X G (ca.fact 67 (f := .glo "_law_rules") rfl), He5.fun_of (st := sLr) F⟩
theorem D_Lg (X : K.In h) (G : h.Ns mainGlobals mg) (c : SaysH w K) : Df K mg "_law_great" sLg := by
  have ca := c.a
  obtain ⟨fd, F⟩ := ca.def_ 30 (h := rfl)
  exact ⟨_, fd, He.glo_ok X G (ca.fact 68 (f := .glo "_law_great") rfl), He5.fun_of (st := sLg) F⟩
theorem D_Li (X : K.In h) (G : h.Ns mainGlobals mg) (c : SaysH w K) : Df K mg "_law_is_integer" sLi := by
  have ca := c.a
  obtain ⟨fd, F⟩ := ca.def_ 31 (h := rfl)
  exact ⟨_, fd, He.glo_ok X G (ca.fact 69 (f := .glo "_law_is_integer") rfl), He5.fun_of (st := sLi) F⟩
theorem D_Ls (X : K.In h) (G : h.Ns mainGlobals mg) (c : SaysH w K) : Df K mg "_law_same" sLs := by
  have ca := c.a
  obtain ⟨fd, F⟩ := ca.def_ 32 (h := rfl)
  exact ⟨_, fd, He.glo_ok X G (ca.fact 70 (f := .glo "_law_same") rfl), He5.fun_of (st := sLs) F⟩
theorem D_La (X : K.In h) (G : h.Ns mainGlobals mg) (c : SaysH w K) : Df K mg "_law_alike" sLa := by
  have ca := c.a
  obtain ⟨fd, F⟩ := ca.def_ 33 (h := rfl)
  exact ⟨_, fd, He.glo_ok X G (ca.fact 71 (f := .glo "_law_alike") rfl), He5.fun_of (st := sLa) F⟩
theorem D_Lz (X : K.In h) (G : h.Ns mainGlobals mg) (c : SaysH w K) : Df K mg "law" sLz := by
  have ca := c.a
  obtain ⟨fd, F⟩ := ca.def_ 34 (h := rfl)
  exact ⟨_, fd, He.glo_ok X G (ca.fact 72 (f := .glo "law") rfl), He5.fun_of (st := sLz) F⟩
theorem D_Tl (X : K.In h) (G : h.Ns mainGlobals mg) (c : SaysH w K) : Dm K (He.ga K "Text") "letter" "Text.letter" sTl := by
  have ca := c.a
  obtain ⟨fd, F⟩ := ca.def_ 35 (h := rfl)
  exact ⟨_, fd, He.meth_ok (ca.fact 30 (f := .meth "Text" "letter") rfl), He5.fun_of (st := sTl) F⟩
theorem D_Tc (X : K.In h) (G : h.Ns mainGlobals mg) (c : SaysH w K) : Dm K (He.ga K "Text") "check_part" "Text.check_part" sTc := by
  have ca := c.a
  obtain ⟨fd, F⟩ := ca.def_ 36 (h := rfl)
  exact ⟨_, fd, He.meth_ok (ca.fact 31 (f := .meth "Text" "check_part") rfl), He5.fun_of (st := sTc) F⟩
theorem D_Ts (X : K.In h) (G : h.Ns mainGlobals mg) (c : SaysH w K) : Dm K (He.ga K "Text") "letters" "Text.letters" sTs := by
  have ca := c.a
  obtain ⟨fd, F⟩ := ca.def_ 37 (h := rfl)
  exact ⟨_, fd, He.meth_ok (ca.fact 32 (f := .meth "Text" "letters") rfl), He5.fun_of (st := sTs) F⟩
theorem D_Ba (X : K.In h) (G : h.Ns mainGlobals mg) (c : SaysH w K) : Dm K (He.ga K "Builder") "add" "Builder.add" sBa := by
  have ca := c.a
  obtain ⟨fd, F⟩ := ca.def_ 38 (h := rfl)
  exact ⟨_, fd, He.meth_ok (ca.fact 33 (f := .meth "Builder" "add") rfl), He5.fun_of (st := sBa) F⟩
theorem D_Bt (X : K.In h) (G : h.Ns mainGlobals mg) (c : SaysH w K) : Dm K (He.ga K "Builder") "text" "Builder.text" sBt := by
  have ca := c.a
  obtain ⟨fd, F⟩ := ca.def_ 39 (h := rfl)
  exact ⟨_, fd, He.meth_ok (ca.fact 34 (f := .meth "Builder" "text") rfl), He5.fun_of (st := sBt) F⟩
theorem D_Bp (X : K.In h) (G : h.Ns mainGlobals mg) (c : SaysH w K) : Dm K (He.ga K "Builder") "part" "Builder.part" sBp := by
  have ca := c.a
  obtain ⟨fd, F⟩ := ca.def_ 40 (h := rfl)
  exact ⟨_, fd, He.meth_ok (ca.fact 35 (f := .meth "Builder" "part") rfl), He5.fun_of (st := sBp) F⟩
theorem D_Bj (X : K.In h) (G : h.Ns mainGlobals mg) (c : SaysH w K) : Dm K (He.ga K "Builder") "join" "Builder.join" sBj := by
  have ca := c.a
  obtain ⟨fd, F⟩ := ca.def_ 41 (h := rfl)
  exact ⟨_, fd, He.meth_ok (ca.fact 36 (f := .meth "Builder" "join") rfl), He5.fun_of (st := sBj) F⟩
theorem D_Br (X : K.In h) (G : h.Ns mainGlobals mg) (c : SaysH w K) : Dm K (He.ga K "Builder") "row" "Builder.row" sBr := by
  have ca := c.a
  obtain ⟨fd, F⟩ := ca.def_ 42 (h := rfl)
  exact ⟨_, fd, He.meth_ok (ca.fact 37 (f := .meth "Builder" "row") rfl), He5.fun_of (st := sBr) F⟩
theorem D_Ti (X : K.In h) (G : h.Ns mainGlobals mg) (c : SaysH w K) : Dk K (He.ga K "Text") "Text.__init__" sTi := by
  have ca := c.a
  obtain ⟨fd, F⟩ := ca.def_ 43 (h := rfl)
  exact ⟨_, fd, He.mkr_ok (ca.fact 28 (f := .mkr "Text") rfl), He5.fun_of (st := sTi) F⟩
theorem D_Bi (X : K.In h) (G : h.Ns mainGlobals mg) (c : SaysH w K) : Dk K (He.ga K "Builder") "Builder.__init__" sBi := by
  have ca := c.a
  obtain ⟨fd, F⟩ := ca.def_ 44 (h := rfl)
  exact ⟨_, fd, He.mkr_ok (ca.fact 29 (f := .mkr "Builder") rfl), He5.fun_of (st := sBi) F⟩
theorem D_Tm (X : K.In h) (G : h.Ns mainGlobals mg) (c : SaysH w K) : Dc K (He.ga K "Text") "made" "Text.made" sTm := by
  have ca := c.a
  obtain ⟨fd, F⟩ := ca.def_ 45 (h := rfl)
  exact ⟨_, _, fd, cm_of (He.ba (He.ba c.x).2).1, He5.fun_of (st := sTm) F⟩
theorem D_To (X : K.In h) (G : h.Ns mainGlobals mg) (c : SaysH w K) : Dc K (He.ga K "Text") "of_letters" "Text.of_letters" sTo := by
  have ca := c.a
  obtain ⟨fd, F⟩ := ca.def_ 46 (h := rfl)
  exact ⟨_, _, fd, cm_of (He.ba (He.ba (He.ba c.x).2).2).1, He5.fun_of (st := sTo) F⟩
theorem lc_of {base : Heap} (X : K.In h) (G : h.Ns mainGlobals mg) (c : SaysH w K) : Lc P w K mg base (He.ga K "Text") := by
  have T := tx_of X G c
  have gRl := ok_Rl (P := P) (base := base) T (D_Rl X G c)
  have gEa := ok_Ea (P := P) (base := base) T (D_Ea X G c)
  have gLo := ok_Lo (P := P) (base := base) T gRl (D_Lo X G c)
  have gFa := ok_Fa (P := P) (base := base) T gRl gEa (D_Fa X G c)
  have gCr := ok_Cr (P := P) (base := base) T gFa gRl (D_Cr X G c)
  have gTi := ok_Ti (P := P) (base := base) T gCr gLo (D_Ti X G c)
  have gTm := ok_Tm (P := P) (base := base) T gTi gLo (D_Tm X G c)
  have gTo := ok_To (P := P) (base := base) T gTi (D_To X G c)
  have gIp := ok_Ip (P := P) (base := base) T (D_Ip X G c)
  have gTc := ok_Tc (P := P) (base := base) T (D_Tc X G c)
  have gTl := ok_Tl (P := P) (base := base) T gIp (D_Tl X G c)
  have gIb := ok_Ib (P := P) (base := base) T (D_Ib X G c)
  have gTs := ok_Ts (P := P) (base := base) T gTc gIb (D_Ts X G c)
  have gMr := ok_Mr (P := P) (base := base) T (D_Mr X G c)
  have gBi := ok_Bi (P := P) (base := base) T (D_Bi X G c)
  have gBa := ok_Ba (P := P) (base := base) T (D_Ba X G c)
  have gBp := ok_Bp (P := P) (base := base) T gBa (D_Bp X G c)
  have gBj := ok_Bj (P := P) (base := base) T gBa (D_Bj X G c)
  have gBt := ok_Bt (P := P) (base := base) T gBa gMr (D_Bt X G c)
  have gBr := ok_Br (P := P) (base := base) T gBj (D_Br X G c)
  have gSe := ok_Se (P := P) (base := base) T gTm (D_Se X G c)
  have gCs := ok_Cs (P := P) (base := base) T (D_Cs X G c)
  have gCp := ok_Cp (P := P) (base := base) T (D_Cp X G c)
  have gCt := ok_Ct (P := P) (base := base) T (D_Ct X G c)
  have Y : Ed P w K mg base (He.ga K "Text") (He.ga K "Builder") := ⟨gTc, gBi, gBa, gBt, gBp, gBj, gBr, gSe, gCs, gCp, gCt⟩
  have gRm := ok_Rm (P := P) (base := base) T Y (D_Rm X G c)
  have gPo := ok_Po (P := P) (base := base) T Y (D_Po X G c)
  have gRp := ok_Rp (P := P) (base := base) T Y (D_Rp X G c)
  have gIa := ok_Ia (P := P) (base := base) T Y gRp (D_Ia X G c)
  have gTp := ok_Tp (P := P) (base := base) T Y (D_Tp X G c)
  have gRe := ok_Re (P := P) (base := base) T Y (D_Re X G c)
  have gMp := ok_Mp (P := P) (base := base) T Y (D_Mp X G c)
  have gIs := ok_Is (P := P) (base := base) T (D_Is X G c)
  have gCh := ok_Ch (P := P) (base := base) T gIs gCs (D_Ch X G c)
  have gSp := ok_Sp (P := P) (base := base) T Y (D_Sp X G c)
  have gAp := ok_Ap (P := P) (base := base) T gCh gTo gSp (D_Ap X G c)
  have gLt0 := ok_Lt0 (P := P) (base := base) T (D_Lt X G c)
  have gLt := ok_Lt (P := P) (base := base) T gLt0 (D_Lt X G c)
  have gLp := ok_Lp (P := P) (base := base) T (D_Lp X G c)
  have gLn := ok_Ln (P := P) (base := base) T gLt (D_Ln X G c)
  have gLm := ok_Lm (P := P) (base := base) T (D_Lm X G c)
  have gLw := ok_Lw (P := P) (base := base) T gLt (D_Lw X G c)
  have gLx := ok_Lx (P := P) (base := base) T gLt gLn gLw (D_Lx X G c)
  have gLr := ok_Lr (P := P) (base := base) T gLt gLx gLm (D_Lr X G c)
  have gLg := ok_Lg (P := P) (base := base) T gLt gTi (D_Lg X G c)
  have gLi := ok_Li (P := P) (base := base) T (D_Li X G c)
  have gLs := ok_Ls (P := P) (base := base) T gLi (D_Ls X G c)
  have gLa := ok_La (P := P) (base := base) T gLt gLs gTl gTs (D_La X G c)
  exact ⟨gLp, gLt, gLr, gLg, gLa, gTi, gTo, gPo, gRm, gIa, gRp, gTp, gMp, gRe, gAp⟩
theorem facts {f : Addr} (X : K.In h) (G : h.Ns mainGlobals mg) (hfa : mg ("law" : Str) = some (.ref f)) (c : SaysH w K) :
    ∃ fd : FuncData, (∀ (s : Shared) (v : Value), BindsTo s fd ⟨[v], []⟩ [("_law_script", v)]) ∧ ∀ base : Heap, K.In base → base.Ns mainGlobals mg → FnOk P w K mg base CX0 10 f fd ["_law_script"] (spLz K) := by
  have ca := c.a
  obtain ⟨fd, F⟩ := ca.def_ 34 (h := rfl)
  have e := hfa.symm.trans (He.glo_ok X G (ca.fact 72 (f := .glo "law") rfl))
  cases e
  have b := FunD.bindsA (ps := ["_law_script"]) F fun _ _ _ _ _ _ us hl => match us, hl with | [_], _ => rfl
  refine ⟨fd, fun s v => b s [v] rfl, fun base _ _ => ?_⟩
  have F2 := He5.fun_of (st := sLz) F
  refine F2.ok scLz (fun vs H Q E h => ?_) fun cdv A outer s H vs Q E hr hs => bod_Lz (tx_of X G c) (lc_of X G c) _ cdv A outer s H vs Q E hr hs
  obtain ⟨a, ns, rfl, _⟩ := h
  rfl
end
end Sh
set_option Elab.async false
set_option linter.all false
set_option maxRecDepth 100000
set_option maxHeartbeats 0
open PySem PySem.W PySem.Calls PyProof.Rows
theorem PySem.Challenge.cw_shortheld_k46_whole_there_and_back_holds : PySem.Challenge.rw_shortheld_k46_whole_there_and_back.Holds := by
  w_on; o_law
  refine HandSHeadRun.head_any (r := Sh.RW) (q := Sh.QV) (H := Sh.hkH) (ob := Sh.obT) (M := 12000) (loose := Sh.restN) (d := HandSHeadRun.topDef Sh.RW.prog 74) (kwd := []) Sh.obT_eq
    (by kernel_rfl) (fun s => by kernel_rfl) Sh.runH (by kernel_rfl) (by kernel_rfl) (by kernel_rfl) (by rfl) (by first | assumption | decide +kernel) (by decide +kernel) ⟨rfl, rfl, rfl, rfl, rfl, by decide +kernel⟩ ?hw ?hc
  case hw => w_witness2
  case hc =>
    refine L2.walk_ofE (l := PySem.Challenge.rw_shortheld_k46_whole_there_and_back) (n := 63) (k := 10) (x := "_law_script") (CX := L2.CX0) rfl (by decide) (by kernel_rfl) ⟨rfl, by decide, by decide⟩ ?F (fun _ _ _ _ z => z)
    intro w mg fa h Y G hmg0
    obtain ⟨K, KX, c⟩ := Y
    have hmg : mg ("law" : PySem.Str) = some (.ref fa) := by
      have e : (HandSHeadRun.topDef Sh.RW.prog 74).name = ("law" : PySem.Str) := by kernel_rfl
      rw [← e]
      exact hmg0
    obtain ⟨fd, hb, hF⟩ := Sh.facts (P := PySem.Challenge.rw_shortheld_k46_whole_there_and_back.prog) (w := w) KX G hmg c
    exact ⟨K, fd, Sh.spLz K, KX, hb, fun H a ns hl _ hS => ⟨a, ns, rfl, hS, Nat.le_trans hl (by decide), fun _ => rfl⟩, hF⟩
