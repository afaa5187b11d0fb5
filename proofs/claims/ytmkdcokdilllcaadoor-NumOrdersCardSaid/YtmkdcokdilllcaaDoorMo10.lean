/- The order of numbers is one: of three, by signs, and ten times more is more: the law NumOrders; no condition. -/
import Derived.Test.YtmkdcokdilllcaaDoorMo7
import Derived.Test.YtmkdcokdilllcaaDoorMo9
import Derived.Test.YtmkdcokdilllcaaDoorMo2
/- The law of orders holds. -/
namespace Go.Proofs.YtmkdcokdilllcaaDoor.X
open Go.RowKit Go.Proofs.YtmkdcokdilllcaaDoorW.PrintWords Go.Proofs.YtmkdcokdilllcaaDoorW.PrintMore
set_option linter.unusedVariables false
set_option linter.unusedSimpArgs false
theorem Ev.succ {α : Type} {g : Nat → Option α} {r : α} (h : Ev (fun k => g (k + 1)) r) : Ev g r := Ev.step (fun _ => rfl) h
theorem few_eq (a : Bool) (la : List Int) (ea : Int) (b : Bool) (lb : List Int) (eb : Int) : erratumlaw02_few.f a la ea b lb eb = some (decide (la.length ≤ 30 ∧ lb.length ≤ 30)) := by
  unfold erratumlaw02_few.f
  by_cases h : la.length ≤ 30
  · rw [if_pos (by omega)]
    congr 1
    rw [decide_eq_decide]
    omega
  · rw [if_neg (by omega)]
    congr 1
    symm
    rw [decide_eq_false_iff_not]
    omega
theorem orders_end {neg : Bool} {n : Nat} {E : Int} (hn : GoodNum neg n E) : Ev (fun k => erratumlaw02_NumOrders.j1 k false neg (lim n) E) true := by
  have e1 := hn.lo
  have e2 := hn.hi
  have l1 := hn.limbs
  have hm := num_make (lim_ok n) (by omega) neg (E + 1) (by omega) (by omega)
  rw [val_lim] at hm
  have hw : wrap64 (E + 1) = E + 1 := wrap64_ok (by omega) (by omega)
  have hs := num_cmp_good hn hn
  rw [(cmp3_zero _ _).2 rfl] at hs
  have hself : Ev (fun k => (num_Cmp.f k neg (lim n) E neg (lim n) E).bind fun t => if t = 0 then (erratumlaw02_awake.f k).bind fun t => some t else some false) true := by
    refine Ev.bind hs ?_
    simp only [if_true]
    exact Ev.bind awake_true (Ev.now _)
  refine Ev.succ ?_
  simp only [erratumlaw02_NumOrders.j1, Bool.false_eq_true, if_false, hw]
  refine Ev.bind hm ?_
  by_cases h0 : n = 0
  · obtain ⟨rfl, rfl⟩ := hn.zero h0
    subst h0
    have c0 : ((lim 0).length : Int) = 0 := by rw [lim_zero]; rfl
    simp only [make_zero, c0, if_true]
    have hz := num_cmp_good zeroGood zeroGood
    rw [(cmp3_zero _ _).2 rfl] at hz
    rw [lim_zero] at hz hself ⊢
    refine Ev.succ ?_
    simp only [erratumlaw02_NumOrders.j2, if_true]
    refine Ev.bind hz ?_
    simp only [if_true]
    exact hself
  · have h10 := hn.ten h0
    have hl : (lim n).length ≠ 0 := fun h => h0 ((lim_len_zero n).1 h)
    have c0 : ¬ ((lim n).length : Int) = 0 := by omega
    simp only [c0, if_false]
    by_cases hE : E = 1200
    · subst hE
      have hmk : makeS neg n (1200 + 1) = (false, [], 0, false) := by
        unfold makeS
        rw [tz_self h10]
        simp only
        rw [if_neg h0, if_neg (by omega), if_pos (by omega)]
      simp only [hmk]
      cases neg
      · simp only [Bool.false_eq_true, if_false]
        refine Ev.succ ?_
        simp only [erratumlaw02_NumOrders.j2, Bool.false_eq_true, if_false, if_true]
        exact hself
      · simp only [if_true]
        refine Ev.succ ?_
        simp only [erratumlaw02_NumOrders.j2, Bool.false_eq_true, if_false, if_true]
        exact hself
    · have hg : GoodNum neg n (E + 1) := ⟨fun h => (h0 h).elim, fun _ => h10, l1, by omega, by omega⟩
      have hmk : makeS neg n (E + 1) = (neg, lim n, E + 1, true) := by
        have := make_good hg h0 0
        simpa using this
      have hc := num_cmp_good hg hn
      have hmag : mag n (E + 1) = 10 * mag n E := by
        unfold mag
        rw [show (E + 1 + 1200).toNat = (E + 1200).toNat + 1 by omega, Nat.pow_succ]
        rw [Nat.mul_comm (10 ^ _) 10, ← Nat.mul_assoc, ← Nat.mul_assoc, Nat.mul_comm n 10]
      have hp := mag_pos h0 E
      simp only [hmk]
      cases neg
      · simp only [Bool.false_eq_true, if_false]
        have hv : cmp3 (V false n (E + 1)) (V false n E) = 1 := by
          unfold cmp3 V
          simp only [Bool.false_eq_true, if_false, hmag]
          rw [if_neg (by omega), if_pos (by omega)]
        rw [hv] at hc
        refine Ev.succ ?_
        simp only [erratumlaw02_NumOrders.j2, if_true]
        refine Ev.bind hc ?_
        simp only [if_true]
        exact hself
      · simp only [if_true]
        have hv : cmp3 (V true n (E + 1)) (V true n E) = -1 := by
          unfold cmp3 V
          simp only [if_true, hmag]
          rw [if_pos (by omega)]
        rw [hv] at hc
        refine Ev.succ ?_
        simp only [erratumlaw02_NumOrders.j2, if_true]
        refine Ev.bind hc ?_
        simp only [if_true]
        exact hself
theorem cmp3_swap (x y : Int) : cmp3 y x = -cmp3 x y := by
  unfold cmp3
  by_cases h1 : x < y
  · have h2 : ¬ y < x := by omega
    simp only [h1, h2, if_true, if_false]
    decide
  · by_cases h2 : y < x
    · simp only [h1, h2, if_true, if_false]
    · simp only [h1, h2, if_true, if_false]
      decide
theorem cmp3_le (x y : Int) : (cmp3 x y ≤ 0 ↔ x ≤ y) ∧ (0 ≤ cmp3 x y ↔ y ≤ x) := by
  unfold cmp3
  by_cases h1 : x < y
  · rw [if_pos h1]; omega
  · by_cases h2 : y < x
    · rw [if_neg h1, if_pos h2]; omega
    · rw [if_neg h1, if_neg h2]; omega
theorem cmp3_cases (x y : Int) : cmp3 x y = -1 ∨ cmp3 x y = 0 ∨ cmp3 x y = 1 := by
  have := cmp3_one x y
  omega
theorem orders_core {a b c : Bool} {n m p : Nat} {E F G : Int} (ha : GoodNum a n E) (hb : GoodNum b m F) (hc : GoodNum c p G) :
    Ev (fun k => erratumlaw02_NumOrders.j0 k false a (lim n) E b (lim m) F c (lim p) G) true := by
  have c1 := num_cmp_good ha hb
  have c2 := num_cmp_good hb hc
  have c3 := num_cmp_good ha hc
  have c4 := num_cmp_good hb ha
  have hend := orders_end ha
  have hs : Ev (fun k => num_Same.f k a (lim n) E b (lim m) F) (cmp3 (V a n E) (V b m F) == 0) := by
    have h := num_same_good ha hb
    rw [show decide (V a n E = V b m F) = (cmp3 (V a n E) (V b m F) == 0) from by rw [Bool.eq_iff_iff]; simp [cmp3_zero]] at h
    exact h
  rw [cmp3_swap] at c4
  have q1 := cmp3_le (V a n E) (V b m F)
  have q2 := cmp3_le (V b m F) (V c p G)
  have q3 := cmp3_le (V a n E) (V c p G)
  have t1 : cmp3 (V a n E) (V b m F) ≤ 0 → cmp3 (V b m F) (V c p G) ≤ 0 → cmp3 (V a n E) (V c p G) ≤ 0 := by omega
  have t2 : 0 ≤ cmp3 (V a n E) (V b m F) → 0 ≤ cmp3 (V b m F) (V c p G) → 0 ≤ cmp3 (V a n E) (V c p G) := by omega
  clear q1 q2 q3
  have x0 := cmp3_cases (V a n E) (V b m F)
  have y0 := cmp3_cases (V b m F) (V c p G)
  have z0 := cmp3_cases (V a n E) (V c p G)
  generalize cmp3 (V a n E) (V b m F) = x at *
  generalize cmp3 (V b m F) (V c p G) = y at *
  generalize cmp3 (V a n E) (V c p G) = z at *
  refine Ev.succ ?_
  simp only [erratumlaw02_NumOrders.j0, Bool.false_eq_true, if_false]
  refine Ev.bind c1 (Ev.bind c2 (Ev.bind c3 (Ev.bind c4 ?_)))
  have hfin : ∀ v : Bool, v = (x == 0) → Ev (fun k => (num_Same.f k a (lim n) E b (lim m) F).bind fun t => erratumlaw02_NumOrders.j1 k (v != t) a (lim n) E) true := by
    rintro v rfl
    refine Ev.bind hs ?_
    simp only [bne_self_eq_false]
    exact hend
  have a1 : ((-1 : Int) ≤ 0) = True := by simp
  have a2 : ((-1 : Int) ≥ 0) = False := by simp
  have a3 : ((-1 : Int) > 0) = False := by simp
  have a4 : ((-1 : Int) < 0) = True := by simp
  have b1 : ((1 : Int) ≤ 0) = False := by simp
  have b2 : ((1 : Int) ≥ 0) = True := by simp
  have b3 : ((1 : Int) > 0) = True := by simp
  have b4 : ((1 : Int) < 0) = False := by simp
  have d1 : ((0 : Int) ≤ 0) = True := by simp
  have d2 : ((0 : Int) ≥ 0) = True := by simp
  have d3 : ((0 : Int) > 0) = False := by simp
  have d4 : ((0 : Int) < 0) = False := by simp
  have w1 : wrap64 1 = 1 := wrap64_ok (by decide) (by decide)
  have w2 : wrap64 0 = 0 := wrap64_ok (by decide) (by decide)
  have w3 : wrap64 (-1) = -1 := wrap64_ok (by decide) (by decide)
  have n1 : -(-1 : Int) = 1 := by decide
  have n2 : -(0 : Int) = 0 := by decide
  rcases x0 with rfl | rfl | rfl <;> rcases y0 with rfl | rfl | rfl <;> rcases z0 with rfl | rfl | rfl <;>
    first
    | (exfalso; omega)
    | (simp only [a1, a2, a3, a4, b1, b2, b3, b4, d1, d2, d3, d4, w1, w2, w3, n1, n2, if_true, if_false]; exact hfin _ rfl)
/-- THE LAW OF ORDERS. -/
theorem numOrders_true (a : Bool) (la : List Int) (ea : Int) (b : Bool) (lb : List Int) (eb : Int) (c : Bool) (lc : List Int) (ec : Int) (ha : Ok la) (hb : Ok lb) (hc : Ok lc) :
    Ev (fun k => erratumlaw02_NumOrders.f k a la ea b lb eb c lc ec) true := by
  have hj : Ev (fun k => erratumlaw02_NumOrders.j0 k true a la ea b lb eb c lc ec) true := by
    refine Ev.succ ?_
    simp only [erratumlaw02_NumOrders.j0, if_true]
    exact Ev.bind awake_true (Ev.now _)
  unfold erratumlaw02_NumOrders.f
  simp only [few_eq, Option.bind_some]
  by_cases h1 : la.length ≤ 30 ∧ lb.length ≤ 30
  · simp only [h1, and_self, decide_true, if_true]
    by_cases h2 : (lc.length : Int) > 30
    · simp only [h2, if_true]
      exact hj
    · simp only [h2, if_false]
      refine Ev.bind (r2check ha (by omega) a ea) ?_
      rcases k1 : checkS a la ea with _ | _
      · simp only [Bool.false_eq_true, if_false]
        exact hj
      · simp only [if_true]
        refine Ev.bind (r2check hb (by omega) b eb) ?_
        rcases k2 : checkS b lb eb with _ | _
        · simp only [Bool.false_eq_true, if_false]
          exact hj
        · simp only [if_true]
          refine Ev.bind (r2check hc (by omega) c ec) ?_
          rcases k3 : checkS c lc ec with _ | _
          · exact hj
          · obtain ⟨g1, g2⟩ := check_good ha k1
            obtain ⟨g3, g4⟩ := check_good hb k2
            obtain ⟨g5, g6⟩ := check_good hc k3
            have h := orders_core g2 g4 g6
            rw [← g1, ← g3, ← g5] at h
            exact h
  · simp only [h1, decide_false, Bool.false_eq_true, if_false]
    exact hj
end Go.Proofs.YtmkdcokdilllcaaDoor.X
/- The row and the card of NumOrders. -/
namespace Go.Proofs.YtmkdcokdilllcaaDoor.X
open Go.ChangeShapes Go.WideShapes Go.ChangeAt Go.RowKit
set_option maxRecDepth 100000 in
theorem contractNumOrders (H : Type) (enc : TypeId × Value → H) (W : World) (base : Nat) (args : Array Value) (ds gs : List (DataW H)) (before : List MemPlace)
    (hval : ∀ (j : Nat) t v, Tryd.f7.params[j]? = some t → args[j]? = some v → Value.okWide Tryd.prog W .any base t v)
    (hW : DataW.Whole enc Tryd.prog Tryd.f7.params.toList Rows.numOrdersSpec.vars false W args.toList ds gs before) (hL : laidMetH Tryd.prog Rows.numOrdersRow.laid W) :
    Calls Tryd.prog 7 args W fun e W' => ∃ v, e = .returned v ∧ Rows.numOrdersSpec.post enc Tryd.prog Tryd.f7 false true false false W args v W' := by
  have hW' := hW
  obtain ⟨p, q, hA0, hV, rfl, hfz, hnd⟩ := hW
  have hA : DataW.TrodAll enc Tryd.prog W 0 (fun _ => true) true Tryd.f7.params.toList args.toList ds p := hA0
  rw [Tryd.params7] at hA hval
  obtain ⟨v0, vs0, d0, ds0, p0, q0, hargs, rfl, rfl, h0, r0⟩ := trodAll_cons hA
  obtain ⟨v1, vs1, d1, ds1, p1, q1, rfl, rfl, rfl, h1, r1⟩ := trodAll_cons r0
  obtain ⟨v2, vs2, d2, ds2, p2, q2, rfl, rfl, rfl, h2, r2⟩ := trodAll_cons r1
  obtain ⟨rfl, rfl, rfl⟩ := trodAll_nil r2
  obtain rfl : args = #[v0, v1, v2] := by cases args; simp_all
  obtain ⟨rfl, rfl⟩ := trodVars_none hV
  have k0 := h0
  have lt0 : ∀ x ∈ p0, x.block < W.heap.size := by obtain ⟨m, hm⟩ := k0; exact DataW.trod_lt m _ _ _ hm
  obtain ⟨g0, A0, l0, c0, e0, rfl, hr0, hc0, ok0, eb0⟩ := open_num (hval 0 25 v0 rfl rfl) h0
  have k1 := h1
  have lt1 : ∀ x ∈ p1, x.block < W.heap.size := by obtain ⟨m, hm⟩ := k1; exact DataW.trod_lt m _ _ _ hm
  obtain ⟨g1, A1, l1, c1, e1, rfl, hr1, hc1, ok1, eb1⟩ := open_num (hval 1 25 v1 rfl rfl) h1
  have k2 := h2
  have lt2 : ∀ x ∈ p2, x.block < W.heap.size := by obtain ⟨m, hm⟩ := k2; exact DataW.trod_lt m _ _ _ hm
  obtain ⟨g2, A2, l2, c2, e2, rfl, hr2, hc2, ok2, eb2⟩ := open_num (hval 2 25 v2 rfl rfl) h2
  clear hA0
  obtain ⟨k, hk⟩ := (numOrders_true g0 l0 e0 g1 l1 e1 g2 l2 e2 ok0 ok1 ok2).rounds
  refine (erratumlaw02_NumOrders.calls k g0 A0 c0 l0 e0 g1 A1 c1 l1 e1 g2 A2 c2 l2 e2 true W (laid_of (show laidMetH Tryd.prog Rows.numTextsRow.laid W from hL)) hr0 hc0 hr1 hc1 hr2 hc2 hk).mono fun e W' ⟨he, bel⟩ => ?_
  subst he
  exact ⟨_, rfl, _, _, _, [], _, [], hW', trodAll_mk1 (shut_bool Tryd.underlying4 _), (trodAll_cons_mk (Below.trod laidOut (by kernel_rfl) (of_decide_eq_true (by kernel_rfl)) k0 bel lt0) (trodAll_cons_mk (Below.trod laidOut (by kernel_rfl) (of_decide_eq_true (by kernel_rfl)) k1 bel lt1) (trodAll_cons_mk (Below.trod laidOut (by kernel_rfl) (of_decide_eq_true (by kernel_rfl)) k2 bel lt2) trodAll_mk0))), rfl, bel.frame _, fun h => by cases h⟩
theorem readsNumOrders (os : Os) {H : Type} (enc : TypeId × Value → H) : ∃ places, DataW.whole enc Tryd.prog ((laidWorld os).forCall (fun _ _ => 0) ⟨#[], #[.agg #[.bool false, .slice none 0 0, .int .i64 0], .agg #[.bool false, .slice none 0 0, .int .i64 0], .agg #[.bool false, .slice none 0 0, .int .i64 0]], []⟩).memory Tryd.f7.params.toList Rows.numOrdersSpec.vars false #[Value.agg #[.bool false, .slice none 0 0, .int .i64 0], Value.agg #[.bool false, .slice none 0 0, .int .i64 0], Value.agg #[.bool false, .slice none 0 0, .int .i64 0]].toList 8 = some ([.agg [.lit (.bool false), .nil, .lit (.int .i64 0)], .agg [.lit (.bool false), .nil, .lit (.int .i64 0)], .agg [.lit (.bool false), .nil, .lit (.int .i64 0)]], [], places) :=
  ⟨[], by kernel_rfl⟩
set_option maxRecDepth 100000 in
theorem metNumOrders (os : Os) : laidMet Tryd.prog Rows.numOrdersRow.laid ((laidWorld os).forCall (fun _ _ => 0) ⟨#[], #[.agg #[.bool false, .slice none 0 0, .int .i64 0], .agg #[.bool false, .slice none 0 0, .int .i64 0], .agg #[.bool false, .slice none 0 0, .int .i64 0]], []⟩).memory :=
  laidMet_of_run' 8 (by kernel_rfl) (by kernel_rfl)
set_option maxRecDepth 100000 in
theorem liftedNumOrders (os : Os) (started : os.Started) (H : Type) (enc : TypeId × Value → H) (F : Stop.Interp) :
    ReturnsInHanded {} Tryd.checked os 7 .any ((OpenSpec.ofChange Rows.numOrdersSpec).preRow enc Tryd.prog Tryd.f7 Rows.numOrdersRow.domain false Rows.numOrdersRow.laid) (((OpenSpec.ofChange Rows.numOrdersSpec).at F).post enc Tryd.prog Tryd.f7 false true false false) := by
  obtain ⟨places, hx⟩ := readsNumOrders os enc
  refine returnsInHanded_of_row (C := Tryd.checked) (s := OpenSpec.ofChange Rows.numOrdersSpec) own started (by kernel_rfl) Tryd.func7
    (witness_row_at (enc := enc) (C := Tryd.checked) false (laidWorld os) #[.agg #[.bool false, .slice none 0 0, .int .i64 0], .agg #[.bool false, .slice none 0 0, .int .i64 0], .agg #[.bool false, .slice none 0 0, .int .i64 0]] rfl (by kernel_rfl) (by kernel_rfl) (by kernel_rfl)
      (OpenSpec.preRow_of_cond 8 hx (by kernel_rfl) (fun k hk => by cases hk) (by kernel_rfl) (metNumOrders os))) ?_
  intro W base args ds gs before hval hW _ _ _ hL _ _
  exact contractNumOrders H enc W base args ds gs before hval hW hL
theorem saidNumOrders : Rows.NumOrdersSaid :=
  OpenClaim.holds_of_cond 7 Tryd.f7 rfl rfl rfl rfl rfl rfl rfl ⟨rfl, rfl, rfl, rfl, rfl⟩ rfl rfl rfl rfl rfl (by kernel_rfl) Tryd.func7 (by kernel_rfl)
    (of_decide_eq_true (by kernel_rfl)) (by unfold Func.isWrapper; first | (rw [if_pos (by decide +kernel)]; kernel_rfl) | (rw [if_neg (by decide +kernel)]; exact ⟨rfl, rfl⟩))
    (fun os started H enc _ F => by rw [OpenClaim.pre_eq_preRow]; exact liftedNumOrders os started H enc F)
theorem plainNumOrders (f : FuncId) (fn : Func) (hf : Tryd.pinned.checked.prog.funcNamed "erratum/erratumlaw02.NumOrders" = some f) (hfn : Tryd.pinned.checked.prog.funcs[f]? = some fn) :
    true = Tryd.pinned.checked.prog.looks [] ∧ ∀ (j : Nat) t, fn.params[j]? = some t → Tryd.pinned.checked.prog.wantsStandIn t = false := by
  obtain rfl : f = 7 := Option.some.inj ((show Tryd.prog.funcNamed "erratum/erratumlaw02.NumOrders" = some 7 by kernel_rfl).symm.trans hf) |>.symm
  obtain rfl : fn = Tryd.f7 := (Option.some.inj (Tryd.func7.symm.trans hfn)).symm
  refine ⟨by kernel_rfl, fun j t ht => ?_⟩
  rw [Tryd.params7] at ht
  obtain rfl : t = 25 := by simpa using Array.mem_of_getElem? ht
  exact (show Tryd.prog.wantsStandIn 25 = false by kernel_rfl)
theorem cardNumOrders : Rows.NumOrdersCardSaid :=
  Claim7.holds_tied_plain_at .later [] _ _ _ _ saidNumOrders (fun _ h => by cases h) (by kernel_rfl) (fun _ h => by cases h) numOrders_row_tie rfl ⟨rfl, rfl⟩ (by kernel_rfl) rfl plainNumOrders (by kernel_rfl)
end Go.Proofs.YtmkdcokdilllcaaDoor.X
