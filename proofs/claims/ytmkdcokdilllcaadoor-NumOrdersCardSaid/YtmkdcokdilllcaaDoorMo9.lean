import Derived.Test.YtmkdcokdilllcaaDoorMo2
import Derived.Test.YtmkdcokdilllcaaDoorMo7
import Derived.Test.YtmkdcokdilllcaaDoorMo8
import Derived.Test.YtmkdcokdilllcaaDoorMo6
import Derived.Test.YtmkdcokdilllcaaDoorMo3
-- A walk, written by a program of this session (xp.py).
namespace Go.Proofs.YtmkdcokdilllcaaDoor.X
open Go.RowKit Go.Proofs.YtmkdcokdilllcaaDoorW.PrintWords Go.Proofs.YtmkdcokdilllcaaDoorW.PrintLast Go.Proofs.YtmkdcokdilllcaaDoorW.PrintMore
attribute [local go_sem] max2_int min2_int max_two min_two max_three min_three max_four min_four
set_option linter.unusedVariables false
set_option linter.unusedSimpArgs false

/-! ### erratumlaw02_NumOrders: function 7 -/
mutual
def erratumlaw02_NumOrders.j0 : Nat → Bool → Bool → List Int → Int → Bool → List Int → Int → Bool → List Int → Int → Option (Bool)
  | 0, _, _, _, _, _, _, _, _, _, _ => none
  | k + 1, x37, x356000, x356001, x356002, x357000, x357001, x357002, x358000, x358001, x358002 => if x37 = true then ((erratumlaw02_awake.f k).bind fun t362 => (some t362)) else ((num_Cmp.f k x356000 x356001 x356002 x357000 x357001 x357002).bind fun t363 => ((num_Cmp.f k x357000 x357001 x357002 x358000 x358001 x358002).bind fun t364 => ((num_Cmp.f k x356000 x356001 x356002 x358000 x358001 x358002).bind fun t365 => ((num_Cmp.f k x357000 x357001 x357002 x356000 x356001 x356002).bind fun t366 => (if t366 = (wrap64 (-t363)) then (if t363 ≤ 0 then (if t364 ≤ 0 then (if t365 > 0 then (erratumlaw02_NumOrders.j1 k true x356000 x356001 x356002) else (if t363 ≥ 0 then (if t364 ≥ 0 then (if t365 < 0 then (erratumlaw02_NumOrders.j1 k true x356000 x356001 x356002) else ((num_Same.f k x356000 x356001 x356002 x357000 x357001 x357002).bind fun t367 => (erratumlaw02_NumOrders.j1 k ((t363 == 0) != t367) x356000 x356001 x356002))) else ((num_Same.f k x356000 x356001 x356002 x357000 x357001 x357002).bind fun t368 => (erratumlaw02_NumOrders.j1 k ((t363 == 0) != t368) x356000 x356001 x356002))) else ((num_Same.f k x356000 x356001 x356002 x357000 x357001 x357002).bind fun t369 => (erratumlaw02_NumOrders.j1 k ((t363 == 0) != t369) x356000 x356001 x356002)))) else (if t363 ≥ 0 then (if t364 ≥ 0 then (if t365 < 0 then (erratumlaw02_NumOrders.j1 k true x356000 x356001 x356002) else ((num_Same.f k x356000 x356001 x356002 x357000 x357001 x357002).bind fun t370 => (erratumlaw02_NumOrders.j1 k ((t363 == 0) != t370) x356000 x356001 x356002))) else ((num_Same.f k x356000 x356001 x356002 x357000 x357001 x357002).bind fun t371 => (erratumlaw02_NumOrders.j1 k ((t363 == 0) != t371) x356000 x356001 x356002))) else ((num_Same.f k x356000 x356001 x356002 x357000 x357001 x357002).bind fun t372 => (erratumlaw02_NumOrders.j1 k ((t363 == 0) != t372) x356000 x356001 x356002)))) else (if t363 ≥ 0 then (if t364 ≥ 0 then (if t365 < 0 then (erratumlaw02_NumOrders.j1 k true x356000 x356001 x356002) else ((num_Same.f k x356000 x356001 x356002 x357000 x357001 x357002).bind fun t373 => (erratumlaw02_NumOrders.j1 k ((t363 == 0) != t373) x356000 x356001 x356002))) else ((num_Same.f k x356000 x356001 x356002 x357000 x357001 x357002).bind fun t374 => (erratumlaw02_NumOrders.j1 k ((t363 == 0) != t374) x356000 x356001 x356002))) else ((num_Same.f k x356000 x356001 x356002 x357000 x357001 x357002).bind fun t375 => (erratumlaw02_NumOrders.j1 k ((t363 == 0) != t375) x356000 x356001 x356002)))) else (erratumlaw02_NumOrders.j1 k true x356000 x356001 x356002))))))
def erratumlaw02_NumOrders.j1 : Nat → Bool → Bool → List Int → Int → Option (Bool)
  | 0, _, _, _, _ => none
  | k + 1, x85, x356000, x356001, x356002 => if x85 = true then (some false) else ((num_Make.f k x356000 x356001 (wrap64 (x356002 + 1))).bind fun bt376 => (if (x356001.length : Int) = 0 then (erratumlaw02_NumOrders.j2 k bt376.2.2.2 0 x356000 x356001 x356002 bt376.1 bt376.2.1 bt376.2.2.1) else (if x356000 = true then (erratumlaw02_NumOrders.j2 k bt376.2.2.2 (-1) x356000 x356001 x356002 bt376.1 bt376.2.1 bt376.2.2.1) else (erratumlaw02_NumOrders.j2 k bt376.2.2.2 1 x356000 x356001 x356002 bt376.1 bt376.2.1 bt376.2.2.1))))
def erratumlaw02_NumOrders.j2 : Nat → Bool → Int → Bool → List Int → Int → Bool → List Int → Int → Option (Bool)
  | 0, _, _, _, _, _, _, _, _ => none
  | k + 1, x11, x12, x356000, x356001, x356002, x383000, x383001, x383002 => if x11 = true then ((num_Cmp.f k x383000 x383001 x383002 x356000 x356001 x356002).bind fun t383 => (if t383 = x12 then ((num_Cmp.f k x356000 x356001 x356002 x356000 x356001 x356002).bind fun t384 => (if t384 = 0 then ((erratumlaw02_awake.f k).bind fun t385 => (some t385)) else (some false))) else (some false))) else (if x356002 = 1200 then ((num_Cmp.f k x356000 x356001 x356002 x356000 x356001 x356002).bind fun t386 => (if t386 = 0 then ((erratumlaw02_awake.f k).bind fun t387 => (some t387)) else (some false))) else (some false))
end
def erratumlaw02_NumOrders.f (k : Nat) (a0_0 : Bool) (l0_1 : List Int) (a0_2 : Int) (a1_0 : Bool) (l1_1 : List Int) (a1_2 : Int) (a2_0 : Bool) (l2_1 : List Int) (a2_2 : Int) : Option (Bool) := (erratumlaw02_few.f a0_0 l0_1 a0_2 a1_0 l1_1 a1_2).bind fun t358 => (if t358 = true then (if (l2_1.length : Int) > 30 then (erratumlaw02_NumOrders.j0 k true a0_0 l0_1 a0_2 a1_0 l1_1 a1_2 a2_0 l2_1 a2_2) else ((erratumref02_Check.f k a0_0 l0_1 a0_2).bind fun t359 => (if t359 = true then ((erratumref02_Check.f k a1_0 l1_1 a1_2).bind fun t360 => (if t360 = true then ((erratumref02_Check.f k a2_0 l2_1 a2_2).bind fun t361 => (erratumlaw02_NumOrders.j0 k (!t361) a0_0 l0_1 a0_2 a1_0 l1_1 a1_2 a2_0 l2_1 a2_2)) else (erratumlaw02_NumOrders.j0 k true a0_0 l0_1 a0_2 a1_0 l1_1 a1_2 a2_0 l2_1 a2_2))) else (erratumlaw02_NumOrders.j0 k true a0_0 l0_1 a0_2 a1_0 l1_1 a1_2 a2_0 l2_1 a2_2)))) else (erratumlaw02_NumOrders.j0 k true a0_0 l0_1 a0_2 a1_0 l1_1 a1_2 a2_0 l2_1 a2_2))
def erratumlaw02_NumOrders.T3 : Bool × List (List Nat × List Nat) := (true, [([], []), ([], []), ([0, 1], [0, 1]), ([], []), ([], []), ([3, 4, 2], [3, 4]), ([], []), ([], []), ([6, 7, 5], [6, 7]), ([2, 8, 0, 1, 2], [2]), ([5, 9, 0, 1, 2, 3, 4, 5, 9], [5]), ([8, 10, 0, 1, 2, 3, 4, 5, 6, 7, 8, 9, 10], [8])])
def erratumlaw02_NumOrders.B3 : List Nat := [0, 0, 3, 0, 0, 31, 0, 0, 255, 511, 1023, 2047]
theorem erratumlaw02_NumOrders.tab3 : rtab .any (opsOf Tryd.f7 3) = erratumlaw02_NumOrders.T3 := by kernel_rfl
theorem erratumlaw02_NumOrders.bits3 : waitsOk erratumlaw02_NumOrders.T3.2 erratumlaw02_NumOrders.B3 = true := by kernel_rfl
set_option maxHeartbeats 8000000 in
set_option maxRecDepth 100000 in
theorem erratumlaw02_NumOrders.calls (k : Nat) (a0_0 : Bool) (A0_1 : Option Addr) (c0_1 : Nat) (l0_1 : List Int) (a0_2 : Int) (a1_0 : Bool) (A1_1 : Option Addr) (c1_1 : Nat) (l1_1 : List Int) (a1_2 : Int) (a2_0 : Bool) (A2_1 : Option Addr) (c2_1 : Nat) (l2_1 : List Int) (a2_2 : Int) (r : Bool) (w : World) (hL : Laid w) (hr0_1 : Kd.C (Kd.int .u32) w A0_1 l0_1.length l0_1) (hc0_1 : l0_1.length ≤ c0_1) (hr1_1 : Kd.C (Kd.int .u32) w A1_1 l1_1.length l1_1) (hc1_1 : l1_1.length ≤ c1_1) (hr2_1 : Kd.C (Kd.int .u32) w A2_1 l2_1.length l2_1) (hc2_1 : l2_1.length ≤ c2_1) (h : erratumlaw02_NumOrders.f k a0_0 l0_1 a0_2 a1_0 l1_1 a1_2 a2_0 l2_1 a2_2 = some r) :
    Calls Tryd.prog 7 #[.agg #[.bool a0_0, .slice A0_1 l0_1.length c0_1, .int .i64 a0_2], .agg #[.bool a1_0, .slice A1_1 l1_1.length c1_1, .int .i64 a1_2], .agg #[.bool a2_0, .slice A2_1 l2_1.length c2_1, .int .i64 a2_2]] w fun e w' => e = .returned (.bool r) ∧ Below w.heap.size w w' := by
  replace hL := Aside0.mk hL
  have hu25 := Tryd.underlying25
  have HR0_1 := Aside0.mk hr0_1
  have HC0_1 := Aside0.mk hc0_1
  clear hr0_1 hc0_1
  have HR1_1 := Aside0.mk hr1_1
  have HC1_1 := Aside0.mk hc1_1
  clear hr1_1 hc1_1
  have HR2_1 := Aside0.mk hr2_1
  have HC2_1 := Aside0.mk hc2_1
  clear hr2_1 hc2_1
  have HB := Aside0.mk (Below.refl w.heap.size w)
  have H : ((erratumlaw02_few.f a0_0 l0_1 a0_2 a1_0 l1_1 a1_2).bind fun t358 => (if t358 = true then (if (l2_1.length : Int) > 30 then (erratumlaw02_NumOrders.j0 k true a0_0 l0_1 a0_2 a1_0 l1_1 a1_2 a2_0 l2_1 a2_2) else ((erratumref02_Check.f k a0_0 l0_1 a0_2).bind fun t359 => (if t359 = true then ((erratumref02_Check.f k a1_0 l1_1 a1_2).bind fun t360 => (if t360 = true then ((erratumref02_Check.f k a2_0 l2_1 a2_2).bind fun t361 => (erratumlaw02_NumOrders.j0 k (!t361) a0_0 l0_1 a0_2 a1_0 l1_1 a1_2 a2_0 l2_1 a2_2)) else (erratumlaw02_NumOrders.j0 k true a0_0 l0_1 a0_2 a1_0 l1_1 a1_2 a2_0 l2_1 a2_2))) else (erratumlaw02_NumOrders.j0 k true a0_0 l0_1 a0_2 a1_0 l1_1 a1_2 a2_0 l2_1 a2_2)))) else (erratumlaw02_NumOrders.j0 k true a0_0 l0_1 a0_2 a1_0 l1_1 a1_2 a2_0 l2_1 a2_2))) = some r := h
  clear h
  have HC4 := Aside0.mk H
  clear H
  go_enter Tryd.func7, Tryd.ntmps7
  go_upto_region 1 with (first | ((with_reducible refine gate_dst (N := 3) rfl ?_); (try (refine gate_guard (by rfl) ?_; dsimp only)); refine box_event ?hg (N := 3) ?hd (cs := #[.bool a0_0, .slice A0_1 l0_1.length c0_1, .int .i64 a0_2]) (t := 25) ?hr ?_; (case hd => rfl); (case hg => rfl); (case hr => first | (go_simp; done) | (go_simp; rfl) | (go_simp; simp only [x_u32u8, x_u8, x_u32, x_u64, x_mm]; first | done | rfl)); intro gb355 hg w5 hbox hb; have n0_ := Aside0.mk (below_step (by repeat (first | (with_reducible first | exact HB.out | apply below_alloc | apply pw_below_drewN | apply below_drew1) | exact HB.out)) hb); have n1_ := Aside0.mk (hbox); have n2_ := Aside0.mk ((by rw [hg]; exact (below_size (by repeat (first | (with_reducible first | exact HB.out | apply below_alloc | apply pw_below_drewN | apply below_drew1) | exact HB.out))) : w.heap.size ≤ gb355)); have n3_ := Aside0.mk ((by rw [hg]; exact (below_size (by repeat (first | (with_reducible first | exact HB.out | apply below_alloc | apply pw_below_drewN | apply below_drew1) | exact HB.out))) : w.heap.size ≤ gb355)); clear HB; have HB := n0_; have BK355 := n1_; have GW355 := n2_; have GE355 := n3_; clear n0_ n1_ n2_ n3_; clear hb hbox hg) | ((with_reducible refine gate_dst (N := 4) rfl ?_); (try (refine gate_guard (by rfl) ?_; dsimp only)); refine box_event ?hg (N := 4) ?hd (cs := #[.bool a1_0, .slice A1_1 l1_1.length c1_1, .int .i64 a1_2]) (t := 25) ?hr ?_; (case hd => rfl); (case hg => rfl); (case hr => first | (go_simp; done) | (go_simp; rfl) | (go_simp; simp only [x_u32u8, x_u8, x_u32, x_u64, x_mm]; first | done | rfl)); intro gb356 hg w6 hbox hb; have n0_ := Aside0.mk (blk_below (g := gb355) (o := .cells #[.bool a0_0, .slice A0_1 l0_1.length c0_1, .int .i64 a0_2] 25 (0, 0)) (by (with_reducible repeat (first | refine blk_drewN ?_ _ | refine blk_drew ?_ | refine blk_alloc ?_ _)); exact BK355.out) hb); have n1_ := Aside0.mk (below_step (by repeat (first | (with_reducible first | exact HB.out | apply below_alloc | apply pw_below_drewN | apply below_drew1 | refine below_set ?_ GE355.out) | exact HB.out)) hb); have n2_ := Aside0.mk (hbox); have n3_ := Aside0.mk ((by rw [hg]; exact (below_size (by repeat (first | (with_reducible first | exact HB.out | apply below_alloc | apply pw_below_drewN | apply below_drew1 | refine below_set ?_ GE355.out) | exact HB.out))) : w.heap.size ≤ gb356)); have n4_ := Aside0.mk ((by rw [hg]; exact (below_size (by repeat (first | (with_reducible first | exact HB.out | apply below_alloc | apply pw_below_drewN | apply below_drew1 | refine below_set ?_ GE355.out) | exact HB.out))) : w.heap.size ≤ gb356)); have n5_ := Aside0.mk ((by rw [hg]; exact Nat.ne_of_lt (blk_lt (g := gb355) (o := .cells #[.bool a0_0, .slice A0_1 l0_1.length c0_1, .int .i64 a0_2] 25 (0, 0)) (by (with_reducible repeat (first | refine blk_drewN ?_ _ | refine blk_drew ?_ | refine blk_alloc ?_ _)); exact BK355.out)) : gb355 ≠ gb356)); have n6_ := Aside0.mk ((by rw [hg]; exact Nat.ne_of_gt (blk_lt (g := gb355) (o := .cells #[.bool a0_0, .slice A0_1 l0_1.length c0_1, .int .i64 a0_2] 25 (0, 0)) (by (with_reducible repeat (first | refine blk_drewN ?_ _ | refine blk_drew ?_ | refine blk_alloc ?_ _)); exact BK355.out)) : gb356 ≠ gb355)); clear BK355; clear HB; have BK355 := n0_; have HB := n1_; have BK356 := n2_; have GW356 := n3_; have GE356 := n4_; have NB355_356 := n5_; have NB356_355 := n6_; clear n0_ n1_ n2_ n3_ n4_ n5_ n6_; clear hb hbox hg) | ((with_reducible refine gate_dst (N := 5) rfl ?_); (try (refine gate_guard (by rfl) ?_; dsimp only)); refine box_event ?hg (N := 5) ?hd (cs := #[.bool a2_0, .slice A2_1 l2_1.length c2_1, .int .i64 a2_2]) (t := 25) ?hr ?_; (case hd => rfl); (case hg => rfl); (case hr => first | (go_simp; done) | (go_simp; rfl) | (go_simp; simp only [x_u32u8, x_u8, x_u32, x_u64, x_mm]; first | done | rfl)); intro gb357 hg w7 hbox hb; have n0_ := Aside0.mk (blk_below (g := gb355) (o := .cells #[.bool a0_0, .slice A0_1 l0_1.length c0_1, .int .i64 a0_2] 25 (0, 0)) (by (with_reducible repeat (first | refine blk_drewN ?_ _ | refine blk_drew ?_ | refine blk_alloc ?_ _)); exact BK355.out) hb); have n1_ := Aside0.mk (blk_below (g := gb356) (o := .cells #[.bool a1_0, .slice A1_1 l1_1.length c1_1, .int .i64 a1_2] 25 (0, 0)) (by (with_reducible repeat (first | refine blk_drewN ?_ _ | refine blk_drew ?_ | refine blk_alloc ?_ _)); exact BK356.out) hb); have n2_ := Aside0.mk (below_step (by repeat (first | (with_reducible first | exact HB.out | apply below_alloc | apply pw_below_drewN | apply below_drew1 | refine below_set ?_ GE355.out | refine below_set ?_ GE356.out) | exact HB.out)) hb); have n3_ := Aside0.mk (hbox); have n4_ := Aside0.mk ((by rw [hg]; exact (below_size (by repeat (first | (with_reducible first | exact HB.out | apply below_alloc | apply pw_below_drewN | apply below_drew1 | refine below_set ?_ GE355.out | refine below_set ?_ GE356.out) | exact HB.out))) : w.heap.size ≤ gb357)); have n5_ := Aside0.mk ((by rw [hg]; exact (below_size (by repeat (first | (with_reducible first | exact HB.out | apply below_alloc | apply pw_below_drewN | apply below_drew1 | refine below_set ?_ GE355.out | refine below_set ?_ GE356.out) | exact HB.out))) : w.heap.size ≤ gb357)); have n6_ := Aside0.mk ((by rw [hg]; exact Nat.ne_of_lt (blk_lt (g := gb355) (o := .cells #[.bool a0_0, .slice A0_1 l0_1.length c0_1, .int .i64 a0_2] 25 (0, 0)) (by (with_reducible repeat (first | refine blk_drewN ?_ _ | refine blk_drew ?_ | refine blk_alloc ?_ _)); exact BK355.out)) : gb355 ≠ gb357)); have n7_ := Aside0.mk ((by rw [hg]; exact Nat.ne_of_gt (blk_lt (g := gb355) (o := .cells #[.bool a0_0, .slice A0_1 l0_1.length c0_1, .int .i64 a0_2] 25 (0, 0)) (by (with_reducible repeat (first | refine blk_drewN ?_ _ | refine blk_drew ?_ | refine blk_alloc ?_ _)); exact BK355.out)) : gb357 ≠ gb355)); have n8_ := Aside0.mk ((by rw [hg]; exact Nat.ne_of_lt (blk_lt (g := gb356) (o := .cells #[.bool a1_0, .slice A1_1 l1_1.length c1_1, .int .i64 a1_2] 25 (0, 0)) (by (with_reducible repeat (first | refine blk_drewN ?_ _ | refine blk_drew ?_ | refine blk_alloc ?_ _)); exact BK356.out)) : gb356 ≠ gb357)); have n9_ := Aside0.mk ((by rw [hg]; exact Nat.ne_of_gt (blk_lt (g := gb356) (o := .cells #[.bool a1_0, .slice A1_1 l1_1.length c1_1, .int .i64 a1_2] 25 (0, 0)) (by (with_reducible repeat (first | refine blk_drewN ?_ _ | refine blk_drew ?_ | refine blk_alloc ?_ _)); exact BK356.out)) : gb357 ≠ gb356)); clear BK355; clear BK356; clear HB; have BK355 := n0_; have BK356 := n1_; have HB := n2_; have BK357 := n3_; have GW357 := n4_; have GE357 := n5_; have NB355_357 := n6_; have NB357_355 := n7_; have NB356_357 := n8_; have NB357_356 := n9_; clear n0_ n1_ n2_ n3_ n4_ n5_ n6_ n7_ n8_ n9_; clear hb hbox hg))
  (try simp only [Act.put, List.setIfInBounds_toArray, List.set_cons_zero, List.set_cons_succ])
  go_cut [37] (fun v37 wc => ∃ (kq : Nat) (x37_3 : Bool), v37 = .bool x37_3 ∧ Aside0 (erratumlaw02_NumOrders.j0 kq x37_3 a0_0 l0_1 a0_2 a1_0 l1_1 a1_2 a2_0 l2_1 a2_2 = some r) ∧ Aside0 (kq ≤ k) ∧ Aside0 (wc.heap[gb355]? = some (.cells #[.bool a0_0, (.slice A0_1 l0_1.length c0_1), .int .i64 a0_2] 25 (0, 0))) ∧ Aside0 (wc.heap[gb356]? = some (.cells #[.bool a1_0, (.slice A1_1 l1_1.length c1_1), .int .i64 a1_2] 25 (0, 0))) ∧ Aside0 (wc.heap[gb357]? = some (.cells #[.bool a2_0, (.slice A2_1 l2_1.length c2_1), .int .i64 a2_2] 25 (0, 0))) ∧ Aside0 (Below w.heap.size w wc))
  case first =>
    have H := HC4.out
    clear HC4
    replace H := Option.bind_eq_some_iff.mp H
    obtain ⟨t358, A80, H⟩ := H
    replace H : (if t358 = true then (if (l2_1.length : Int) > 30 then (erratumlaw02_NumOrders.j0 k true a0_0 l0_1 a0_2 a1_0 l1_1 a1_2 a2_0 l2_1 a2_2) else ((erratumref02_Check.f k a0_0 l0_1 a0_2).bind fun t359 => (if t359 = true then ((erratumref02_Check.f k a1_0 l1_1 a1_2).bind fun t360 => (if t360 = true then ((erratumref02_Check.f k a2_0 l2_1 a2_2).bind fun t361 => (erratumlaw02_NumOrders.j0 k (!t361) a0_0 l0_1 a0_2 a1_0 l1_1 a1_2 a2_0 l2_1 a2_2)) else (erratumlaw02_NumOrders.j0 k true a0_0 l0_1 a0_2 a1_0 l1_1 a1_2 a2_0 l2_1 a2_2))) else (erratumlaw02_NumOrders.j0 k true a0_0 l0_1 a0_2 a1_0 l1_1 a1_2 a2_0 l2_1 a2_2)))) else (erratumlaw02_NumOrders.j0 k true a0_0 l0_1 a0_2 a1_0 l1_1 a1_2 a2_0 l2_1 a2_2)) = some r := H
    have A8 := Aside0.mk A80
    clear A80
    by_cases c9 : t358 = true
    · subst c9
      have H1 : (if (l2_1.length : Int) > 30 then (erratumlaw02_NumOrders.j0 k true a0_0 l0_1 a0_2 a1_0 l1_1 a1_2 a2_0 l2_1 a2_2) else ((erratumref02_Check.f k a0_0 l0_1 a0_2).bind fun t359 => (if t359 = true then ((erratumref02_Check.f k a1_0 l1_1 a1_2).bind fun t360 => (if t360 = true then ((erratumref02_Check.f k a2_0 l2_1 a2_2).bind fun t361 => (erratumlaw02_NumOrders.j0 k (!t361) a0_0 l0_1 a0_2 a1_0 l1_1 a1_2 a2_0 l2_1 a2_2)) else (erratumlaw02_NumOrders.j0 k true a0_0 l0_1 a0_2 a1_0 l1_1 a1_2 a2_0 l2_1 a2_2))) else (erratumlaw02_NumOrders.j0 k true a0_0 l0_1 a0_2 a1_0 l1_1 a1_2 a2_0 l2_1 a2_2)))) = some r := by rw [if_pos rfl] at H; exact H
      clear H
      have H := H1
      clear H1
      by_cases c10 : (l2_1.length : Int) > 30
      · rw [if_pos c10] at H
        have c10b0 : decide (30 < (l2_1.length : Int)) = true := decide_eq_true c10
        have c10b1 : decide (30 < l2_1.length) = true := decide_eq_true (by omega)
        clear c10
        (first | rw [c10b0] | (simp only [i64_w, i32_w]; rw [c10b0]) | skip)
        have H' := Aside0.mk H
        clear H
        have hnb11 := NB355_356.out
        have hnc11 := NB356_355.out
        have hnb12 := NB355_357.out
        have hnc12 := NB357_355.out
        have hcz13_0 : w7.cell? ⟨gb355, 0, none⟩ = some (.bool a0_0) := (blk_cell BK355.out 0).trans rfl
        have hcz13_1 : w7.cell? ⟨gb355, 1, none⟩ = some (.slice A0_1 l0_1.length c0_1) := (blk_cell BK355.out 1).trans rfl
        have hcz13_2 : w7.cell? ⟨gb355, 2, none⟩ = some (.int .i64 a0_2) := (blk_cell BK355.out 2).trans rfl
        have hfz13_0 := blk_frozen BK355.out 0
        have hfz13_1 := blk_frozen BK355.out 1
        have hfz13_2 := blk_frozen BK355.out 2
        have hnb14 := NB356_357.out
        have hnc14 := NB357_356.out
        have hcz15_0 : w7.cell? ⟨gb356, 0, none⟩ = some (.bool a1_0) := (blk_cell BK356.out 0).trans rfl
        have hcz15_1 : w7.cell? ⟨gb356, 1, none⟩ = some (.slice A1_1 l1_1.length c1_1) := (blk_cell BK356.out 1).trans rfl
        have hcz15_2 : w7.cell? ⟨gb356, 2, none⟩ = some (.int .i64 a1_2) := (blk_cell BK356.out 2).trans rfl
        have hfz15_0 := blk_frozen BK356.out 0
        have hfz15_1 := blk_frozen BK356.out 1
        have hfz15_2 := blk_frozen BK356.out 2
        go_wp2_with (first | ((with_reducible refine gate_callee (f := 20) rfl ?_); refine goesL_ (some 15) rfl rfl Tryd.func20 (by kernel_rfl) rfl #[.agg #[.bool a0_0, .slice A0_1 l0_1.length c0_1, .int .i64 a0_2], .agg #[.bool a1_0, .slice A1_1 l1_1.length c1_1, .int .i64 a1_2]] rfl (by (try simp only [List.map_toArray, List.map_cons, List.map_nil]); first | done | rfl | (simp only [List.length_drop, List.length_take]; rfl)) ?_; (with_reducible refine (erratumlaw02_few.calls a0_0 _ _ l0_1 a0_2 a1_0 _ _ l1_1 a1_2 true _ ?side1 ?side2 ?side3 ?side4 A8.out).mono ?_); (case side1 => repeat (first | exact (Kd.C_below HR0_1.out HB.out) | (with_reducible refine Kd.C_alloc ?_ _) | (with_reducible refine Kd.C_drewN ?_ _) | (with_reducible refine Kd.C_drew ?_))); (case side2 => exact HC0_1.out); (case side3 => repeat (first | exact (Kd.C_below HR1_1.out HB.out) | (with_reducible refine Kd.C_alloc ?_ _) | (with_reducible refine Kd.C_drewN ?_ _) | (with_reducible refine Kd.C_drew ?_))); (case side4 => exact HC1_1.out); rintro e w16 ⟨rfl, hb⟩; refine ⟨_, rfl, ?_⟩; have n0_ := Aside0.mk (blk_below (g := gb355) (o := .cells #[.bool a0_0, .slice A0_1 l0_1.length c0_1, .int .i64 a0_2] 25 (0, 0)) (by (with_reducible repeat (first | refine blk_drewN ?_ _ | refine blk_drew ?_ | refine blk_alloc ?_ _)); exact BK355.out) hb); have n1_ := Aside0.mk (blk_below (g := gb356) (o := .cells #[.bool a1_0, .slice A1_1 l1_1.length c1_1, .int .i64 a1_2] 25 (0, 0)) (by (with_reducible repeat (first | refine blk_drewN ?_ _ | refine blk_drew ?_ | refine blk_alloc ?_ _)); exact BK356.out) hb); have n2_ := Aside0.mk (blk_below (g := gb357) (o := .cells #[.bool a2_0, .slice A2_1 l2_1.length c2_1, .int .i64 a2_2] 25 (0, 0)) (by (with_reducible repeat (first | refine blk_drewN ?_ _ | refine blk_drew ?_ | refine blk_alloc ?_ _)); exact BK357.out) hb); have n3_ := Aside0.mk (below_step (by repeat (first | (with_reducible first | exact HB.out | apply below_alloc | apply pw_below_drewN | apply below_drew1 | refine below_set ?_ GE355.out | refine below_set ?_ GE356.out | refine below_set ?_ GE357.out) | exact HB.out)) hb); clear BK355; clear BK356; clear BK357; clear HB; have BK355 := n0_; have BK356 := n1_; have BK357 := n2_; have HB := n3_; clear n0_ n1_ n2_ n3_; (try clear hb); (try clear hb2); (try clear hk); (try clear hi); have hcz17_0 : w16.cell? ⟨gb357, 0, none⟩ = some (.bool a2_0) := (blk_cell BK357.out 0).trans rfl; have hcz17_1 : w16.cell? ⟨gb357, 1, none⟩ = some (.slice A2_1 l2_1.length c2_1) := (blk_cell BK357.out 1).trans rfl; have hcz17_2 : w16.cell? ⟨gb357, 2, none⟩ = some (.int .i64 a2_2) := (blk_cell BK357.out 2).trans rfl; have hfz17_0 := blk_frozen BK357.out 0; have hfz17_1 := blk_frozen BK357.out 1; have hfz17_2 := blk_frozen BK357.out 2))
        go_meet
        case rel => exact ⟨_, (true), (by first | rfl | (simp; done) | (simp [*]; done)), H', ⟨by first | omega | exact Nat.le_refl _⟩, ⟨by (with_reducible repeat (first | refine blk_drewN ?_ _ | refine blk_drew ?_ | refine blk_alloc ?_ _)); exact BK355.out⟩, ⟨by (with_reducible repeat (first | refine blk_drewN ?_ _ | refine blk_drew ?_ | refine blk_alloc ?_ _)); exact BK356.out⟩, ⟨by (with_reducible repeat (first | refine blk_drewN ?_ _ | refine blk_drew ?_ | refine blk_alloc ?_ _)); exact BK357.out⟩, ⟨by repeat (first | (with_reducible first | exact HB.out | apply below_alloc | apply pw_below_drewN | apply below_drew1 | refine below_set ?_ GE355.out | refine below_set ?_ GE356.out | refine below_set ?_ GE357.out) | exact HB.out)⟩⟩
      · rw [if_neg c10] at H
        have c10b0 : decide (30 < (l2_1.length : Int)) = false := decide_eq_false c10
        have c10b1 : decide (30 < l2_1.length) = false := decide_eq_false (by omega)
        clear c10
        (first | rw [c10b0] | (simp only [i64_w, i32_w]; rw [c10b0]) | skip)
        replace H := Option.bind_eq_some_iff.mp H
        obtain ⟨t359, A180, H⟩ := H
        replace H : (if t359 = true then ((erratumref02_Check.f k a1_0 l1_1 a1_2).bind fun t360 => (if t360 = true then ((erratumref02_Check.f k a2_0 l2_1 a2_2).bind fun t361 => (erratumlaw02_NumOrders.j0 k (!t361) a0_0 l0_1 a0_2 a1_0 l1_1 a1_2 a2_0 l2_1 a2_2)) else (erratumlaw02_NumOrders.j0 k true a0_0 l0_1 a0_2 a1_0 l1_1 a1_2 a2_0 l2_1 a2_2))) else (erratumlaw02_NumOrders.j0 k true a0_0 l0_1 a0_2 a1_0 l1_1 a1_2 a2_0 l2_1 a2_2)) = some r := H
        have A18 := Aside0.mk A180
        clear A180
        by_cases c19 : t359 = true
        · subst c19
          have H1 : ((erratumref02_Check.f k a1_0 l1_1 a1_2).bind fun t360 => (if t360 = true then ((erratumref02_Check.f k a2_0 l2_1 a2_2).bind fun t361 => (erratumlaw02_NumOrders.j0 k (!t361) a0_0 l0_1 a0_2 a1_0 l1_1 a1_2 a2_0 l2_1 a2_2)) else (erratumlaw02_NumOrders.j0 k true a0_0 l0_1 a0_2 a1_0 l1_1 a1_2 a2_0 l2_1 a2_2))) = some r := by rw [if_pos rfl] at H; exact H
          clear H
          have H := H1
          clear H1
          replace H := Option.bind_eq_some_iff.mp H
          obtain ⟨t360, A200, H⟩ := H
          replace H : (if t360 = true then ((erratumref02_Check.f k a2_0 l2_1 a2_2).bind fun t361 => (erratumlaw02_NumOrders.j0 k (!t361) a0_0 l0_1 a0_2 a1_0 l1_1 a1_2 a2_0 l2_1 a2_2)) else (erratumlaw02_NumOrders.j0 k true a0_0 l0_1 a0_2 a1_0 l1_1 a1_2 a2_0 l2_1 a2_2)) = some r := H
          have A20 := Aside0.mk A200
          clear A200
          by_cases c21 : t360 = true
          · subst c21
            have H1 : ((erratumref02_Check.f k a2_0 l2_1 a2_2).bind fun t361 => (erratumlaw02_NumOrders.j0 k (!t361) a0_0 l0_1 a0_2 a1_0 l1_1 a1_2 a2_0 l2_1 a2_2)) = some r := by rw [if_pos rfl] at H; exact H
            clear H
            have H := H1
            clear H1
            replace H := Option.bind_eq_some_iff.mp H
            obtain ⟨t361, A220, H⟩ := H
            replace H : (erratumlaw02_NumOrders.j0 k (!t361) a0_0 l0_1 a0_2 a1_0 l1_1 a1_2 a2_0 l2_1 a2_2) = some r := H
            have A22 := Aside0.mk A220
            clear A220
            have H' := Aside0.mk H
            clear H
            have hnb23 := NB355_356.out
            have hnc23 := NB356_355.out
            have hnb24 := NB355_357.out
            have hnc24 := NB357_355.out
            have hcz25_0 : w7.cell? ⟨gb355, 0, none⟩ = some (.bool a0_0) := (blk_cell BK355.out 0).trans rfl
            have hcz25_1 : w7.cell? ⟨gb355, 1, none⟩ = some (.slice A0_1 l0_1.length c0_1) := (blk_cell BK355.out 1).trans rfl
            have hcz25_2 : w7.cell? ⟨gb355, 2, none⟩ = some (.int .i64 a0_2) := (blk_cell BK355.out 2).trans rfl
            have hfz25_0 := blk_frozen BK355.out 0
            have hfz25_1 := blk_frozen BK355.out 1
            have hfz25_2 := blk_frozen BK355.out 2
            have hnb26 := NB356_357.out
            have hnc26 := NB357_356.out
            have hcz27_0 : w7.cell? ⟨gb356, 0, none⟩ = some (.bool a1_0) := (blk_cell BK356.out 0).trans rfl
            have hcz27_1 : w7.cell? ⟨gb356, 1, none⟩ = some (.slice A1_1 l1_1.length c1_1) := (blk_cell BK356.out 1).trans rfl
            have hcz27_2 : w7.cell? ⟨gb356, 2, none⟩ = some (.int .i64 a1_2) := (blk_cell BK356.out 2).trans rfl
            have hfz27_0 := blk_frozen BK356.out 0
            have hfz27_1 := blk_frozen BK356.out 1
            have hfz27_2 := blk_frozen BK356.out 2
            go_wp2_with (first | ((with_reducible refine gate_callee (f := 20) rfl ?_); refine goesL_ (some 15) rfl rfl Tryd.func20 (by kernel_rfl) rfl #[.agg #[.bool a0_0, .slice A0_1 l0_1.length c0_1, .int .i64 a0_2], .agg #[.bool a1_0, .slice A1_1 l1_1.length c1_1, .int .i64 a1_2]] rfl (by (try simp only [List.map_toArray, List.map_cons, List.map_nil]); first | done | rfl | (simp only [List.length_drop, List.length_take]; rfl)) ?_; (with_reducible refine (erratumlaw02_few.calls a0_0 _ _ l0_1 a0_2 a1_0 _ _ l1_1 a1_2 true _ ?side1 ?side2 ?side3 ?side4 A8.out).mono ?_); (case side1 => repeat (first | exact (Kd.C_below HR0_1.out HB.out) | (with_reducible refine Kd.C_alloc ?_ _) | (with_reducible refine Kd.C_drewN ?_ _) | (with_reducible refine Kd.C_drew ?_))); (case side2 => exact HC0_1.out); (case side3 => repeat (first | exact (Kd.C_below HR1_1.out HB.out) | (with_reducible refine Kd.C_alloc ?_ _) | (with_reducible refine Kd.C_drewN ?_ _) | (with_reducible refine Kd.C_drew ?_))); (case side4 => exact HC1_1.out); rintro e w28 ⟨rfl, hb⟩; refine ⟨_, rfl, ?_⟩; have n0_ := Aside0.mk (blk_below (g := gb355) (o := .cells #[.bool a0_0, .slice A0_1 l0_1.length c0_1, .int .i64 a0_2] 25 (0, 0)) (by (with_reducible repeat (first | refine blk_drewN ?_ _ | refine blk_drew ?_ | refine blk_alloc ?_ _)); exact BK355.out) hb); have n1_ := Aside0.mk (blk_below (g := gb356) (o := .cells #[.bool a1_0, .slice A1_1 l1_1.length c1_1, .int .i64 a1_2] 25 (0, 0)) (by (with_reducible repeat (first | refine blk_drewN ?_ _ | refine blk_drew ?_ | refine blk_alloc ?_ _)); exact BK356.out) hb); have n2_ := Aside0.mk (blk_below (g := gb357) (o := .cells #[.bool a2_0, .slice A2_1 l2_1.length c2_1, .int .i64 a2_2] 25 (0, 0)) (by (with_reducible repeat (first | refine blk_drewN ?_ _ | refine blk_drew ?_ | refine blk_alloc ?_ _)); exact BK357.out) hb); have n3_ := Aside0.mk (below_step (by repeat (first | (with_reducible first | exact HB.out | apply below_alloc | apply pw_below_drewN | apply below_drew1 | refine below_set ?_ GE355.out | refine below_set ?_ GE356.out | refine below_set ?_ GE357.out) | exact HB.out)) hb); clear BK355; clear BK356; clear BK357; clear HB; have BK355 := n0_; have BK356 := n1_; have BK357 := n2_; have HB := n3_; clear n0_ n1_ n2_ n3_; (try clear hb); (try clear hb2); (try clear hk); (try clear hi); have hcz29_0 : w28.cell? ⟨gb357, 0, none⟩ = some (.bool a2_0) := (blk_cell BK357.out 0).trans rfl; have hcz29_1 : w28.cell? ⟨gb357, 1, none⟩ = some (.slice A2_1 l2_1.length c2_1) := (blk_cell BK357.out 1).trans rfl; have hcz29_2 : w28.cell? ⟨gb357, 2, none⟩ = some (.int .i64 a2_2) := (blk_cell BK357.out 2).trans rfl; have hfz29_0 := blk_frozen BK357.out 0; have hfz29_1 := blk_frozen BK357.out 1; have hfz29_2 := blk_frozen BK357.out 2; have hcz30_0 : w28.cell? ⟨gb355, 0, none⟩ = some (.bool a0_0) := (blk_cell BK355.out 0).trans rfl; have hcz30_1 : w28.cell? ⟨gb355, 1, none⟩ = some (.slice A0_1 l0_1.length c0_1) := (blk_cell BK355.out 1).trans rfl; have hcz30_2 : w28.cell? ⟨gb355, 2, none⟩ = some (.int .i64 a0_2) := (blk_cell BK355.out 2).trans rfl; have hfz30_0 := blk_frozen BK355.out 0; have hfz30_1 := blk_frozen BK355.out 1; have hfz30_2 := blk_frozen BK355.out 2) | (go_at_call 13; (with_reducible refine (erratumref02_Check.calls k a0_0 _ _ l0_1 a0_2 true _ ?side1 ?side2 A18.out).mono ?_); (case side1 => repeat (first | exact (Kd.C_below HR0_1.out HB.out) | (with_reducible refine Kd.C_alloc ?_ _) | (with_reducible refine Kd.C_drewN ?_ _) | (with_reducible refine Kd.C_drew ?_))); (case side2 => exact HC0_1.out); rintro e w31 ⟨rfl, hb⟩; have n0_ := Aside0.mk (blk_below (g := gb355) (o := .cells #[.bool a0_0, .slice A0_1 l0_1.length c0_1, .int .i64 a0_2] 25 (0, 0)) (by (with_reducible repeat (first | refine blk_drewN ?_ _ | refine blk_drew ?_ | refine blk_alloc ?_ _)); exact BK355.out) hb); have n1_ := Aside0.mk (blk_below (g := gb356) (o := .cells #[.bool a1_0, .slice A1_1 l1_1.length c1_1, .int .i64 a1_2] 25 (0, 0)) (by (with_reducible repeat (first | refine blk_drewN ?_ _ | refine blk_drew ?_ | refine blk_alloc ?_ _)); exact BK356.out) hb); have n2_ := Aside0.mk (blk_below (g := gb357) (o := .cells #[.bool a2_0, .slice A2_1 l2_1.length c2_1, .int .i64 a2_2] 25 (0, 0)) (by (with_reducible repeat (first | refine blk_drewN ?_ _ | refine blk_drew ?_ | refine blk_alloc ?_ _)); exact BK357.out) hb); have n3_ := Aside0.mk (below_step (by repeat (first | (with_reducible first | exact HB.out | apply below_alloc | apply pw_below_drewN | apply below_drew1 | refine below_set ?_ GE355.out | refine below_set ?_ GE356.out | refine below_set ?_ GE357.out) | exact HB.out)) hb); clear BK355; clear BK356; clear BK357; clear HB; have BK355 := n0_; have BK356 := n1_; have BK357 := n2_; have HB := n3_; clear n0_ n1_ n2_ n3_; (try clear hb); (try clear hb2); (try clear hk); (try clear hi); have hcz32_0 : w31.cell? ⟨gb356, 0, none⟩ = some (.bool a1_0) := (blk_cell BK356.out 0).trans rfl; have hcz32_1 : w31.cell? ⟨gb356, 1, none⟩ = some (.slice A1_1 l1_1.length c1_1) := (blk_cell BK356.out 1).trans rfl; have hcz32_2 : w31.cell? ⟨gb356, 2, none⟩ = some (.int .i64 a1_2) := (blk_cell BK356.out 2).trans rfl; have hfz32_0 := blk_frozen BK356.out 0; have hfz32_1 := blk_frozen BK356.out 1; have hfz32_2 := blk_frozen BK356.out 2) | (go_at_call 13; (with_reducible refine (erratumref02_Check.calls k a1_0 _ _ l1_1 a1_2 true _ ?side1 ?side2 A20.out).mono ?_); (case side1 => repeat (first | exact (Kd.C_below HR1_1.out HB.out) | (with_reducible refine Kd.C_alloc ?_ _) | (with_reducible refine Kd.C_drewN ?_ _) | (with_reducible refine Kd.C_drew ?_))); (case side2 => exact HC1_1.out); rintro e w33 ⟨rfl, hb⟩; have n0_ := Aside0.mk (blk_below (g := gb355) (o := .cells #[.bool a0_0, .slice A0_1 l0_1.length c0_1, .int .i64 a0_2] 25 (0, 0)) (by (with_reducible repeat (first | refine blk_drewN ?_ _ | refine blk_drew ?_ | refine blk_alloc ?_ _)); exact BK355.out) hb); have n1_ := Aside0.mk (blk_below (g := gb356) (o := .cells #[.bool a1_0, .slice A1_1 l1_1.length c1_1, .int .i64 a1_2] 25 (0, 0)) (by (with_reducible repeat (first | refine blk_drewN ?_ _ | refine blk_drew ?_ | refine blk_alloc ?_ _)); exact BK356.out) hb); have n2_ := Aside0.mk (blk_below (g := gb357) (o := .cells #[.bool a2_0, .slice A2_1 l2_1.length c2_1, .int .i64 a2_2] 25 (0, 0)) (by (with_reducible repeat (first | refine blk_drewN ?_ _ | refine blk_drew ?_ | refine blk_alloc ?_ _)); exact BK357.out) hb); have n3_ := Aside0.mk (below_step (by repeat (first | (with_reducible first | exact HB.out | apply below_alloc | apply pw_below_drewN | apply below_drew1 | refine below_set ?_ GE355.out | refine below_set ?_ GE356.out | refine below_set ?_ GE357.out) | exact HB.out)) hb); clear BK355; clear BK356; clear BK357; clear HB; have BK355 := n0_; have BK356 := n1_; have BK357 := n2_; have HB := n3_; clear n0_ n1_ n2_ n3_; (try clear hb); (try clear hb2); (try clear hk); (try clear hi); have hcz34_0 : w33.cell? ⟨gb357, 0, none⟩ = some (.bool a2_0) := (blk_cell BK357.out 0).trans rfl; have hcz34_1 : w33.cell? ⟨gb357, 1, none⟩ = some (.slice A2_1 l2_1.length c2_1) := (blk_cell BK357.out 1).trans rfl; have hcz34_2 : w33.cell? ⟨gb357, 2, none⟩ = some (.int .i64 a2_2) := (blk_cell BK357.out 2).trans rfl; have hfz34_0 := blk_frozen BK357.out 0; have hfz34_1 := blk_frozen BK357.out 1; have hfz34_2 := blk_frozen BK357.out 2) | (go_at_call 13; (with_reducible refine (erratumref02_Check.calls k a2_0 _ _ l2_1 a2_2 t361 _ ?side1 ?side2 A22.out).mono ?_); (case side1 => repeat (first | exact (Kd.C_below HR2_1.out HB.out) | (with_reducible refine Kd.C_alloc ?_ _) | (with_reducible refine Kd.C_drewN ?_ _) | (with_reducible refine Kd.C_drew ?_))); (case side2 => exact HC2_1.out); rintro e w35 ⟨rfl, hb⟩; have n0_ := Aside0.mk (blk_below (g := gb355) (o := .cells #[.bool a0_0, .slice A0_1 l0_1.length c0_1, .int .i64 a0_2] 25 (0, 0)) (by (with_reducible repeat (first | refine blk_drewN ?_ _ | refine blk_drew ?_ | refine blk_alloc ?_ _)); exact BK355.out) hb); have n1_ := Aside0.mk (blk_below (g := gb356) (o := .cells #[.bool a1_0, .slice A1_1 l1_1.length c1_1, .int .i64 a1_2] 25 (0, 0)) (by (with_reducible repeat (first | refine blk_drewN ?_ _ | refine blk_drew ?_ | refine blk_alloc ?_ _)); exact BK356.out) hb); have n2_ := Aside0.mk (blk_below (g := gb357) (o := .cells #[.bool a2_0, .slice A2_1 l2_1.length c2_1, .int .i64 a2_2] 25 (0, 0)) (by (with_reducible repeat (first | refine blk_drewN ?_ _ | refine blk_drew ?_ | refine blk_alloc ?_ _)); exact BK357.out) hb); have n3_ := Aside0.mk (below_step (by repeat (first | (with_reducible first | exact HB.out | apply below_alloc | apply pw_below_drewN | apply below_drew1 | refine below_set ?_ GE355.out | refine below_set ?_ GE356.out | refine below_set ?_ GE357.out) | exact HB.out)) hb); clear BK355; clear BK356; clear BK357; clear HB; have BK355 := n0_; have BK356 := n1_; have BK357 := n2_; have HB := n3_; clear n0_ n1_ n2_ n3_; (try clear hb); (try clear hb2); (try clear hk); (try clear hi)))
            go_meet
            case rel => exact ⟨_, (!t361), (by first | rfl | (simp; done) | (simp [*]; done)), H', ⟨by first | omega | exact Nat.le_refl _⟩, ⟨by (with_reducible repeat (first | refine blk_drewN ?_ _ | refine blk_drew ?_ | refine blk_alloc ?_ _)); exact BK355.out⟩, ⟨by (with_reducible repeat (first | refine blk_drewN ?_ _ | refine blk_drew ?_ | refine blk_alloc ?_ _)); exact BK356.out⟩, ⟨by (with_reducible repeat (first | refine blk_drewN ?_ _ | refine blk_drew ?_ | refine blk_alloc ?_ _)); exact BK357.out⟩, ⟨by repeat (first | (with_reducible first | exact HB.out | apply below_alloc | apply pw_below_drewN | apply below_drew1 | refine below_set ?_ GE355.out | refine below_set ?_ GE356.out | refine below_set ?_ GE357.out) | exact HB.out)⟩⟩
          · replace c21 := Bool.eq_false_iff.mpr c21
            subst c21
            have H1 : (erratumlaw02_NumOrders.j0 k true a0_0 l0_1 a0_2 a1_0 l1_1 a1_2 a2_0 l2_1 a2_2) = some r := by rw [if_neg (show ¬ (false = true) by decide)] at H; exact H
            clear H
            have H := H1
            clear H1
            have H' := Aside0.mk H
            clear H
            have hnb36 := NB355_356.out
            have hnc36 := NB356_355.out
            have hnb37 := NB355_357.out
            have hnc37 := NB357_355.out
            have hcz38_0 : w7.cell? ⟨gb355, 0, none⟩ = some (.bool a0_0) := (blk_cell BK355.out 0).trans rfl
            have hcz38_1 : w7.cell? ⟨gb355, 1, none⟩ = some (.slice A0_1 l0_1.length c0_1) := (blk_cell BK355.out 1).trans rfl
            have hcz38_2 : w7.cell? ⟨gb355, 2, none⟩ = some (.int .i64 a0_2) := (blk_cell BK355.out 2).trans rfl
            have hfz38_0 := blk_frozen BK355.out 0
            have hfz38_1 := blk_frozen BK355.out 1
            have hfz38_2 := blk_frozen BK355.out 2
            have hnb39 := NB356_357.out
            have hnc39 := NB357_356.out
            have hcz40_0 : w7.cell? ⟨gb356, 0, none⟩ = some (.bool a1_0) := (blk_cell BK356.out 0).trans rfl
            have hcz40_1 : w7.cell? ⟨gb356, 1, none⟩ = some (.slice A1_1 l1_1.length c1_1) := (blk_cell BK356.out 1).trans rfl
            have hcz40_2 : w7.cell? ⟨gb356, 2, none⟩ = some (.int .i64 a1_2) := (blk_cell BK356.out 2).trans rfl
            have hfz40_0 := blk_frozen BK356.out 0
            have hfz40_1 := blk_frozen BK356.out 1
            have hfz40_2 := blk_frozen BK356.out 2
            go_wp2_with (first | ((with_reducible refine gate_callee (f := 20) rfl ?_); refine goesL_ (some 15) rfl rfl Tryd.func20 (by kernel_rfl) rfl #[.agg #[.bool a0_0, .slice A0_1 l0_1.length c0_1, .int .i64 a0_2], .agg #[.bool a1_0, .slice A1_1 l1_1.length c1_1, .int .i64 a1_2]] rfl (by (try simp only [List.map_toArray, List.map_cons, List.map_nil]); first | done | rfl | (simp only [List.length_drop, List.length_take]; rfl)) ?_; (with_reducible refine (erratumlaw02_few.calls a0_0 _ _ l0_1 a0_2 a1_0 _ _ l1_1 a1_2 true _ ?side1 ?side2 ?side3 ?side4 A8.out).mono ?_); (case side1 => repeat (first | exact (Kd.C_below HR0_1.out HB.out) | (with_reducible refine Kd.C_alloc ?_ _) | (with_reducible refine Kd.C_drewN ?_ _) | (with_reducible refine Kd.C_drew ?_))); (case side2 => exact HC0_1.out); (case side3 => repeat (first | exact (Kd.C_below HR1_1.out HB.out) | (with_reducible refine Kd.C_alloc ?_ _) | (with_reducible refine Kd.C_drewN ?_ _) | (with_reducible refine Kd.C_drew ?_))); (case side4 => exact HC1_1.out); rintro e w41 ⟨rfl, hb⟩; refine ⟨_, rfl, ?_⟩; have n0_ := Aside0.mk (blk_below (g := gb355) (o := .cells #[.bool a0_0, .slice A0_1 l0_1.length c0_1, .int .i64 a0_2] 25 (0, 0)) (by (with_reducible repeat (first | refine blk_drewN ?_ _ | refine blk_drew ?_ | refine blk_alloc ?_ _)); exact BK355.out) hb); have n1_ := Aside0.mk (blk_below (g := gb356) (o := .cells #[.bool a1_0, .slice A1_1 l1_1.length c1_1, .int .i64 a1_2] 25 (0, 0)) (by (with_reducible repeat (first | refine blk_drewN ?_ _ | refine blk_drew ?_ | refine blk_alloc ?_ _)); exact BK356.out) hb); have n2_ := Aside0.mk (blk_below (g := gb357) (o := .cells #[.bool a2_0, .slice A2_1 l2_1.length c2_1, .int .i64 a2_2] 25 (0, 0)) (by (with_reducible repeat (first | refine blk_drewN ?_ _ | refine blk_drew ?_ | refine blk_alloc ?_ _)); exact BK357.out) hb); have n3_ := Aside0.mk (below_step (by repeat (first | (with_reducible first | exact HB.out | apply below_alloc | apply pw_below_drewN | apply below_drew1 | refine below_set ?_ GE355.out | refine below_set ?_ GE356.out | refine below_set ?_ GE357.out) | exact HB.out)) hb); clear BK355; clear BK356; clear BK357; clear HB; have BK355 := n0_; have BK356 := n1_; have BK357 := n2_; have HB := n3_; clear n0_ n1_ n2_ n3_; (try clear hb); (try clear hb2); (try clear hk); (try clear hi); have hcz42_0 : w41.cell? ⟨gb357, 0, none⟩ = some (.bool a2_0) := (blk_cell BK357.out 0).trans rfl; have hcz42_1 : w41.cell? ⟨gb357, 1, none⟩ = some (.slice A2_1 l2_1.length c2_1) := (blk_cell BK357.out 1).trans rfl; have hcz42_2 : w41.cell? ⟨gb357, 2, none⟩ = some (.int .i64 a2_2) := (blk_cell BK357.out 2).trans rfl; have hfz42_0 := blk_frozen BK357.out 0; have hfz42_1 := blk_frozen BK357.out 1; have hfz42_2 := blk_frozen BK357.out 2; have hcz43_0 : w41.cell? ⟨gb355, 0, none⟩ = some (.bool a0_0) := (blk_cell BK355.out 0).trans rfl; have hcz43_1 : w41.cell? ⟨gb355, 1, none⟩ = some (.slice A0_1 l0_1.length c0_1) := (blk_cell BK355.out 1).trans rfl; have hcz43_2 : w41.cell? ⟨gb355, 2, none⟩ = some (.int .i64 a0_2) := (blk_cell BK355.out 2).trans rfl; have hfz43_0 := blk_frozen BK355.out 0; have hfz43_1 := blk_frozen BK355.out 1; have hfz43_2 := blk_frozen BK355.out 2) | (go_at_call 13; (with_reducible refine (erratumref02_Check.calls k a0_0 _ _ l0_1 a0_2 true _ ?side1 ?side2 A18.out).mono ?_); (case side1 => repeat (first | exact (Kd.C_below HR0_1.out HB.out) | (with_reducible refine Kd.C_alloc ?_ _) | (with_reducible refine Kd.C_drewN ?_ _) | (with_reducible refine Kd.C_drew ?_))); (case side2 => exact HC0_1.out); rintro e w44 ⟨rfl, hb⟩; have n0_ := Aside0.mk (blk_below (g := gb355) (o := .cells #[.bool a0_0, .slice A0_1 l0_1.length c0_1, .int .i64 a0_2] 25 (0, 0)) (by (with_reducible repeat (first | refine blk_drewN ?_ _ | refine blk_drew ?_ | refine blk_alloc ?_ _)); exact BK355.out) hb); have n1_ := Aside0.mk (blk_below (g := gb356) (o := .cells #[.bool a1_0, .slice A1_1 l1_1.length c1_1, .int .i64 a1_2] 25 (0, 0)) (by (with_reducible repeat (first | refine blk_drewN ?_ _ | refine blk_drew ?_ | refine blk_alloc ?_ _)); exact BK356.out) hb); have n2_ := Aside0.mk (blk_below (g := gb357) (o := .cells #[.bool a2_0, .slice A2_1 l2_1.length c2_1, .int .i64 a2_2] 25 (0, 0)) (by (with_reducible repeat (first | refine blk_drewN ?_ _ | refine blk_drew ?_ | refine blk_alloc ?_ _)); exact BK357.out) hb); have n3_ := Aside0.mk (below_step (by repeat (first | (with_reducible first | exact HB.out | apply below_alloc | apply pw_below_drewN | apply below_drew1 | refine below_set ?_ GE355.out | refine below_set ?_ GE356.out | refine below_set ?_ GE357.out) | exact HB.out)) hb); clear BK355; clear BK356; clear BK357; clear HB; have BK355 := n0_; have BK356 := n1_; have BK357 := n2_; have HB := n3_; clear n0_ n1_ n2_ n3_; (try clear hb); (try clear hb2); (try clear hk); (try clear hi); have hcz45_0 : w44.cell? ⟨gb356, 0, none⟩ = some (.bool a1_0) := (blk_cell BK356.out 0).trans rfl; have hcz45_1 : w44.cell? ⟨gb356, 1, none⟩ = some (.slice A1_1 l1_1.length c1_1) := (blk_cell BK356.out 1).trans rfl; have hcz45_2 : w44.cell? ⟨gb356, 2, none⟩ = some (.int .i64 a1_2) := (blk_cell BK356.out 2).trans rfl; have hfz45_0 := blk_frozen BK356.out 0; have hfz45_1 := blk_frozen BK356.out 1; have hfz45_2 := blk_frozen BK356.out 2) | (go_at_call 13; (with_reducible refine (erratumref02_Check.calls k a1_0 _ _ l1_1 a1_2 false _ ?side1 ?side2 A20.out).mono ?_); (case side1 => repeat (first | exact (Kd.C_below HR1_1.out HB.out) | (with_reducible refine Kd.C_alloc ?_ _) | (with_reducible refine Kd.C_drewN ?_ _) | (with_reducible refine Kd.C_drew ?_))); (case side2 => exact HC1_1.out); rintro e w46 ⟨rfl, hb⟩; have n0_ := Aside0.mk (blk_below (g := gb355) (o := .cells #[.bool a0_0, .slice A0_1 l0_1.length c0_1, .int .i64 a0_2] 25 (0, 0)) (by (with_reducible repeat (first | refine blk_drewN ?_ _ | refine blk_drew ?_ | refine blk_alloc ?_ _)); exact BK355.out) hb); have n1_ := Aside0.mk (blk_below (g := gb356) (o := .cells #[.bool a1_0, .slice A1_1 l1_1.length c1_1, .int .i64 a1_2] 25 (0, 0)) (by (with_reducible repeat (first | refine blk_drewN ?_ _ | refine blk_drew ?_ | refine blk_alloc ?_ _)); exact BK356.out) hb); have n2_ := Aside0.mk (blk_below (g := gb357) (o := .cells #[.bool a2_0, .slice A2_1 l2_1.length c2_1, .int .i64 a2_2] 25 (0, 0)) (by (with_reducible repeat (first | refine blk_drewN ?_ _ | refine blk_drew ?_ | refine blk_alloc ?_ _)); exact BK357.out) hb); have n3_ := Aside0.mk (below_step (by repeat (first | (with_reducible first | exact HB.out | apply below_alloc | apply pw_below_drewN | apply below_drew1 | refine below_set ?_ GE355.out | refine below_set ?_ GE356.out | refine below_set ?_ GE357.out) | exact HB.out)) hb); clear BK355; clear BK356; clear BK357; clear HB; have BK355 := n0_; have BK356 := n1_; have BK357 := n2_; have HB := n3_; clear n0_ n1_ n2_ n3_; (try clear hb); (try clear hb2); (try clear hk); (try clear hi)))
            go_meet
            case rel => exact ⟨_, (true), (by first | rfl | (simp; done) | (simp [*]; done)), H', ⟨by first | omega | exact Nat.le_refl _⟩, ⟨by (with_reducible repeat (first | refine blk_drewN ?_ _ | refine blk_drew ?_ | refine blk_alloc ?_ _)); exact BK355.out⟩, ⟨by (with_reducible repeat (first | refine blk_drewN ?_ _ | refine blk_drew ?_ | refine blk_alloc ?_ _)); exact BK356.out⟩, ⟨by (with_reducible repeat (first | refine blk_drewN ?_ _ | refine blk_drew ?_ | refine blk_alloc ?_ _)); exact BK357.out⟩, ⟨by repeat (first | (with_reducible first | exact HB.out | apply below_alloc | apply pw_below_drewN | apply below_drew1 | refine below_set ?_ GE355.out | refine below_set ?_ GE356.out | refine below_set ?_ GE357.out) | exact HB.out)⟩⟩
        · replace c19 := Bool.eq_false_iff.mpr c19
          subst c19
          have H1 : (erratumlaw02_NumOrders.j0 k true a0_0 l0_1 a0_2 a1_0 l1_1 a1_2 a2_0 l2_1 a2_2) = some r := by rw [if_neg (show ¬ (false = true) by decide)] at H; exact H
          clear H
          have H := H1
          clear H1
          have H' := Aside0.mk H
          clear H
          have hnb47 := NB355_356.out
          have hnc47 := NB356_355.out
          have hnb48 := NB355_357.out
          have hnc48 := NB357_355.out
          have hcz49_0 : w7.cell? ⟨gb355, 0, none⟩ = some (.bool a0_0) := (blk_cell BK355.out 0).trans rfl
          have hcz49_1 : w7.cell? ⟨gb355, 1, none⟩ = some (.slice A0_1 l0_1.length c0_1) := (blk_cell BK355.out 1).trans rfl
          have hcz49_2 : w7.cell? ⟨gb355, 2, none⟩ = some (.int .i64 a0_2) := (blk_cell BK355.out 2).trans rfl
          have hfz49_0 := blk_frozen BK355.out 0
          have hfz49_1 := blk_frozen BK355.out 1
          have hfz49_2 := blk_frozen BK355.out 2
          have hnb50 := NB356_357.out
          have hnc50 := NB357_356.out
          have hcz51_0 : w7.cell? ⟨gb356, 0, none⟩ = some (.bool a1_0) := (blk_cell BK356.out 0).trans rfl
          have hcz51_1 : w7.cell? ⟨gb356, 1, none⟩ = some (.slice A1_1 l1_1.length c1_1) := (blk_cell BK356.out 1).trans rfl
          have hcz51_2 : w7.cell? ⟨gb356, 2, none⟩ = some (.int .i64 a1_2) := (blk_cell BK356.out 2).trans rfl
          have hfz51_0 := blk_frozen BK356.out 0
          have hfz51_1 := blk_frozen BK356.out 1
          have hfz51_2 := blk_frozen BK356.out 2
          go_wp2_with (first | ((with_reducible refine gate_callee (f := 20) rfl ?_); refine goesL_ (some 15) rfl rfl Tryd.func20 (by kernel_rfl) rfl #[.agg #[.bool a0_0, .slice A0_1 l0_1.length c0_1, .int .i64 a0_2], .agg #[.bool a1_0, .slice A1_1 l1_1.length c1_1, .int .i64 a1_2]] rfl (by (try simp only [List.map_toArray, List.map_cons, List.map_nil]); first | done | rfl | (simp only [List.length_drop, List.length_take]; rfl)) ?_; (with_reducible refine (erratumlaw02_few.calls a0_0 _ _ l0_1 a0_2 a1_0 _ _ l1_1 a1_2 true _ ?side1 ?side2 ?side3 ?side4 A8.out).mono ?_); (case side1 => repeat (first | exact (Kd.C_below HR0_1.out HB.out) | (with_reducible refine Kd.C_alloc ?_ _) | (with_reducible refine Kd.C_drewN ?_ _) | (with_reducible refine Kd.C_drew ?_))); (case side2 => exact HC0_1.out); (case side3 => repeat (first | exact (Kd.C_below HR1_1.out HB.out) | (with_reducible refine Kd.C_alloc ?_ _) | (with_reducible refine Kd.C_drewN ?_ _) | (with_reducible refine Kd.C_drew ?_))); (case side4 => exact HC1_1.out); rintro e w52 ⟨rfl, hb⟩; refine ⟨_, rfl, ?_⟩; have n0_ := Aside0.mk (blk_below (g := gb355) (o := .cells #[.bool a0_0, .slice A0_1 l0_1.length c0_1, .int .i64 a0_2] 25 (0, 0)) (by (with_reducible repeat (first | refine blk_drewN ?_ _ | refine blk_drew ?_ | refine blk_alloc ?_ _)); exact BK355.out) hb); have n1_ := Aside0.mk (blk_below (g := gb356) (o := .cells #[.bool a1_0, .slice A1_1 l1_1.length c1_1, .int .i64 a1_2] 25 (0, 0)) (by (with_reducible repeat (first | refine blk_drewN ?_ _ | refine blk_drew ?_ | refine blk_alloc ?_ _)); exact BK356.out) hb); have n2_ := Aside0.mk (blk_below (g := gb357) (o := .cells #[.bool a2_0, .slice A2_1 l2_1.length c2_1, .int .i64 a2_2] 25 (0, 0)) (by (with_reducible repeat (first | refine blk_drewN ?_ _ | refine blk_drew ?_ | refine blk_alloc ?_ _)); exact BK357.out) hb); have n3_ := Aside0.mk (below_step (by repeat (first | (with_reducible first | exact HB.out | apply below_alloc | apply pw_below_drewN | apply below_drew1 | refine below_set ?_ GE355.out | refine below_set ?_ GE356.out | refine below_set ?_ GE357.out) | exact HB.out)) hb); clear BK355; clear BK356; clear BK357; clear HB; have BK355 := n0_; have BK356 := n1_; have BK357 := n2_; have HB := n3_; clear n0_ n1_ n2_ n3_; (try clear hb); (try clear hb2); (try clear hk); (try clear hi); have hcz53_0 : w52.cell? ⟨gb357, 0, none⟩ = some (.bool a2_0) := (blk_cell BK357.out 0).trans rfl; have hcz53_1 : w52.cell? ⟨gb357, 1, none⟩ = some (.slice A2_1 l2_1.length c2_1) := (blk_cell BK357.out 1).trans rfl; have hcz53_2 : w52.cell? ⟨gb357, 2, none⟩ = some (.int .i64 a2_2) := (blk_cell BK357.out 2).trans rfl; have hfz53_0 := blk_frozen BK357.out 0; have hfz53_1 := blk_frozen BK357.out 1; have hfz53_2 := blk_frozen BK357.out 2; have hcz54_0 : w52.cell? ⟨gb355, 0, none⟩ = some (.bool a0_0) := (blk_cell BK355.out 0).trans rfl; have hcz54_1 : w52.cell? ⟨gb355, 1, none⟩ = some (.slice A0_1 l0_1.length c0_1) := (blk_cell BK355.out 1).trans rfl; have hcz54_2 : w52.cell? ⟨gb355, 2, none⟩ = some (.int .i64 a0_2) := (blk_cell BK355.out 2).trans rfl; have hfz54_0 := blk_frozen BK355.out 0; have hfz54_1 := blk_frozen BK355.out 1; have hfz54_2 := blk_frozen BK355.out 2) | (go_at_call 13; (with_reducible refine (erratumref02_Check.calls k a0_0 _ _ l0_1 a0_2 false _ ?side1 ?side2 A18.out).mono ?_); (case side1 => repeat (first | exact (Kd.C_below HR0_1.out HB.out) | (with_reducible refine Kd.C_alloc ?_ _) | (with_reducible refine Kd.C_drewN ?_ _) | (with_reducible refine Kd.C_drew ?_))); (case side2 => exact HC0_1.out); rintro e w55 ⟨rfl, hb⟩; have n0_ := Aside0.mk (blk_below (g := gb355) (o := .cells #[.bool a0_0, .slice A0_1 l0_1.length c0_1, .int .i64 a0_2] 25 (0, 0)) (by (with_reducible repeat (first | refine blk_drewN ?_ _ | refine blk_drew ?_ | refine blk_alloc ?_ _)); exact BK355.out) hb); have n1_ := Aside0.mk (blk_below (g := gb356) (o := .cells #[.bool a1_0, .slice A1_1 l1_1.length c1_1, .int .i64 a1_2] 25 (0, 0)) (by (with_reducible repeat (first | refine blk_drewN ?_ _ | refine blk_drew ?_ | refine blk_alloc ?_ _)); exact BK356.out) hb); have n2_ := Aside0.mk (blk_below (g := gb357) (o := .cells #[.bool a2_0, .slice A2_1 l2_1.length c2_1, .int .i64 a2_2] 25 (0, 0)) (by (with_reducible repeat (first | refine blk_drewN ?_ _ | refine blk_drew ?_ | refine blk_alloc ?_ _)); exact BK357.out) hb); have n3_ := Aside0.mk (below_step (by repeat (first | (with_reducible first | exact HB.out | apply below_alloc | apply pw_below_drewN | apply below_drew1 | refine below_set ?_ GE355.out | refine below_set ?_ GE356.out | refine below_set ?_ GE357.out) | exact HB.out)) hb); clear BK355; clear BK356; clear BK357; clear HB; have BK355 := n0_; have BK356 := n1_; have BK357 := n2_; have HB := n3_; clear n0_ n1_ n2_ n3_; (try clear hb); (try clear hb2); (try clear hk); (try clear hi)))
          go_meet
          case rel => exact ⟨_, (true), (by first | rfl | (simp; done) | (simp [*]; done)), H', ⟨by first | omega | exact Nat.le_refl _⟩, ⟨by (with_reducible repeat (first | refine blk_drewN ?_ _ | refine blk_drew ?_ | refine blk_alloc ?_ _)); exact BK355.out⟩, ⟨by (with_reducible repeat (first | refine blk_drewN ?_ _ | refine blk_drew ?_ | refine blk_alloc ?_ _)); exact BK356.out⟩, ⟨by (with_reducible repeat (first | refine blk_drewN ?_ _ | refine blk_drew ?_ | refine blk_alloc ?_ _)); exact BK357.out⟩, ⟨by repeat (first | (with_reducible first | exact HB.out | apply below_alloc | apply pw_below_drewN | apply below_drew1 | refine below_set ?_ GE355.out | refine below_set ?_ GE356.out | refine below_set ?_ GE357.out) | exact HB.out)⟩⟩
    · replace c9 := Bool.eq_false_iff.mpr c9
      subst c9
      have H1 : (erratumlaw02_NumOrders.j0 k true a0_0 l0_1 a0_2 a1_0 l1_1 a1_2 a2_0 l2_1 a2_2) = some r := by rw [if_neg (show ¬ (false = true) by decide)] at H; exact H
      clear H
      have H := H1
      clear H1
      have H' := Aside0.mk H
      clear H
      have hnb56 := NB355_356.out
      have hnc56 := NB356_355.out
      have hnb57 := NB355_357.out
      have hnc57 := NB357_355.out
      have hcz58_0 : w7.cell? ⟨gb355, 0, none⟩ = some (.bool a0_0) := (blk_cell BK355.out 0).trans rfl
      have hcz58_1 : w7.cell? ⟨gb355, 1, none⟩ = some (.slice A0_1 l0_1.length c0_1) := (blk_cell BK355.out 1).trans rfl
      have hcz58_2 : w7.cell? ⟨gb355, 2, none⟩ = some (.int .i64 a0_2) := (blk_cell BK355.out 2).trans rfl
      have hfz58_0 := blk_frozen BK355.out 0
      have hfz58_1 := blk_frozen BK355.out 1
      have hfz58_2 := blk_frozen BK355.out 2
      have hnb59 := NB356_357.out
      have hnc59 := NB357_356.out
      have hcz60_0 : w7.cell? ⟨gb356, 0, none⟩ = some (.bool a1_0) := (blk_cell BK356.out 0).trans rfl
      have hcz60_1 : w7.cell? ⟨gb356, 1, none⟩ = some (.slice A1_1 l1_1.length c1_1) := (blk_cell BK356.out 1).trans rfl
      have hcz60_2 : w7.cell? ⟨gb356, 2, none⟩ = some (.int .i64 a1_2) := (blk_cell BK356.out 2).trans rfl
      have hfz60_0 := blk_frozen BK356.out 0
      have hfz60_1 := blk_frozen BK356.out 1
      have hfz60_2 := blk_frozen BK356.out 2
      go_wp2_with (first | ((with_reducible refine gate_callee (f := 20) rfl ?_); refine goesL_ (some 15) rfl rfl Tryd.func20 (by kernel_rfl) rfl #[.agg #[.bool a0_0, .slice A0_1 l0_1.length c0_1, .int .i64 a0_2], .agg #[.bool a1_0, .slice A1_1 l1_1.length c1_1, .int .i64 a1_2]] rfl (by (try simp only [List.map_toArray, List.map_cons, List.map_nil]); first | done | rfl | (simp only [List.length_drop, List.length_take]; rfl)) ?_; (with_reducible refine (erratumlaw02_few.calls a0_0 _ _ l0_1 a0_2 a1_0 _ _ l1_1 a1_2 false _ ?side1 ?side2 ?side3 ?side4 A8.out).mono ?_); (case side1 => repeat (first | exact (Kd.C_below HR0_1.out HB.out) | (with_reducible refine Kd.C_alloc ?_ _) | (with_reducible refine Kd.C_drewN ?_ _) | (with_reducible refine Kd.C_drew ?_))); (case side2 => exact HC0_1.out); (case side3 => repeat (first | exact (Kd.C_below HR1_1.out HB.out) | (with_reducible refine Kd.C_alloc ?_ _) | (with_reducible refine Kd.C_drewN ?_ _) | (with_reducible refine Kd.C_drew ?_))); (case side4 => exact HC1_1.out); rintro e w61 ⟨rfl, hb⟩; refine ⟨_, rfl, ?_⟩; have n0_ := Aside0.mk (blk_below (g := gb355) (o := .cells #[.bool a0_0, .slice A0_1 l0_1.length c0_1, .int .i64 a0_2] 25 (0, 0)) (by (with_reducible repeat (first | refine blk_drewN ?_ _ | refine blk_drew ?_ | refine blk_alloc ?_ _)); exact BK355.out) hb); have n1_ := Aside0.mk (blk_below (g := gb356) (o := .cells #[.bool a1_0, .slice A1_1 l1_1.length c1_1, .int .i64 a1_2] 25 (0, 0)) (by (with_reducible repeat (first | refine blk_drewN ?_ _ | refine blk_drew ?_ | refine blk_alloc ?_ _)); exact BK356.out) hb); have n2_ := Aside0.mk (blk_below (g := gb357) (o := .cells #[.bool a2_0, .slice A2_1 l2_1.length c2_1, .int .i64 a2_2] 25 (0, 0)) (by (with_reducible repeat (first | refine blk_drewN ?_ _ | refine blk_drew ?_ | refine blk_alloc ?_ _)); exact BK357.out) hb); have n3_ := Aside0.mk (below_step (by repeat (first | (with_reducible first | exact HB.out | apply below_alloc | apply pw_below_drewN | apply below_drew1 | refine below_set ?_ GE355.out | refine below_set ?_ GE356.out | refine below_set ?_ GE357.out) | exact HB.out)) hb); clear BK355; clear BK356; clear BK357; clear HB; have BK355 := n0_; have BK356 := n1_; have BK357 := n2_; have HB := n3_; clear n0_ n1_ n2_ n3_; (try clear hb); (try clear hb2); (try clear hk); (try clear hi)))
      go_meet
      case rel => exact ⟨_, (true), (by first | rfl | (simp; done) | (simp [*]; done)), H', ⟨by first | omega | exact Nat.le_refl _⟩, ⟨by (with_reducible repeat (first | refine blk_drewN ?_ _ | refine blk_drew ?_ | refine blk_alloc ?_ _)); exact BK355.out⟩, ⟨by (with_reducible repeat (first | refine blk_drewN ?_ _ | refine blk_drew ?_ | refine blk_alloc ?_ _)); exact BK356.out⟩, ⟨by (with_reducible repeat (first | refine blk_drewN ?_ _ | refine blk_drew ?_ | refine blk_alloc ?_ _)); exact BK357.out⟩, ⟨by repeat (first | (with_reducible first | exact HB.out | apply below_alloc | apply pw_below_drewN | apply below_drew1 | refine below_set ?_ GE355.out | refine below_set ?_ GE356.out | refine below_set ?_ GE357.out) | exact HB.out)⟩⟩
  case rest =>
    clear HC4
    try clear c1
    try clear c2
    try clear p2
    try clear c3
    try clear c4
    try clear c5
    try clear c7
    try clear c9
    try clear c10
    try clear c10b0
    try clear c10b1
    try clear c11
    try clear c12
    try clear c14
    try clear c19
    try clear c20
    try clear c21
    try clear c23
    try clear c24
    try clear c26
    try clear c36
    try clear c37
    try clear c39
    try clear c47
    try clear c48
    try clear c50
    try clear c56
    try clear c57
    try clear c59
    try clear hcz13_0
    try clear hcz13_1
    try clear hcz13_2
    try clear hcz15_0
    try clear hcz15_1
    try clear hcz15_2
    try clear hcz17_0
    try clear hcz17_1
    try clear hcz17_2
    try clear hcz25_0
    try clear hcz25_1
    try clear hcz25_2
    try clear hcz27_0
    try clear hcz27_1
    try clear hcz27_2
    try clear hcz29_0
    try clear hcz29_1
    try clear hcz29_2
    try clear hcz30_0
    try clear hcz30_1
    try clear hcz30_2
    try clear hcz32_0
    try clear hcz32_1
    try clear hcz32_2
    try clear hcz34_0
    try clear hcz34_1
    try clear hcz34_2
    try clear hcz38_0
    try clear hcz38_1
    try clear hcz38_2
    try clear hcz40_0
    try clear hcz40_1
    try clear hcz40_2
    try clear hcz42_0
    try clear hcz42_1
    try clear hcz42_2
    try clear hcz43_0
    try clear hcz43_1
    try clear hcz43_2
    try clear hcz45_0
    try clear hcz45_1
    try clear hcz45_2
    try clear hcz49_0
    try clear hcz49_1
    try clear hcz49_2
    try clear hcz51_0
    try clear hcz51_1
    try clear hcz51_2
    try clear hcz53_0
    try clear hcz53_1
    try clear hcz53_2
    try clear hcz54_0
    try clear hcz54_1
    try clear hcz54_2
    try clear hcz58_0
    try clear hcz58_1
    try clear hcz58_2
    try clear hcz60_0
    try clear hcz60_1
    try clear hcz60_2
    try clear hfz13_0
    try clear hfz13_1
    try clear hfz13_2
    try clear hfz15_0
    try clear hfz15_1
    try clear hfz15_2
    try clear hfz17_0
    try clear hfz17_1
    try clear hfz17_2
    try clear hfz25_0
    try clear hfz25_1
    try clear hfz25_2
    try clear hfz27_0
    try clear hfz27_1
    try clear hfz27_2
    try clear hfz29_0
    try clear hfz29_1
    try clear hfz29_2
    try clear hfz30_0
    try clear hfz30_1
    try clear hfz30_2
    try clear hfz32_0
    try clear hfz32_1
    try clear hfz32_2
    try clear hfz34_0
    try clear hfz34_1
    try clear hfz34_2
    try clear hfz38_0
    try clear hfz38_1
    try clear hfz38_2
    try clear hfz40_0
    try clear hfz40_1
    try clear hfz40_2
    try clear hfz42_0
    try clear hfz42_1
    try clear hfz42_2
    try clear hfz43_0
    try clear hfz43_1
    try clear hfz43_2
    try clear hfz45_0
    try clear hfz45_1
    try clear hfz45_2
    try clear hfz49_0
    try clear hfz49_1
    try clear hfz49_2
    try clear hfz51_0
    try clear hfz51_1
    try clear hfz51_2
    try clear hfz53_0
    try clear hfz53_1
    try clear hfz53_2
    try clear hfz54_0
    try clear hfz54_1
    try clear hfz54_2
    try clear hfz58_0
    try clear hfz58_1
    try clear hfz58_2
    try clear hfz60_0
    try clear hfz60_1
    try clear hfz60_2
    obtain ⟨kq, x37_3, rfl, HA, HJ3, BK355, BK356, BK357, HB⟩ := hcut
    cases kq with
    | zero => exact absurd HA.out (by simp [erratumlaw02_NumOrders.j0])
    | succ kj3 =>
      have H := HA.out
      clear HA
      simp only [erratumlaw02_NumOrders.j0] at H
      by_cases c62 : x37_3 = true
      · subst c62
        have H1 : ((erratumlaw02_awake.f kj3).bind fun t362 => (some t362)) = some r := by rw [if_pos rfl] at H; exact H
        clear H
        have H := H1
        clear H1
        replace H := Option.bind_eq_some_iff.mp H
        obtain ⟨t362, A630, H⟩ := H
        replace H : (some t362) = some r := H
        have A63 := Aside0.mk A630
        clear A630
        obtain rfl := Option.some.inj H
        go_wp2_with (first | ((with_reducible refine gate_callee (f := 9) rfl ?_); refine goesL_ (some 38) rfl rfl Tryd.func9 (by kernel_rfl) rfl #[] rfl (by (try simp only [List.map_toArray, List.map_cons, List.map_nil]); first | done | rfl | (simp only [List.length_drop, List.length_take]; rfl)) ?_; (with_reducible refine (erratumlaw02_awake.calls kj3  t362 _ ?side1 A63.out).mono ?_); (case side1 => first | exact hL.out | exact hL.out.drewN _ | exact hL.out.drew | exact hL.out.below (by repeat (first | (with_reducible first | exact HB.out | apply below_alloc | apply pw_below_drewN | apply below_drew1 | refine below_set ?_ GE355.out | refine below_set ?_ GE356.out | refine below_set ?_ GE357.out) | exact HB.out))); rintro e w64 ⟨rfl, hb⟩; refine ⟨_, rfl, ?_⟩; have n0_ := Aside0.mk (blk_below (g := gb355) (o := .cells #[.bool a0_0, .slice A0_1 l0_1.length c0_1, .int .i64 a0_2] 25 (0, 0)) (by (with_reducible repeat (first | refine blk_drewN ?_ _ | refine blk_drew ?_ | refine blk_alloc ?_ _)); exact BK355.out) hb); have n1_ := Aside0.mk (blk_below (g := gb356) (o := .cells #[.bool a1_0, .slice A1_1 l1_1.length c1_1, .int .i64 a1_2] 25 (0, 0)) (by (with_reducible repeat (first | refine blk_drewN ?_ _ | refine blk_drew ?_ | refine blk_alloc ?_ _)); exact BK356.out) hb); have n2_ := Aside0.mk (blk_below (g := gb357) (o := .cells #[.bool a2_0, .slice A2_1 l2_1.length c2_1, .int .i64 a2_2] 25 (0, 0)) (by (with_reducible repeat (first | refine blk_drewN ?_ _ | refine blk_drew ?_ | refine blk_alloc ?_ _)); exact BK357.out) hb); have n3_ := Aside0.mk (below_step (by repeat (first | (with_reducible first | exact HB.out | apply below_alloc | apply pw_below_drewN | apply below_drew1 | refine below_set ?_ GE355.out | refine below_set ?_ GE356.out | refine below_set ?_ GE357.out) | exact HB.out)) hb); clear BK355; clear BK356; clear BK357; clear HB; have BK355 := n0_; have BK356 := n1_; have BK357 := n2_; have HB := n3_; clear n0_ n1_ n2_ n3_; (try clear hb); (try clear hb2); (try clear hk); (try clear hi)))
        go_ret
        exact ⟨by first | rfl | (simp [errW_none, errW_some] <;> rfl) | (simp [*, errW_none, errW_some] <;> rfl), by repeat (first | (with_reducible first | exact HB.out | apply below_alloc | apply pw_below_drewN | apply below_drew1 | refine below_set ?_ GE355.out | refine below_set ?_ GE356.out | refine below_set ?_ GE357.out) | exact HB.out)⟩
      · replace c62 := Bool.eq_false_iff.mpr c62
        subst c62
        have H1 : ((num_Cmp.f kj3 a0_0 l0_1 a0_2 a1_0 l1_1 a1_2).bind fun t363 => ((num_Cmp.f kj3 a1_0 l1_1 a1_2 a2_0 l2_1 a2_2).bind fun t364 => ((num_Cmp.f kj3 a0_0 l0_1 a0_2 a2_0 l2_1 a2_2).bind fun t365 => ((num_Cmp.f kj3 a1_0 l1_1 a1_2 a0_0 l0_1 a0_2).bind fun t366 => (if t366 = (wrap64 (-t363)) then (if t363 ≤ 0 then (if t364 ≤ 0 then (if t365 > 0 then (erratumlaw02_NumOrders.j1 kj3 true a0_0 l0_1 a0_2) else (if t363 ≥ 0 then (if t364 ≥ 0 then (if t365 < 0 then (erratumlaw02_NumOrders.j1 kj3 true a0_0 l0_1 a0_2) else ((num_Same.f kj3 a0_0 l0_1 a0_2 a1_0 l1_1 a1_2).bind fun t367 => (erratumlaw02_NumOrders.j1 kj3 ((t363 == 0) != t367) a0_0 l0_1 a0_2))) else ((num_Same.f kj3 a0_0 l0_1 a0_2 a1_0 l1_1 a1_2).bind fun t368 => (erratumlaw02_NumOrders.j1 kj3 ((t363 == 0) != t368) a0_0 l0_1 a0_2))) else ((num_Same.f kj3 a0_0 l0_1 a0_2 a1_0 l1_1 a1_2).bind fun t369 => (erratumlaw02_NumOrders.j1 kj3 ((t363 == 0) != t369) a0_0 l0_1 a0_2)))) else (if t363 ≥ 0 then (if t364 ≥ 0 then (if t365 < 0 then (erratumlaw02_NumOrders.j1 kj3 true a0_0 l0_1 a0_2) else ((num_Same.f kj3 a0_0 l0_1 a0_2 a1_0 l1_1 a1_2).bind fun t370 => (erratumlaw02_NumOrders.j1 kj3 ((t363 == 0) != t370) a0_0 l0_1 a0_2))) else ((num_Same.f kj3 a0_0 l0_1 a0_2 a1_0 l1_1 a1_2).bind fun t371 => (erratumlaw02_NumOrders.j1 kj3 ((t363 == 0) != t371) a0_0 l0_1 a0_2))) else ((num_Same.f kj3 a0_0 l0_1 a0_2 a1_0 l1_1 a1_2).bind fun t372 => (erratumlaw02_NumOrders.j1 kj3 ((t363 == 0) != t372) a0_0 l0_1 a0_2)))) else (if t363 ≥ 0 then (if t364 ≥ 0 then (if t365 < 0 then (erratumlaw02_NumOrders.j1 kj3 true a0_0 l0_1 a0_2) else ((num_Same.f kj3 a0_0 l0_1 a0_2 a1_0 l1_1 a1_2).bind fun t373 => (erratumlaw02_NumOrders.j1 kj3 ((t363 == 0) != t373) a0_0 l0_1 a0_2))) else ((num_Same.f kj3 a0_0 l0_1 a0_2 a1_0 l1_1 a1_2).bind fun t374 => (erratumlaw02_NumOrders.j1 kj3 ((t363 == 0) != t374) a0_0 l0_1 a0_2))) else ((num_Same.f kj3 a0_0 l0_1 a0_2 a1_0 l1_1 a1_2).bind fun t375 => (erratumlaw02_NumOrders.j1 kj3 ((t363 == 0) != t375) a0_0 l0_1 a0_2)))) else (erratumlaw02_NumOrders.j1 kj3 true a0_0 l0_1 a0_2)))))) = some r := by rw [if_neg (show ¬ (false = true) by decide)] at H; exact H
        clear H
        have H := H1
        clear H1
        replace H := Option.bind_eq_some_iff.mp H
        obtain ⟨t363, A650, H⟩ := H
        replace H : ((num_Cmp.f kj3 a1_0 l1_1 a1_2 a2_0 l2_1 a2_2).bind fun t364 => ((num_Cmp.f kj3 a0_0 l0_1 a0_2 a2_0 l2_1 a2_2).bind fun t365 => ((num_Cmp.f kj3 a1_0 l1_1 a1_2 a0_0 l0_1 a0_2).bind fun t366 => (if t366 = (wrap64 (-t363)) then (if t363 ≤ 0 then (if t364 ≤ 0 then (if t365 > 0 then (erratumlaw02_NumOrders.j1 kj3 true a0_0 l0_1 a0_2) else (if t363 ≥ 0 then (if t364 ≥ 0 then (if t365 < 0 then (erratumlaw02_NumOrders.j1 kj3 true a0_0 l0_1 a0_2) else ((num_Same.f kj3 a0_0 l0_1 a0_2 a1_0 l1_1 a1_2).bind fun t367 => (erratumlaw02_NumOrders.j1 kj3 ((t363 == 0) != t367) a0_0 l0_1 a0_2))) else ((num_Same.f kj3 a0_0 l0_1 a0_2 a1_0 l1_1 a1_2).bind fun t368 => (erratumlaw02_NumOrders.j1 kj3 ((t363 == 0) != t368) a0_0 l0_1 a0_2))) else ((num_Same.f kj3 a0_0 l0_1 a0_2 a1_0 l1_1 a1_2).bind fun t369 => (erratumlaw02_NumOrders.j1 kj3 ((t363 == 0) != t369) a0_0 l0_1 a0_2)))) else (if t363 ≥ 0 then (if t364 ≥ 0 then (if t365 < 0 then (erratumlaw02_NumOrders.j1 kj3 true a0_0 l0_1 a0_2) else ((num_Same.f kj3 a0_0 l0_1 a0_2 a1_0 l1_1 a1_2).bind fun t370 => (erratumlaw02_NumOrders.j1 kj3 ((t363 == 0) != t370) a0_0 l0_1 a0_2))) else ((num_Same.f kj3 a0_0 l0_1 a0_2 a1_0 l1_1 a1_2).bind fun t371 => (erratumlaw02_NumOrders.j1 kj3 ((t363 == 0) != t371) a0_0 l0_1 a0_2))) else ((num_Same.f kj3 a0_0 l0_1 a0_2 a1_0 l1_1 a1_2).bind fun t372 => (erratumlaw02_NumOrders.j1 kj3 ((t363 == 0) != t372) a0_0 l0_1 a0_2)))) else (if t363 ≥ 0 then (if t364 ≥ 0 then (if t365 < 0 then (erratumlaw02_NumOrders.j1 kj3 true a0_0 l0_1 a0_2) else ((num_Same.f kj3 a0_0 l0_1 a0_2 a1_0 l1_1 a1_2).bind fun t373 => (erratumlaw02_NumOrders.j1 kj3 ((t363 == 0) != t373) a0_0 l0_1 a0_2))) else ((num_Same.f kj3 a0_0 l0_1 a0_2 a1_0 l1_1 a1_2).bind fun t374 => (erratumlaw02_NumOrders.j1 kj3 ((t363 == 0) != t374) a0_0 l0_1 a0_2))) else ((num_Same.f kj3 a0_0 l0_1 a0_2 a1_0 l1_1 a1_2).bind fun t375 => (erratumlaw02_NumOrders.j1 kj3 ((t363 == 0) != t375) a0_0 l0_1 a0_2)))) else (erratumlaw02_NumOrders.j1 kj3 true a0_0 l0_1 a0_2))))) = some r := H
        have A65 := Aside0.mk A650
        clear A650
        replace H := Option.bind_eq_some_iff.mp H
        obtain ⟨t364, A660, H⟩ := H
        replace H : ((num_Cmp.f kj3 a0_0 l0_1 a0_2 a2_0 l2_1 a2_2).bind fun t365 => ((num_Cmp.f kj3 a1_0 l1_1 a1_2 a0_0 l0_1 a0_2).bind fun t366 => (if t366 = (wrap64 (-t363)) then (if t363 ≤ 0 then (if t364 ≤ 0 then (if t365 > 0 then (erratumlaw02_NumOrders.j1 kj3 true a0_0 l0_1 a0_2) else (if t363 ≥ 0 then (if t364 ≥ 0 then (if t365 < 0 then (erratumlaw02_NumOrders.j1 kj3 true a0_0 l0_1 a0_2) else ((num_Same.f kj3 a0_0 l0_1 a0_2 a1_0 l1_1 a1_2).bind fun t367 => (erratumlaw02_NumOrders.j1 kj3 ((t363 == 0) != t367) a0_0 l0_1 a0_2))) else ((num_Same.f kj3 a0_0 l0_1 a0_2 a1_0 l1_1 a1_2).bind fun t368 => (erratumlaw02_NumOrders.j1 kj3 ((t363 == 0) != t368) a0_0 l0_1 a0_2))) else ((num_Same.f kj3 a0_0 l0_1 a0_2 a1_0 l1_1 a1_2).bind fun t369 => (erratumlaw02_NumOrders.j1 kj3 ((t363 == 0) != t369) a0_0 l0_1 a0_2)))) else (if t363 ≥ 0 then (if t364 ≥ 0 then (if t365 < 0 then (erratumlaw02_NumOrders.j1 kj3 true a0_0 l0_1 a0_2) else ((num_Same.f kj3 a0_0 l0_1 a0_2 a1_0 l1_1 a1_2).bind fun t370 => (erratumlaw02_NumOrders.j1 kj3 ((t363 == 0) != t370) a0_0 l0_1 a0_2))) else ((num_Same.f kj3 a0_0 l0_1 a0_2 a1_0 l1_1 a1_2).bind fun t371 => (erratumlaw02_NumOrders.j1 kj3 ((t363 == 0) != t371) a0_0 l0_1 a0_2))) else ((num_Same.f kj3 a0_0 l0_1 a0_2 a1_0 l1_1 a1_2).bind fun t372 => (erratumlaw02_NumOrders.j1 kj3 ((t363 == 0) != t372) a0_0 l0_1 a0_2)))) else (if t363 ≥ 0 then (if t364 ≥ 0 then (if t365 < 0 then (erratumlaw02_NumOrders.j1 kj3 true a0_0 l0_1 a0_2) else ((num_Same.f kj3 a0_0 l0_1 a0_2 a1_0 l1_1 a1_2).bind fun t373 => (erratumlaw02_NumOrders.j1 kj3 ((t363 == 0) != t373) a0_0 l0_1 a0_2))) else ((num_Same.f kj3 a0_0 l0_1 a0_2 a1_0 l1_1 a1_2).bind fun t374 => (erratumlaw02_NumOrders.j1 kj3 ((t363 == 0) != t374) a0_0 l0_1 a0_2))) else ((num_Same.f kj3 a0_0 l0_1 a0_2 a1_0 l1_1 a1_2).bind fun t375 => (erratumlaw02_NumOrders.j1 kj3 ((t363 == 0) != t375) a0_0 l0_1 a0_2)))) else (erratumlaw02_NumOrders.j1 kj3 true a0_0 l0_1 a0_2)))) = some r := H
        have A66 := Aside0.mk A660
        clear A660
        replace H := Option.bind_eq_some_iff.mp H
        obtain ⟨t365, A670, H⟩ := H
        replace H : ((num_Cmp.f kj3 a1_0 l1_1 a1_2 a0_0 l0_1 a0_2).bind fun t366 => (if t366 = (wrap64 (-t363)) then (if t363 ≤ 0 then (if t364 ≤ 0 then (if t365 > 0 then (erratumlaw02_NumOrders.j1 kj3 true a0_0 l0_1 a0_2) else (if t363 ≥ 0 then (if t364 ≥ 0 then (if t365 < 0 then (erratumlaw02_NumOrders.j1 kj3 true a0_0 l0_1 a0_2) else ((num_Same.f kj3 a0_0 l0_1 a0_2 a1_0 l1_1 a1_2).bind fun t367 => (erratumlaw02_NumOrders.j1 kj3 ((t363 == 0) != t367) a0_0 l0_1 a0_2))) else ((num_Same.f kj3 a0_0 l0_1 a0_2 a1_0 l1_1 a1_2).bind fun t368 => (erratumlaw02_NumOrders.j1 kj3 ((t363 == 0) != t368) a0_0 l0_1 a0_2))) else ((num_Same.f kj3 a0_0 l0_1 a0_2 a1_0 l1_1 a1_2).bind fun t369 => (erratumlaw02_NumOrders.j1 kj3 ((t363 == 0) != t369) a0_0 l0_1 a0_2)))) else (if t363 ≥ 0 then (if t364 ≥ 0 then (if t365 < 0 then (erratumlaw02_NumOrders.j1 kj3 true a0_0 l0_1 a0_2) else ((num_Same.f kj3 a0_0 l0_1 a0_2 a1_0 l1_1 a1_2).bind fun t370 => (erratumlaw02_NumOrders.j1 kj3 ((t363 == 0) != t370) a0_0 l0_1 a0_2))) else ((num_Same.f kj3 a0_0 l0_1 a0_2 a1_0 l1_1 a1_2).bind fun t371 => (erratumlaw02_NumOrders.j1 kj3 ((t363 == 0) != t371) a0_0 l0_1 a0_2))) else ((num_Same.f kj3 a0_0 l0_1 a0_2 a1_0 l1_1 a1_2).bind fun t372 => (erratumlaw02_NumOrders.j1 kj3 ((t363 == 0) != t372) a0_0 l0_1 a0_2)))) else (if t363 ≥ 0 then (if t364 ≥ 0 then (if t365 < 0 then (erratumlaw02_NumOrders.j1 kj3 true a0_0 l0_1 a0_2) else ((num_Same.f kj3 a0_0 l0_1 a0_2 a1_0 l1_1 a1_2).bind fun t373 => (erratumlaw02_NumOrders.j1 kj3 ((t363 == 0) != t373) a0_0 l0_1 a0_2))) else ((num_Same.f kj3 a0_0 l0_1 a0_2 a1_0 l1_1 a1_2).bind fun t374 => (erratumlaw02_NumOrders.j1 kj3 ((t363 == 0) != t374) a0_0 l0_1 a0_2))) else ((num_Same.f kj3 a0_0 l0_1 a0_2 a1_0 l1_1 a1_2).bind fun t375 => (erratumlaw02_NumOrders.j1 kj3 ((t363 == 0) != t375) a0_0 l0_1 a0_2)))) else (erratumlaw02_NumOrders.j1 kj3 true a0_0 l0_1 a0_2))) = some r := H
        have A67 := Aside0.mk A670
        clear A670
        have HC68 := Aside0.mk H
        clear H
        try go_wp2
        have n0_ := Aside0.mk (blk_drew BK355.out)
        have n1_ := Aside0.mk (blk_drew BK356.out)
        have n2_ := Aside0.mk (blk_drew BK357.out)
        have n3_ := Aside0.mk (below_drew1 HB.out)
        clear BK355
        clear BK356
        clear BK357
        clear HB
        have BK355 := n0_
        have BK356 := n1_
        have BK357 := n2_
        have HB := n3_
        clear n0_ n1_ n2_ n3_
        refine start_ (n := 12) (S := fun w' => w'.cell? ⟨gb355, 0, none⟩ = some (.bool a0_0) ∧ w'.cell? ⟨gb355, 1, none⟩ = some (.slice A0_1 l0_1.length c0_1) ∧ w'.cell? ⟨gb355, 2, none⟩ = some (.int .i64 a0_2) ∧ w'.cell? ⟨gb356, 0, none⟩ = some (.bool a1_0) ∧ w'.cell? ⟨gb356, 1, none⟩ = some (.slice A1_1 l1_1.length c1_1) ∧ w'.cell? ⟨gb356, 2, none⟩ = some (.int .i64 a1_2) ∧ w'.cell? ⟨gb357, 0, none⟩ = some (.bool a2_0) ∧ w'.cell? ⟨gb357, 1, none⟩ = some (.slice A2_1 l2_1.length c2_1) ∧ w'.cell? ⟨gb357, 2, none⟩ = some (.int .i64 a2_2)) (ds := []) #[false, false, false, false, false, false, false, false, false, false, false, false] (by kernel_rfl) rfl rfl ⟨(blk_cell BK355.out 0).trans rfl, (blk_cell BK355.out 1).trans rfl, (blk_cell BK355.out 2).trans rfl, (blk_cell BK356.out 0).trans rfl, (blk_cell BK356.out 1).trans rfl, (blk_cell BK356.out 2).trans rfl, (blk_cell BK357.out 0).trans rfl, (blk_cell BK357.out 1).trans rfl, (blk_cell BK357.out 2).trans rfl⟩ (fun hHeld => ?_); refine with_tabW erratumlaw02_NumOrders.tab3 erratumlaw02_NumOrders.bits3 (fun HT_ HW_ => ?_)
        generalize wc.drew = w69 at BK355 BK356 BK357 HB hHeld ⊢
        refine take_ (i := 0) (N := some 39) (v := ?_) (a' := ?_) #[true, false, false, false, false, false, false, false, false, false, false, false] rfl rfl (take_ofW HT_.out HW_.out (by kernel_rfl)) (fun _ _ _ h => h) (Or.inl ⟨by rfl, ?_⟩) hHeld ?_ ?_
        rotate_left
        · rintro w' ⟨s0, s1, s2, s3, s4, s5, s6, s7, s8⟩
          go_simp
          with_reducible rfl
        rotate_left
        · simp only [Act.put, List.setIfInBounds_toArray, List.set_cons_zero, List.set_cons_succ, i64_w, i32_w]
          rfl
        refine take_ (i := 1) (N := some 40) (v := ?_) (a' := ?_) #[true, true, false, false, false, false, false, false, false, false, false, false] rfl rfl (take_ofW HT_.out HW_.out (by kernel_rfl)) (fun _ _ _ h => h) (Or.inl ⟨by rfl, ?_⟩) hHeld ?_ ?_
        rotate_left
        · rintro w' ⟨s0, s1, s2, s3, s4, s5, s6, s7, s8⟩
          go_simp
          with_reducible rfl
        rotate_left
        · simp only [Act.put, List.setIfInBounds_toArray, List.set_cons_zero, List.set_cons_succ, i64_w, i32_w]
          rfl
        refine take_ (i := 3) (N := some 42) (v := ?_) (a' := ?_) #[true, true, false, true, false, false, false, false, false, false, false, false] rfl rfl (take_ofW HT_.out HW_.out (by kernel_rfl)) (fun _ _ _ h => h) (Or.inl ⟨by rfl, ?_⟩) hHeld ?_ ?_
        rotate_left
        · rintro w' ⟨s0, s1, s2, s3, s4, s5, s6, s7, s8⟩
          go_simp
          with_reducible rfl
        rotate_left
        · simp only [Act.put, List.setIfInBounds_toArray, List.set_cons_zero, List.set_cons_succ, i64_w, i32_w]
          rfl
        refine take_ (i := 4) (N := some 43) (v := ?_) (a' := ?_) #[true, true, false, true, true, false, false, false, false, false, false, false] rfl rfl (take_ofW HT_.out HW_.out (by kernel_rfl)) (fun _ _ _ h => h) (Or.inl ⟨by rfl, ?_⟩) hHeld ?_ ?_
        rotate_left
        · rintro w' ⟨s0, s1, s2, s3, s4, s5, s6, s7, s8⟩
          go_simp
          with_reducible rfl
        rotate_left
        · simp only [Act.put, List.setIfInBounds_toArray, List.set_cons_zero, List.set_cons_succ, i64_w, i32_w]
          rfl
        refine take_ (i := 6) (N := some 45) (v := ?_) (a' := ?_) #[true, true, false, true, true, false, true, false, false, false, false, false] rfl rfl (take_ofW HT_.out HW_.out (by kernel_rfl)) (fun _ _ _ h => h) (Or.inl ⟨by rfl, ?_⟩) hHeld ?_ ?_
        rotate_left
        · rintro w' ⟨s0, s1, s2, s3, s4, s5, s6, s7, s8⟩
          go_simp
          with_reducible rfl
        rotate_left
        · simp only [Act.put, List.setIfInBounds_toArray, List.set_cons_zero, List.set_cons_succ, i64_w, i32_w]
          rfl
        refine take_ (i := 7) (N := some 46) (v := ?_) (a' := ?_) #[true, true, false, true, true, false, true, true, false, false, false, false] rfl rfl (take_ofW HT_.out HW_.out (by kernel_rfl)) (fun _ _ _ h => h) (Or.inl ⟨by rfl, ?_⟩) hHeld ?_ ?_
        rotate_left
        · rintro w' ⟨s0, s1, s2, s3, s4, s5, s6, s7, s8⟩
          go_simp
          with_reducible rfl
        rotate_left
        · simp only [Act.put, List.setIfInBounds_toArray, List.set_cons_zero, List.set_cons_succ, i64_w, i32_w]
          rfl
        refine one_ (i := 2) (N := some 41) #[true, true, true, true, true, false, true, true, false, false, false, false] rfl rfl (one_of HT_.out (by kernel_rfl)) (by decide) (fun K hK => ?_)
        refine goes_ Tryd.func21 (by kernel_rfl) rfl #[.agg #[.bool a0_0, .slice A0_1 l0_1.length c0_1, .int .i64 a0_2], .agg #[.bool a1_0, .slice A1_1 l1_1.length c1_1, .int .i64 a1_2]] (by rfl) rfl rfl (by (try simp only [List.map_toArray, List.map_cons, List.map_nil]); first | done | rfl | (simp only [List.length_drop, List.length_take]; rfl)) ?_
        with_reducible refine (num_Cmp.calls kj3 a0_0 _ _ l0_1 a0_2 a1_0 _ _ l1_1 a1_2 t363 _ ?side1 ?side2 ?side3 ?side4 A65.out).mono ?_
        (case side1 => repeat (first | exact (Kd.C_below HR0_1.out HB.out) | (with_reducible refine Kd.C_alloc ?_ _) | (with_reducible refine Kd.C_drewN ?_ _) | (with_reducible refine Kd.C_drew ?_)))
        (case side2 => exact HC0_1.out)
        (case side3 => repeat (first | exact (Kd.C_below HR1_1.out HB.out) | (with_reducible refine Kd.C_alloc ?_ _) | (with_reducible refine Kd.C_drewN ?_ _) | (with_reducible refine Kd.C_drew ?_)))
        (case side4 => exact HC1_1.out)
        rintro e w70 ⟨rfl, hb⟩
        refine ⟨_, rfl, ?_⟩
        have n0_ := Aside0.mk (blk_below (g := gb355) (o := .cells #[.bool a0_0, .slice A0_1 l0_1.length c0_1, .int .i64 a0_2] 25 (0, 0)) (by (with_reducible repeat (first | refine blk_drewN ?_ _ | refine blk_drew ?_ | refine blk_alloc ?_ _)); exact BK355.out) hb)
        have n1_ := Aside0.mk (blk_below (g := gb356) (o := .cells #[.bool a1_0, .slice A1_1 l1_1.length c1_1, .int .i64 a1_2] 25 (0, 0)) (by (with_reducible repeat (first | refine blk_drewN ?_ _ | refine blk_drew ?_ | refine blk_alloc ?_ _)); exact BK356.out) hb)
        have n2_ := Aside0.mk (blk_below (g := gb357) (o := .cells #[.bool a2_0, .slice A2_1 l2_1.length c2_1, .int .i64 a2_2] 25 (0, 0)) (by (with_reducible repeat (first | refine blk_drewN ?_ _ | refine blk_drew ?_ | refine blk_alloc ?_ _)); exact BK357.out) hb)
        have n3_ := Aside0.mk (below_step (by repeat (first | (with_reducible first | exact HB.out | apply below_alloc | apply pw_below_drewN | apply below_drew1 | refine below_set ?_ GE355.out | refine below_set ?_ GE356.out | refine below_set ?_ GE357.out) | exact HB.out)) hb)
        clear BK355
        clear BK356
        clear BK357
        clear HB
        have BK355 := n0_
        have BK356 := n1_
        have BK357 := n2_
        have HB := n3_
        clear n0_ n1_ n2_ n3_
        (try clear hb)
        (try clear hb2)
        (try clear hk)
        (try clear hi)
        refine hK.out _ _ ⟨(blk_cell BK355.out 0).trans rfl, (blk_cell BK355.out 1).trans rfl, (blk_cell BK355.out 2).trans rfl, (blk_cell BK356.out 0).trans rfl, (blk_cell BK356.out 1).trans rfl, (blk_cell BK356.out 2).trans rfl, (blk_cell BK357.out 0).trans rfl, (blk_cell BK357.out 1).trans rfl, (blk_cell BK357.out 2).trans rfl⟩ (fun hHeld => ?_)
        clear hK K
        refine norm_ (a' := ?_) ?_ ?_
        rotate_left
        · show Act.put _ (some 41) _ = _
          simp only [Act.put, List.setIfInBounds_toArray, List.set_cons_zero, List.set_cons_succ, i64_w, i32_w]
          rfl
        refine one_ (i := 5) (N := some 44) #[true, true, true, true, true, true, true, true, false, false, false, false] rfl rfl (one_of HT_.out (by kernel_rfl)) (by decide) (fun K hK => ?_)
        refine goes_ Tryd.func21 (by kernel_rfl) rfl #[.agg #[.bool a1_0, .slice A1_1 l1_1.length c1_1, .int .i64 a1_2], .agg #[.bool a2_0, .slice A2_1 l2_1.length c2_1, .int .i64 a2_2]] (by rfl) rfl rfl (by (try simp only [List.map_toArray, List.map_cons, List.map_nil]); first | done | rfl | (simp only [List.length_drop, List.length_take]; rfl)) ?_
        with_reducible refine (num_Cmp.calls kj3 a1_0 _ _ l1_1 a1_2 a2_0 _ _ l2_1 a2_2 t364 _ ?side1 ?side2 ?side3 ?side4 A66.out).mono ?_
        (case side1 => repeat (first | exact (Kd.C_below HR1_1.out HB.out) | (with_reducible refine Kd.C_alloc ?_ _) | (with_reducible refine Kd.C_drewN ?_ _) | (with_reducible refine Kd.C_drew ?_)))
        (case side2 => exact HC1_1.out)
        (case side3 => repeat (first | exact (Kd.C_below HR2_1.out HB.out) | (with_reducible refine Kd.C_alloc ?_ _) | (with_reducible refine Kd.C_drewN ?_ _) | (with_reducible refine Kd.C_drew ?_)))
        (case side4 => exact HC2_1.out)
        rintro e w71 ⟨rfl, hb⟩
        refine ⟨_, rfl, ?_⟩
        have n0_ := Aside0.mk (blk_below (g := gb355) (o := .cells #[.bool a0_0, .slice A0_1 l0_1.length c0_1, .int .i64 a0_2] 25 (0, 0)) (by (with_reducible repeat (first | refine blk_drewN ?_ _ | refine blk_drew ?_ | refine blk_alloc ?_ _)); exact BK355.out) hb)
        have n1_ := Aside0.mk (blk_below (g := gb356) (o := .cells #[.bool a1_0, .slice A1_1 l1_1.length c1_1, .int .i64 a1_2] 25 (0, 0)) (by (with_reducible repeat (first | refine blk_drewN ?_ _ | refine blk_drew ?_ | refine blk_alloc ?_ _)); exact BK356.out) hb)
        have n2_ := Aside0.mk (blk_below (g := gb357) (o := .cells #[.bool a2_0, .slice A2_1 l2_1.length c2_1, .int .i64 a2_2] 25 (0, 0)) (by (with_reducible repeat (first | refine blk_drewN ?_ _ | refine blk_drew ?_ | refine blk_alloc ?_ _)); exact BK357.out) hb)
        have n3_ := Aside0.mk (below_step (by repeat (first | (with_reducible first | exact HB.out | apply below_alloc | apply pw_below_drewN | apply below_drew1 | refine below_set ?_ GE355.out | refine below_set ?_ GE356.out | refine below_set ?_ GE357.out) | exact HB.out)) hb)
        clear BK355
        clear BK356
        clear BK357
        clear HB
        have BK355 := n0_
        have BK356 := n1_
        have BK357 := n2_
        have HB := n3_
        clear n0_ n1_ n2_ n3_
        (try clear hb)
        (try clear hb2)
        (try clear hk)
        (try clear hi)
        refine hK.out _ _ ⟨(blk_cell BK355.out 0).trans rfl, (blk_cell BK355.out 1).trans rfl, (blk_cell BK355.out 2).trans rfl, (blk_cell BK356.out 0).trans rfl, (blk_cell BK356.out 1).trans rfl, (blk_cell BK356.out 2).trans rfl, (blk_cell BK357.out 0).trans rfl, (blk_cell BK357.out 1).trans rfl, (blk_cell BK357.out 2).trans rfl⟩ (fun hHeld => ?_)
        clear hK K
        refine norm_ (a' := ?_) ?_ ?_
        rotate_left
        · show Act.put _ (some 44) _ = _
          simp only [Act.put, List.setIfInBounds_toArray, List.set_cons_zero, List.set_cons_succ, i64_w, i32_w]
          rfl
        refine one_ (i := 8) (N := some 47) #[true, true, true, true, true, true, true, true, true, false, false, false] rfl rfl (one_of HT_.out (by kernel_rfl)) (by decide) (fun K hK => ?_)
        refine goes_ Tryd.func21 (by kernel_rfl) rfl #[.agg #[.bool a0_0, .slice A0_1 l0_1.length c0_1, .int .i64 a0_2], .agg #[.bool a2_0, .slice A2_1 l2_1.length c2_1, .int .i64 a2_2]] (by rfl) rfl rfl (by (try simp only [List.map_toArray, List.map_cons, List.map_nil]); first | done | rfl | (simp only [List.length_drop, List.length_take]; rfl)) ?_
        with_reducible refine (num_Cmp.calls kj3 a0_0 _ _ l0_1 a0_2 a2_0 _ _ l2_1 a2_2 t365 _ ?side1 ?side2 ?side3 ?side4 A67.out).mono ?_
        (case side1 => repeat (first | exact (Kd.C_below HR0_1.out HB.out) | (with_reducible refine Kd.C_alloc ?_ _) | (with_reducible refine Kd.C_drewN ?_ _) | (with_reducible refine Kd.C_drew ?_)))
        (case side2 => exact HC0_1.out)
        (case side3 => repeat (first | exact (Kd.C_below HR2_1.out HB.out) | (with_reducible refine Kd.C_alloc ?_ _) | (with_reducible refine Kd.C_drewN ?_ _) | (with_reducible refine Kd.C_drew ?_)))
        (case side4 => exact HC2_1.out)
        rintro e w72 ⟨rfl, hb⟩
        refine ⟨_, rfl, ?_⟩
        have n0_ := Aside0.mk (blk_below (g := gb355) (o := .cells #[.bool a0_0, .slice A0_1 l0_1.length c0_1, .int .i64 a0_2] 25 (0, 0)) (by (with_reducible repeat (first | refine blk_drewN ?_ _ | refine blk_drew ?_ | refine blk_alloc ?_ _)); exact BK355.out) hb)
        have n1_ := Aside0.mk (blk_below (g := gb356) (o := .cells #[.bool a1_0, .slice A1_1 l1_1.length c1_1, .int .i64 a1_2] 25 (0, 0)) (by (with_reducible repeat (first | refine blk_drewN ?_ _ | refine blk_drew ?_ | refine blk_alloc ?_ _)); exact BK356.out) hb)
        have n2_ := Aside0.mk (blk_below (g := gb357) (o := .cells #[.bool a2_0, .slice A2_1 l2_1.length c2_1, .int .i64 a2_2] 25 (0, 0)) (by (with_reducible repeat (first | refine blk_drewN ?_ _ | refine blk_drew ?_ | refine blk_alloc ?_ _)); exact BK357.out) hb)
        have n3_ := Aside0.mk (below_step (by repeat (first | (with_reducible first | exact HB.out | apply below_alloc | apply pw_below_drewN | apply below_drew1 | refine below_set ?_ GE355.out | refine below_set ?_ GE356.out | refine below_set ?_ GE357.out) | exact HB.out)) hb)
        clear BK355
        clear BK356
        clear BK357
        clear HB
        have BK355 := n0_
        have BK356 := n1_
        have BK357 := n2_
        have HB := n3_
        clear n0_ n1_ n2_ n3_
        (try clear hb)
        (try clear hb2)
        (try clear hk)
        (try clear hi)
        refine hK.out _ _ ⟨(blk_cell BK355.out 0).trans rfl, (blk_cell BK355.out 1).trans rfl, (blk_cell BK355.out 2).trans rfl, (blk_cell BK356.out 0).trans rfl, (blk_cell BK356.out 1).trans rfl, (blk_cell BK356.out 2).trans rfl, (blk_cell BK357.out 0).trans rfl, (blk_cell BK357.out 1).trans rfl, (blk_cell BK357.out 2).trans rfl⟩ (fun hHeld => ?_)
        clear hK K
        refine norm_ (a' := ?_) ?_ ?_
        rotate_left
        · show Act.put _ (some 47) _ = _
          simp only [Act.put, List.setIfInBounds_toArray, List.set_cons_zero, List.set_cons_succ, i64_w, i32_w]
          rfl
        refine pure_ (i := 9) (N := some 7) (v := ?_) (a' := ?_) #[true, true, true, true, true, true, true, true, true, true, false, false] rfl rfl (any_of HT_.out (by kernel_rfl)) (fun _ _ _ h => h) (Or.inl ⟨by rfl, ?_⟩) ?_ ?_
        rotate_left
        · intro w'
          go_simp
          with_reducible rfl
        rotate_left
        · simp only [Act.put, List.setIfInBounds_toArray, List.set_cons_zero, List.set_cons_succ, i64_w, i32_w]
          rfl
        refine pure_ (i := 10) (N := some 8) (v := ?_) (a' := ?_) #[true, true, true, true, true, true, true, true, true, true, true, false] rfl rfl (any_of HT_.out (by kernel_rfl)) (fun _ _ _ h => h) (Or.inl ⟨by rfl, ?_⟩) ?_ ?_
        rotate_left
        · intro w'
          go_simp
          with_reducible rfl
        rotate_left
        · simp only [Act.put, List.setIfInBounds_toArray, List.set_cons_zero, List.set_cons_succ, i64_w, i32_w]
          rfl
        refine pure_ (i := 11) (N := some 9) (v := ?_) (a' := ?_) #[true, true, true, true, true, true, true, true, true, true, true, true] rfl rfl (any_of HT_.out (by kernel_rfl)) (fun _ _ _ h => h) (Or.inl ⟨by rfl, ?_⟩) ?_ ?_
        rotate_left
        · intro w'
          go_simp
          with_reducible rfl
        rotate_left
        · simp only [Act.put, List.setIfInBounds_toArray, List.set_cons_zero, List.set_cons_succ, i64_w, i32_w]
          rfl
        refine done_ (done_of HT_.out (by kernel_rfl)) ?_
        go_upto_region 4 with (fail)
        go_cut [85] (fun v85 wc => ∃ (kq : Nat) (x85_67 : Bool), v85 = .bool x85_67 ∧ Aside0 (erratumlaw02_NumOrders.j1 kq x85_67 a0_0 l0_1 a0_2 = some r) ∧ Aside0 (kq ≤ kj3) ∧ Aside0 (wc.heap[gb355]? = some (.cells #[.bool a0_0, (.slice A0_1 l0_1.length c0_1), .int .i64 a0_2] 25 (0, 0))) ∧ Aside0 (wc.heap[gb356]? = some (.cells #[.bool a1_0, (.slice A1_1 l1_1.length c1_1), .int .i64 a1_2] 25 (0, 0))) ∧ Aside0 (wc.heap[gb357]? = some (.cells #[.bool a2_0, (.slice A2_1 l2_1.length c2_1), .int .i64 a2_2] 25 (0, 0))) ∧ Aside0 (Below w.heap.size w wc))
        case first =>
          have H := HC68.out
          clear HC68
          replace H := Option.bind_eq_some_iff.mp H
          obtain ⟨t366, A730, H⟩ := H
          replace H : (if t366 = (wrap64 (-t363)) then (if t363 ≤ 0 then (if t364 ≤ 0 then (if t365 > 0 then (erratumlaw02_NumOrders.j1 kj3 true a0_0 l0_1 a0_2) else (if t363 ≥ 0 then (if t364 ≥ 0 then (if t365 < 0 then (erratumlaw02_NumOrders.j1 kj3 true a0_0 l0_1 a0_2) else ((num_Same.f kj3 a0_0 l0_1 a0_2 a1_0 l1_1 a1_2).bind fun t367 => (erratumlaw02_NumOrders.j1 kj3 ((t363 == 0) != t367) a0_0 l0_1 a0_2))) else ((num_Same.f kj3 a0_0 l0_1 a0_2 a1_0 l1_1 a1_2).bind fun t368 => (erratumlaw02_NumOrders.j1 kj3 ((t363 == 0) != t368) a0_0 l0_1 a0_2))) else ((num_Same.f kj3 a0_0 l0_1 a0_2 a1_0 l1_1 a1_2).bind fun t369 => (erratumlaw02_NumOrders.j1 kj3 ((t363 == 0) != t369) a0_0 l0_1 a0_2)))) else (if t363 ≥ 0 then (if t364 ≥ 0 then (if t365 < 0 then (erratumlaw02_NumOrders.j1 kj3 true a0_0 l0_1 a0_2) else ((num_Same.f kj3 a0_0 l0_1 a0_2 a1_0 l1_1 a1_2).bind fun t370 => (erratumlaw02_NumOrders.j1 kj3 ((t363 == 0) != t370) a0_0 l0_1 a0_2))) else ((num_Same.f kj3 a0_0 l0_1 a0_2 a1_0 l1_1 a1_2).bind fun t371 => (erratumlaw02_NumOrders.j1 kj3 ((t363 == 0) != t371) a0_0 l0_1 a0_2))) else ((num_Same.f kj3 a0_0 l0_1 a0_2 a1_0 l1_1 a1_2).bind fun t372 => (erratumlaw02_NumOrders.j1 kj3 ((t363 == 0) != t372) a0_0 l0_1 a0_2)))) else (if t363 ≥ 0 then (if t364 ≥ 0 then (if t365 < 0 then (erratumlaw02_NumOrders.j1 kj3 true a0_0 l0_1 a0_2) else ((num_Same.f kj3 a0_0 l0_1 a0_2 a1_0 l1_1 a1_2).bind fun t373 => (erratumlaw02_NumOrders.j1 kj3 ((t363 == 0) != t373) a0_0 l0_1 a0_2))) else ((num_Same.f kj3 a0_0 l0_1 a0_2 a1_0 l1_1 a1_2).bind fun t374 => (erratumlaw02_NumOrders.j1 kj3 ((t363 == 0) != t374) a0_0 l0_1 a0_2))) else ((num_Same.f kj3 a0_0 l0_1 a0_2 a1_0 l1_1 a1_2).bind fun t375 => (erratumlaw02_NumOrders.j1 kj3 ((t363 == 0) != t375) a0_0 l0_1 a0_2)))) else (erratumlaw02_NumOrders.j1 kj3 true a0_0 l0_1 a0_2)) = some r := H
          have A73 := Aside0.mk A730
          clear A730
          by_cases c74 : t366 = (wrap64 (-t363))
          · rw [if_pos c74] at H
            have c74b0 : (t366 == (wrap64 (-t363))) = true := beq_iff_eq.mpr c74
            have c74b1 : (t366 != (wrap64 (-t363))) = false := bne_eq_false_iff_eq.mpr c74
            clear c74
            (first | rw [c74b0] | (simp only [i64_w, i32_w]; rw [c74b0]) | skip)
            by_cases c75 : t363 ≤ 0
            · rw [if_pos c75] at H
              have c75b0 : decide (t363 ≤ 0) = true := decide_eq_true c75
              clear c75
              by_cases c76 : t364 ≤ 0
              · rw [if_pos c76] at H
                have c76b0 : decide (t364 ≤ 0) = true := decide_eq_true c76
                clear c76
                by_cases c77 : t365 > 0
                · rw [if_pos c77] at H
                  have c77b0 : decide (0 < t365) = true := decide_eq_true c77
                  clear c77
                  have H' := Aside0.mk H
                  clear H
                  have hnb78 := NB356_355.out
                  have hnc78 := NB355_356.out
                  have hnb79 := NB356_357.out
                  have hnc79 := NB357_356.out
                  have hcz80_0 : w72.cell? ⟨gb356, 0, none⟩ = some (.bool a1_0) := (blk_cell BK356.out 0).trans rfl
                  have hcz80_1 : w72.cell? ⟨gb356, 1, none⟩ = some (.slice A1_1 l1_1.length c1_1) := (blk_cell BK356.out 1).trans rfl
                  have hcz80_2 : w72.cell? ⟨gb356, 2, none⟩ = some (.int .i64 a1_2) := (blk_cell BK356.out 2).trans rfl
                  have hfz80_0 := blk_frozen BK356.out 0
                  have hfz80_1 := blk_frozen BK356.out 1
                  have hfz80_2 := blk_frozen BK356.out 2
                  have hnb81 := NB355_357.out
                  have hnc81 := NB357_355.out
                  have hcz82_0 : w72.cell? ⟨gb355, 0, none⟩ = some (.bool a0_0) := (blk_cell BK355.out 0).trans rfl
                  have hcz82_1 : w72.cell? ⟨gb355, 1, none⟩ = some (.slice A0_1 l0_1.length c0_1) := (blk_cell BK355.out 1).trans rfl
                  have hcz82_2 : w72.cell? ⟨gb355, 2, none⟩ = some (.int .i64 a0_2) := (blk_cell BK355.out 2).trans rfl
                  have hfz82_0 := blk_frozen BK355.out 0
                  have hfz82_1 := blk_frozen BK355.out 1
                  have hfz82_2 := blk_frozen BK355.out 2
                  go_wp2_with (first | ((with_reducible refine gate_callee (f := 21) rfl ?_); refine goesL_ (some 50) rfl rfl Tryd.func21 (by kernel_rfl) rfl #[.agg #[.bool a1_0, .slice A1_1 l1_1.length c1_1, .int .i64 a1_2], .agg #[.bool a0_0, .slice A0_1 l0_1.length c0_1, .int .i64 a0_2]] rfl (by (try simp only [List.map_toArray, List.map_cons, List.map_nil]); first | done | rfl | (simp only [List.length_drop, List.length_take]; rfl)) ?_; (with_reducible refine (num_Cmp.calls kj3 a1_0 _ _ l1_1 a1_2 a0_0 _ _ l0_1 a0_2 t366 _ ?side1 ?side2 ?side3 ?side4 A73.out).mono ?_); (case side1 => repeat (first | exact (Kd.C_below HR1_1.out HB.out) | (with_reducible refine Kd.C_alloc ?_ _) | (with_reducible refine Kd.C_drewN ?_ _) | (with_reducible refine Kd.C_drew ?_))); (case side2 => exact HC1_1.out); (case side3 => repeat (first | exact (Kd.C_below HR0_1.out HB.out) | (with_reducible refine Kd.C_alloc ?_ _) | (with_reducible refine Kd.C_drewN ?_ _) | (with_reducible refine Kd.C_drew ?_))); (case side4 => exact HC0_1.out); rintro e w83 ⟨rfl, hb⟩; refine ⟨_, rfl, ?_⟩; have n0_ := Aside0.mk (blk_below (g := gb355) (o := .cells #[.bool a0_0, .slice A0_1 l0_1.length c0_1, .int .i64 a0_2] 25 (0, 0)) (by (with_reducible repeat (first | refine blk_drewN ?_ _ | refine blk_drew ?_ | refine blk_alloc ?_ _)); exact BK355.out) hb); have n1_ := Aside0.mk (blk_below (g := gb356) (o := .cells #[.bool a1_0, .slice A1_1 l1_1.length c1_1, .int .i64 a1_2] 25 (0, 0)) (by (with_reducible repeat (first | refine blk_drewN ?_ _ | refine blk_drew ?_ | refine blk_alloc ?_ _)); exact BK356.out) hb); have n2_ := Aside0.mk (blk_below (g := gb357) (o := .cells #[.bool a2_0, .slice A2_1 l2_1.length c2_1, .int .i64 a2_2] 25 (0, 0)) (by (with_reducible repeat (first | refine blk_drewN ?_ _ | refine blk_drew ?_ | refine blk_alloc ?_ _)); exact BK357.out) hb); have n3_ := Aside0.mk (below_step (by repeat (first | (with_reducible first | exact HB.out | apply below_alloc | apply pw_below_drewN | apply below_drew1 | refine below_set ?_ GE355.out | refine below_set ?_ GE356.out | refine below_set ?_ GE357.out) | exact HB.out)) hb); clear BK355; clear BK356; clear BK357; clear HB; have BK355 := n0_; have BK356 := n1_; have BK357 := n2_; have HB := n3_; clear n0_ n1_ n2_ n3_; (try clear hb); (try clear hb2); (try clear hk); (try clear hi)))
                  go_meet
                  case rel => exact ⟨_, (true), (by first | rfl | (simp; done) | (simp [*]; done)), H', ⟨by have := HJ3.out; first | omega | exact Nat.le_refl _⟩, ⟨by (with_reducible repeat (first | refine blk_drewN ?_ _ | refine blk_drew ?_ | refine blk_alloc ?_ _)); exact BK355.out⟩, ⟨by (with_reducible repeat (first | refine blk_drewN ?_ _ | refine blk_drew ?_ | refine blk_alloc ?_ _)); exact BK356.out⟩, ⟨by (with_reducible repeat (first | refine blk_drewN ?_ _ | refine blk_drew ?_ | refine blk_alloc ?_ _)); exact BK357.out⟩, ⟨by repeat (first | (with_reducible first | exact HB.out | apply below_alloc | apply pw_below_drewN | apply below_drew1 | refine below_set ?_ GE355.out | refine below_set ?_ GE356.out | refine below_set ?_ GE357.out) | exact HB.out)⟩⟩
                · rw [if_neg c77] at H
                  have c77b0 : decide (0 < t365) = false := decide_eq_false c77
                  clear c77
                  by_cases c84 : t363 ≥ 0
                  · rw [if_pos c84] at H
                    have c84b0 : decide (0 ≤ t363) = true := decide_eq_true c84
                    clear c84
                    by_cases c85 : t364 ≥ 0
                    · rw [if_pos c85] at H
                      have c85b0 : decide (0 ≤ t364) = true := decide_eq_true c85
                      clear c85
                      by_cases c86 : t365 < 0
                      · rw [if_pos c86] at H
                        have c86b0 : decide (t365 < 0) = true := decide_eq_true c86
                        clear c86
                        have H' := Aside0.mk H
                        clear H
                        have hnb87 := NB356_355.out
                        have hnc87 := NB355_356.out
                        have hnb88 := NB356_357.out
                        have hnc88 := NB357_356.out
                        have hcz89_0 : w72.cell? ⟨gb356, 0, none⟩ = some (.bool a1_0) := (blk_cell BK356.out 0).trans rfl
                        have hcz89_1 : w72.cell? ⟨gb356, 1, none⟩ = some (.slice A1_1 l1_1.length c1_1) := (blk_cell BK356.out 1).trans rfl
                        have hcz89_2 : w72.cell? ⟨gb356, 2, none⟩ = some (.int .i64 a1_2) := (blk_cell BK356.out 2).trans rfl
                        have hfz89_0 := blk_frozen BK356.out 0
                        have hfz89_1 := blk_frozen BK356.out 1
                        have hfz89_2 := blk_frozen BK356.out 2
                        have hnb90 := NB355_357.out
                        have hnc90 := NB357_355.out
                        have hcz91_0 : w72.cell? ⟨gb355, 0, none⟩ = some (.bool a0_0) := (blk_cell BK355.out 0).trans rfl
                        have hcz91_1 : w72.cell? ⟨gb355, 1, none⟩ = some (.slice A0_1 l0_1.length c0_1) := (blk_cell BK355.out 1).trans rfl
                        have hcz91_2 : w72.cell? ⟨gb355, 2, none⟩ = some (.int .i64 a0_2) := (blk_cell BK355.out 2).trans rfl
                        have hfz91_0 := blk_frozen BK355.out 0
                        have hfz91_1 := blk_frozen BK355.out 1
                        have hfz91_2 := blk_frozen BK355.out 2
                        go_wp2_with (first | ((with_reducible refine gate_callee (f := 21) rfl ?_); refine goesL_ (some 50) rfl rfl Tryd.func21 (by kernel_rfl) rfl #[.agg #[.bool a1_0, .slice A1_1 l1_1.length c1_1, .int .i64 a1_2], .agg #[.bool a0_0, .slice A0_1 l0_1.length c0_1, .int .i64 a0_2]] rfl (by (try simp only [List.map_toArray, List.map_cons, List.map_nil]); first | done | rfl | (simp only [List.length_drop, List.length_take]; rfl)) ?_; (with_reducible refine (num_Cmp.calls kj3 a1_0 _ _ l1_1 a1_2 a0_0 _ _ l0_1 a0_2 t366 _ ?side1 ?side2 ?side3 ?side4 A73.out).mono ?_); (case side1 => repeat (first | exact (Kd.C_below HR1_1.out HB.out) | (with_reducible refine Kd.C_alloc ?_ _) | (with_reducible refine Kd.C_drewN ?_ _) | (with_reducible refine Kd.C_drew ?_))); (case side2 => exact HC1_1.out); (case side3 => repeat (first | exact (Kd.C_below HR0_1.out HB.out) | (with_reducible refine Kd.C_alloc ?_ _) | (with_reducible refine Kd.C_drewN ?_ _) | (with_reducible refine Kd.C_drew ?_))); (case side4 => exact HC0_1.out); rintro e w92 ⟨rfl, hb⟩; refine ⟨_, rfl, ?_⟩; have n0_ := Aside0.mk (blk_below (g := gb355) (o := .cells #[.bool a0_0, .slice A0_1 l0_1.length c0_1, .int .i64 a0_2] 25 (0, 0)) (by (with_reducible repeat (first | refine blk_drewN ?_ _ | refine blk_drew ?_ | refine blk_alloc ?_ _)); exact BK355.out) hb); have n1_ := Aside0.mk (blk_below (g := gb356) (o := .cells #[.bool a1_0, .slice A1_1 l1_1.length c1_1, .int .i64 a1_2] 25 (0, 0)) (by (with_reducible repeat (first | refine blk_drewN ?_ _ | refine blk_drew ?_ | refine blk_alloc ?_ _)); exact BK356.out) hb); have n2_ := Aside0.mk (blk_below (g := gb357) (o := .cells #[.bool a2_0, .slice A2_1 l2_1.length c2_1, .int .i64 a2_2] 25 (0, 0)) (by (with_reducible repeat (first | refine blk_drewN ?_ _ | refine blk_drew ?_ | refine blk_alloc ?_ _)); exact BK357.out) hb); have n3_ := Aside0.mk (below_step (by repeat (first | (with_reducible first | exact HB.out | apply below_alloc | apply pw_below_drewN | apply below_drew1 | refine below_set ?_ GE355.out | refine below_set ?_ GE356.out | refine below_set ?_ GE357.out) | exact HB.out)) hb); clear BK355; clear BK356; clear BK357; clear HB; have BK355 := n0_; have BK356 := n1_; have BK357 := n2_; have HB := n3_; clear n0_ n1_ n2_ n3_; (try clear hb); (try clear hb2); (try clear hk); (try clear hi)))
                        go_meet
                        case rel => exact ⟨_, (true), (by first | rfl | (simp; done) | (simp [*]; done)), H', ⟨by have := HJ3.out; first | omega | exact Nat.le_refl _⟩, ⟨by (with_reducible repeat (first | refine blk_drewN ?_ _ | refine blk_drew ?_ | refine blk_alloc ?_ _)); exact BK355.out⟩, ⟨by (with_reducible repeat (first | refine blk_drewN ?_ _ | refine blk_drew ?_ | refine blk_alloc ?_ _)); exact BK356.out⟩, ⟨by (with_reducible repeat (first | refine blk_drewN ?_ _ | refine blk_drew ?_ | refine blk_alloc ?_ _)); exact BK357.out⟩, ⟨by repeat (first | (with_reducible first | exact HB.out | apply below_alloc | apply pw_below_drewN | apply below_drew1 | refine below_set ?_ GE355.out | refine below_set ?_ GE356.out | refine below_set ?_ GE357.out) | exact HB.out)⟩⟩
                      · rw [if_neg c86] at H
                        have c86b0 : decide (t365 < 0) = false := decide_eq_false c86
                        clear c86
                        replace H := Option.bind_eq_some_iff.mp H
                        obtain ⟨t367, A930, H⟩ := H
                        replace H : (erratumlaw02_NumOrders.j1 kj3 ((t363 == 0) != t367) a0_0 l0_1 a0_2) = some r := H
                        have A93 := Aside0.mk A930
                        clear A930
                        have H' := Aside0.mk H
                        clear H
                        have hnb94 := NB356_355.out
                        have hnc94 := NB355_356.out
                        have hnb95 := NB356_357.out
                        have hnc95 := NB357_356.out
                        have hcz96_0 : w72.cell? ⟨gb356, 0, none⟩ = some (.bool a1_0) := (blk_cell BK356.out 0).trans rfl
                        have hcz96_1 : w72.cell? ⟨gb356, 1, none⟩ = some (.slice A1_1 l1_1.length c1_1) := (blk_cell BK356.out 1).trans rfl
                        have hcz96_2 : w72.cell? ⟨gb356, 2, none⟩ = some (.int .i64 a1_2) := (blk_cell BK356.out 2).trans rfl
                        have hfz96_0 := blk_frozen BK356.out 0
                        have hfz96_1 := blk_frozen BK356.out 1
                        have hfz96_2 := blk_frozen BK356.out 2
                        have hnb97 := NB355_357.out
                        have hnc97 := NB357_355.out
                        have hcz98_0 : w72.cell? ⟨gb355, 0, none⟩ = some (.bool a0_0) := (blk_cell BK355.out 0).trans rfl
                        have hcz98_1 : w72.cell? ⟨gb355, 1, none⟩ = some (.slice A0_1 l0_1.length c0_1) := (blk_cell BK355.out 1).trans rfl
                        have hcz98_2 : w72.cell? ⟨gb355, 2, none⟩ = some (.int .i64 a0_2) := (blk_cell BK355.out 2).trans rfl
                        have hfz98_0 := blk_frozen BK355.out 0
                        have hfz98_1 := blk_frozen BK355.out 1
                        have hfz98_2 := blk_frozen BK355.out 2
                        go_wp2_with (first | ((with_reducible refine gate_callee (f := 21) rfl ?_); refine goesL_ (some 50) rfl rfl Tryd.func21 (by kernel_rfl) rfl #[.agg #[.bool a1_0, .slice A1_1 l1_1.length c1_1, .int .i64 a1_2], .agg #[.bool a0_0, .slice A0_1 l0_1.length c0_1, .int .i64 a0_2]] rfl (by (try simp only [List.map_toArray, List.map_cons, List.map_nil]); first | done | rfl | (simp only [List.length_drop, List.length_take]; rfl)) ?_; (with_reducible refine (num_Cmp.calls kj3 a1_0 _ _ l1_1 a1_2 a0_0 _ _ l0_1 a0_2 t366 _ ?side1 ?side2 ?side3 ?side4 A73.out).mono ?_); (case side1 => repeat (first | exact (Kd.C_below HR1_1.out HB.out) | (with_reducible refine Kd.C_alloc ?_ _) | (with_reducible refine Kd.C_drewN ?_ _) | (with_reducible refine Kd.C_drew ?_))); (case side2 => exact HC1_1.out); (case side3 => repeat (first | exact (Kd.C_below HR0_1.out HB.out) | (with_reducible refine Kd.C_alloc ?_ _) | (with_reducible refine Kd.C_drewN ?_ _) | (with_reducible refine Kd.C_drew ?_))); (case side4 => exact HC0_1.out); rintro e w99 ⟨rfl, hb⟩; refine ⟨_, rfl, ?_⟩; have n0_ := Aside0.mk (blk_below (g := gb355) (o := .cells #[.bool a0_0, .slice A0_1 l0_1.length c0_1, .int .i64 a0_2] 25 (0, 0)) (by (with_reducible repeat (first | refine blk_drewN ?_ _ | refine blk_drew ?_ | refine blk_alloc ?_ _)); exact BK355.out) hb); have n1_ := Aside0.mk (blk_below (g := gb356) (o := .cells #[.bool a1_0, .slice A1_1 l1_1.length c1_1, .int .i64 a1_2] 25 (0, 0)) (by (with_reducible repeat (first | refine blk_drewN ?_ _ | refine blk_drew ?_ | refine blk_alloc ?_ _)); exact BK356.out) hb); have n2_ := Aside0.mk (blk_below (g := gb357) (o := .cells #[.bool a2_0, .slice A2_1 l2_1.length c2_1, .int .i64 a2_2] 25 (0, 0)) (by (with_reducible repeat (first | refine blk_drewN ?_ _ | refine blk_drew ?_ | refine blk_alloc ?_ _)); exact BK357.out) hb); have n3_ := Aside0.mk (below_step (by repeat (first | (with_reducible first | exact HB.out | apply below_alloc | apply pw_below_drewN | apply below_drew1 | refine below_set ?_ GE355.out | refine below_set ?_ GE356.out | refine below_set ?_ GE357.out) | exact HB.out)) hb); clear BK355; clear BK356; clear BK357; clear HB; have BK355 := n0_; have BK356 := n1_; have BK357 := n2_; have HB := n3_; clear n0_ n1_ n2_ n3_; (try clear hb); (try clear hb2); (try clear hk); (try clear hi); have hcz100_0 : w99.cell? ⟨gb355, 0, none⟩ = some (.bool a0_0) := (blk_cell BK355.out 0).trans rfl; have hcz100_1 : w99.cell? ⟨gb355, 1, none⟩ = some (.slice A0_1 l0_1.length c0_1) := (blk_cell BK355.out 1).trans rfl; have hcz100_2 : w99.cell? ⟨gb355, 2, none⟩ = some (.int .i64 a0_2) := (blk_cell BK355.out 2).trans rfl; have hfz100_0 := blk_frozen BK355.out 0; have hfz100_1 := blk_frozen BK355.out 1; have hfz100_2 := blk_frozen BK355.out 2; have hcz101_0 : w99.cell? ⟨gb356, 0, none⟩ = some (.bool a1_0) := (blk_cell BK356.out 0).trans rfl; have hcz101_1 : w99.cell? ⟨gb356, 1, none⟩ = some (.slice A1_1 l1_1.length c1_1) := (blk_cell BK356.out 1).trans rfl; have hcz101_2 : w99.cell? ⟨gb356, 2, none⟩ = some (.int .i64 a1_2) := (blk_cell BK356.out 2).trans rfl; have hfz101_0 := blk_frozen BK356.out 0; have hfz101_1 := blk_frozen BK356.out 1; have hfz101_2 := blk_frozen BK356.out 2) | (go_at_call 22; (with_reducible refine (num_Same.calls kj3 a0_0 _ _ l0_1 a0_2 a1_0 _ _ l1_1 a1_2 t367 _ ?side1 ?side2 ?side3 ?side4 A93.out).mono ?_); (case side1 => repeat (first | exact (Kd.C_below HR0_1.out HB.out) | (with_reducible refine Kd.C_alloc ?_ _) | (with_reducible refine Kd.C_drewN ?_ _) | (with_reducible refine Kd.C_drew ?_))); (case side2 => exact HC0_1.out); (case side3 => repeat (first | exact (Kd.C_below HR1_1.out HB.out) | (with_reducible refine Kd.C_alloc ?_ _) | (with_reducible refine Kd.C_drewN ?_ _) | (with_reducible refine Kd.C_drew ?_))); (case side4 => exact HC1_1.out); rintro e w102 ⟨rfl, hb⟩; have n0_ := Aside0.mk (blk_below (g := gb355) (o := .cells #[.bool a0_0, .slice A0_1 l0_1.length c0_1, .int .i64 a0_2] 25 (0, 0)) (by (with_reducible repeat (first | refine blk_drewN ?_ _ | refine blk_drew ?_ | refine blk_alloc ?_ _)); exact BK355.out) hb); have n1_ := Aside0.mk (blk_below (g := gb356) (o := .cells #[.bool a1_0, .slice A1_1 l1_1.length c1_1, .int .i64 a1_2] 25 (0, 0)) (by (with_reducible repeat (first | refine blk_drewN ?_ _ | refine blk_drew ?_ | refine blk_alloc ?_ _)); exact BK356.out) hb); have n2_ := Aside0.mk (blk_below (g := gb357) (o := .cells #[.bool a2_0, .slice A2_1 l2_1.length c2_1, .int .i64 a2_2] 25 (0, 0)) (by (with_reducible repeat (first | refine blk_drewN ?_ _ | refine blk_drew ?_ | refine blk_alloc ?_ _)); exact BK357.out) hb); have n3_ := Aside0.mk (below_step (by repeat (first | (with_reducible first | exact HB.out | apply below_alloc | apply pw_below_drewN | apply below_drew1 | refine below_set ?_ GE355.out | refine below_set ?_ GE356.out | refine below_set ?_ GE357.out) | exact HB.out)) hb); clear BK355; clear BK356; clear BK357; clear HB; have BK355 := n0_; have BK356 := n1_; have BK357 := n2_; have HB := n3_; clear n0_ n1_ n2_ n3_; (try clear hb); (try clear hb2); (try clear hk); (try clear hi)))
                        go_meet
                        case rel => exact ⟨_, (((t363 == 0) != t367)), (by first | rfl | (simp; done) | (simp [*]; done)), H', ⟨by have := HJ3.out; first | omega | exact Nat.le_refl _⟩, ⟨by (with_reducible repeat (first | refine blk_drewN ?_ _ | refine blk_drew ?_ | refine blk_alloc ?_ _)); exact BK355.out⟩, ⟨by (with_reducible repeat (first | refine blk_drewN ?_ _ | refine blk_drew ?_ | refine blk_alloc ?_ _)); exact BK356.out⟩, ⟨by (with_reducible repeat (first | refine blk_drewN ?_ _ | refine blk_drew ?_ | refine blk_alloc ?_ _)); exact BK357.out⟩, ⟨by repeat (first | (with_reducible first | exact HB.out | apply below_alloc | apply pw_below_drewN | apply below_drew1 | refine below_set ?_ GE355.out | refine below_set ?_ GE356.out | refine below_set ?_ GE357.out) | exact HB.out)⟩⟩
                    · rw [if_neg c85] at H
                      have c85b0 : decide (0 ≤ t364) = false := decide_eq_false c85
                      clear c85
                      replace H := Option.bind_eq_some_iff.mp H
                      obtain ⟨t368, A1030, H⟩ := H
                      replace H : (erratumlaw02_NumOrders.j1 kj3 ((t363 == 0) != t368) a0_0 l0_1 a0_2) = some r := H
                      have A103 := Aside0.mk A1030
                      clear A1030
                      have H' := Aside0.mk H
                      clear H
                      have hnb104 := NB356_355.out
                      have hnc104 := NB355_356.out
                      have hnb105 := NB356_357.out
                      have hnc105 := NB357_356.out
                      have hcz106_0 : w72.cell? ⟨gb356, 0, none⟩ = some (.bool a1_0) := (blk_cell BK356.out 0).trans rfl
                      have hcz106_1 : w72.cell? ⟨gb356, 1, none⟩ = some (.slice A1_1 l1_1.length c1_1) := (blk_cell BK356.out 1).trans rfl
                      have hcz106_2 : w72.cell? ⟨gb356, 2, none⟩ = some (.int .i64 a1_2) := (blk_cell BK356.out 2).trans rfl
                      have hfz106_0 := blk_frozen BK356.out 0
                      have hfz106_1 := blk_frozen BK356.out 1
                      have hfz106_2 := blk_frozen BK356.out 2
                      have hnb107 := NB355_357.out
                      have hnc107 := NB357_355.out
                      have hcz108_0 : w72.cell? ⟨gb355, 0, none⟩ = some (.bool a0_0) := (blk_cell BK355.out 0).trans rfl
                      have hcz108_1 : w72.cell? ⟨gb355, 1, none⟩ = some (.slice A0_1 l0_1.length c0_1) := (blk_cell BK355.out 1).trans rfl
                      have hcz108_2 : w72.cell? ⟨gb355, 2, none⟩ = some (.int .i64 a0_2) := (blk_cell BK355.out 2).trans rfl
                      have hfz108_0 := blk_frozen BK355.out 0
                      have hfz108_1 := blk_frozen BK355.out 1
                      have hfz108_2 := blk_frozen BK355.out 2
                      go_wp2_with (first | ((with_reducible refine gate_callee (f := 21) rfl ?_); refine goesL_ (some 50) rfl rfl Tryd.func21 (by kernel_rfl) rfl #[.agg #[.bool a1_0, .slice A1_1 l1_1.length c1_1, .int .i64 a1_2], .agg #[.bool a0_0, .slice A0_1 l0_1.length c0_1, .int .i64 a0_2]] rfl (by (try simp only [List.map_toArray, List.map_cons, List.map_nil]); first | done | rfl | (simp only [List.length_drop, List.length_take]; rfl)) ?_; (with_reducible refine (num_Cmp.calls kj3 a1_0 _ _ l1_1 a1_2 a0_0 _ _ l0_1 a0_2 t366 _ ?side1 ?side2 ?side3 ?side4 A73.out).mono ?_); (case side1 => repeat (first | exact (Kd.C_below HR1_1.out HB.out) | (with_reducible refine Kd.C_alloc ?_ _) | (with_reducible refine Kd.C_drewN ?_ _) | (with_reducible refine Kd.C_drew ?_))); (case side2 => exact HC1_1.out); (case side3 => repeat (first | exact (Kd.C_below HR0_1.out HB.out) | (with_reducible refine Kd.C_alloc ?_ _) | (with_reducible refine Kd.C_drewN ?_ _) | (with_reducible refine Kd.C_drew ?_))); (case side4 => exact HC0_1.out); rintro e w109 ⟨rfl, hb⟩; refine ⟨_, rfl, ?_⟩; have n0_ := Aside0.mk (blk_below (g := gb355) (o := .cells #[.bool a0_0, .slice A0_1 l0_1.length c0_1, .int .i64 a0_2] 25 (0, 0)) (by (with_reducible repeat (first | refine blk_drewN ?_ _ | refine blk_drew ?_ | refine blk_alloc ?_ _)); exact BK355.out) hb); have n1_ := Aside0.mk (blk_below (g := gb356) (o := .cells #[.bool a1_0, .slice A1_1 l1_1.length c1_1, .int .i64 a1_2] 25 (0, 0)) (by (with_reducible repeat (first | refine blk_drewN ?_ _ | refine blk_drew ?_ | refine blk_alloc ?_ _)); exact BK356.out) hb); have n2_ := Aside0.mk (blk_below (g := gb357) (o := .cells #[.bool a2_0, .slice A2_1 l2_1.length c2_1, .int .i64 a2_2] 25 (0, 0)) (by (with_reducible repeat (first | refine blk_drewN ?_ _ | refine blk_drew ?_ | refine blk_alloc ?_ _)); exact BK357.out) hb); have n3_ := Aside0.mk (below_step (by repeat (first | (with_reducible first | exact HB.out | apply below_alloc | apply pw_below_drewN | apply below_drew1 | refine below_set ?_ GE355.out | refine below_set ?_ GE356.out | refine below_set ?_ GE357.out) | exact HB.out)) hb); clear BK355; clear BK356; clear BK357; clear HB; have BK355 := n0_; have BK356 := n1_; have BK357 := n2_; have HB := n3_; clear n0_ n1_ n2_ n3_; (try clear hb); (try clear hb2); (try clear hk); (try clear hi); have hcz110_0 : w109.cell? ⟨gb355, 0, none⟩ = some (.bool a0_0) := (blk_cell BK355.out 0).trans rfl; have hcz110_1 : w109.cell? ⟨gb355, 1, none⟩ = some (.slice A0_1 l0_1.length c0_1) := (blk_cell BK355.out 1).trans rfl; have hcz110_2 : w109.cell? ⟨gb355, 2, none⟩ = some (.int .i64 a0_2) := (blk_cell BK355.out 2).trans rfl; have hfz110_0 := blk_frozen BK355.out 0; have hfz110_1 := blk_frozen BK355.out 1; have hfz110_2 := blk_frozen BK355.out 2; have hcz111_0 : w109.cell? ⟨gb356, 0, none⟩ = some (.bool a1_0) := (blk_cell BK356.out 0).trans rfl; have hcz111_1 : w109.cell? ⟨gb356, 1, none⟩ = some (.slice A1_1 l1_1.length c1_1) := (blk_cell BK356.out 1).trans rfl; have hcz111_2 : w109.cell? ⟨gb356, 2, none⟩ = some (.int .i64 a1_2) := (blk_cell BK356.out 2).trans rfl; have hfz111_0 := blk_frozen BK356.out 0; have hfz111_1 := blk_frozen BK356.out 1; have hfz111_2 := blk_frozen BK356.out 2) | (go_at_call 22; (with_reducible refine (num_Same.calls kj3 a0_0 _ _ l0_1 a0_2 a1_0 _ _ l1_1 a1_2 t368 _ ?side1 ?side2 ?side3 ?side4 A103.out).mono ?_); (case side1 => repeat (first | exact (Kd.C_below HR0_1.out HB.out) | (with_reducible refine Kd.C_alloc ?_ _) | (with_reducible refine Kd.C_drewN ?_ _) | (with_reducible refine Kd.C_drew ?_))); (case side2 => exact HC0_1.out); (case side3 => repeat (first | exact (Kd.C_below HR1_1.out HB.out) | (with_reducible refine Kd.C_alloc ?_ _) | (with_reducible refine Kd.C_drewN ?_ _) | (with_reducible refine Kd.C_drew ?_))); (case side4 => exact HC1_1.out); rintro e w112 ⟨rfl, hb⟩; have n0_ := Aside0.mk (blk_below (g := gb355) (o := .cells #[.bool a0_0, .slice A0_1 l0_1.length c0_1, .int .i64 a0_2] 25 (0, 0)) (by (with_reducible repeat (first | refine blk_drewN ?_ _ | refine blk_drew ?_ | refine blk_alloc ?_ _)); exact BK355.out) hb); have n1_ := Aside0.mk (blk_below (g := gb356) (o := .cells #[.bool a1_0, .slice A1_1 l1_1.length c1_1, .int .i64 a1_2] 25 (0, 0)) (by (with_reducible repeat (first | refine blk_drewN ?_ _ | refine blk_drew ?_ | refine blk_alloc ?_ _)); exact BK356.out) hb); have n2_ := Aside0.mk (blk_below (g := gb357) (o := .cells #[.bool a2_0, .slice A2_1 l2_1.length c2_1, .int .i64 a2_2] 25 (0, 0)) (by (with_reducible repeat (first | refine blk_drewN ?_ _ | refine blk_drew ?_ | refine blk_alloc ?_ _)); exact BK357.out) hb); have n3_ := Aside0.mk (below_step (by repeat (first | (with_reducible first | exact HB.out | apply below_alloc | apply pw_below_drewN | apply below_drew1 | refine below_set ?_ GE355.out | refine below_set ?_ GE356.out | refine below_set ?_ GE357.out) | exact HB.out)) hb); clear BK355; clear BK356; clear BK357; clear HB; have BK355 := n0_; have BK356 := n1_; have BK357 := n2_; have HB := n3_; clear n0_ n1_ n2_ n3_; (try clear hb); (try clear hb2); (try clear hk); (try clear hi)))
                      go_meet
                      case rel => exact ⟨_, (((t363 == 0) != t368)), (by first | rfl | (simp; done) | (simp [*]; done)), H', ⟨by have := HJ3.out; first | omega | exact Nat.le_refl _⟩, ⟨by (with_reducible repeat (first | refine blk_drewN ?_ _ | refine blk_drew ?_ | refine blk_alloc ?_ _)); exact BK355.out⟩, ⟨by (with_reducible repeat (first | refine blk_drewN ?_ _ | refine blk_drew ?_ | refine blk_alloc ?_ _)); exact BK356.out⟩, ⟨by (with_reducible repeat (first | refine blk_drewN ?_ _ | refine blk_drew ?_ | refine blk_alloc ?_ _)); exact BK357.out⟩, ⟨by repeat (first | (with_reducible first | exact HB.out | apply below_alloc | apply pw_below_drewN | apply below_drew1 | refine below_set ?_ GE355.out | refine below_set ?_ GE356.out | refine below_set ?_ GE357.out) | exact HB.out)⟩⟩
                  · rw [if_neg c84] at H
                    have c84b0 : decide (0 ≤ t363) = false := decide_eq_false c84
                    clear c84
                    replace H := Option.bind_eq_some_iff.mp H
                    obtain ⟨t369, A1130, H⟩ := H
                    replace H : (erratumlaw02_NumOrders.j1 kj3 ((t363 == 0) != t369) a0_0 l0_1 a0_2) = some r := H
                    have A113 := Aside0.mk A1130
                    clear A1130
                    have H' := Aside0.mk H
                    clear H
                    have hnb114 := NB356_355.out
                    have hnc114 := NB355_356.out
                    have hnb115 := NB356_357.out
                    have hnc115 := NB357_356.out
                    have hcz116_0 : w72.cell? ⟨gb356, 0, none⟩ = some (.bool a1_0) := (blk_cell BK356.out 0).trans rfl
                    have hcz116_1 : w72.cell? ⟨gb356, 1, none⟩ = some (.slice A1_1 l1_1.length c1_1) := (blk_cell BK356.out 1).trans rfl
                    have hcz116_2 : w72.cell? ⟨gb356, 2, none⟩ = some (.int .i64 a1_2) := (blk_cell BK356.out 2).trans rfl
                    have hfz116_0 := blk_frozen BK356.out 0
                    have hfz116_1 := blk_frozen BK356.out 1
                    have hfz116_2 := blk_frozen BK356.out 2
                    have hnb117 := NB355_357.out
                    have hnc117 := NB357_355.out
                    have hcz118_0 : w72.cell? ⟨gb355, 0, none⟩ = some (.bool a0_0) := (blk_cell BK355.out 0).trans rfl
                    have hcz118_1 : w72.cell? ⟨gb355, 1, none⟩ = some (.slice A0_1 l0_1.length c0_1) := (blk_cell BK355.out 1).trans rfl
                    have hcz118_2 : w72.cell? ⟨gb355, 2, none⟩ = some (.int .i64 a0_2) := (blk_cell BK355.out 2).trans rfl
                    have hfz118_0 := blk_frozen BK355.out 0
                    have hfz118_1 := blk_frozen BK355.out 1
                    have hfz118_2 := blk_frozen BK355.out 2
                    go_wp2_with (first | ((with_reducible refine gate_callee (f := 21) rfl ?_); refine goesL_ (some 50) rfl rfl Tryd.func21 (by kernel_rfl) rfl #[.agg #[.bool a1_0, .slice A1_1 l1_1.length c1_1, .int .i64 a1_2], .agg #[.bool a0_0, .slice A0_1 l0_1.length c0_1, .int .i64 a0_2]] rfl (by (try simp only [List.map_toArray, List.map_cons, List.map_nil]); first | done | rfl | (simp only [List.length_drop, List.length_take]; rfl)) ?_; (with_reducible refine (num_Cmp.calls kj3 a1_0 _ _ l1_1 a1_2 a0_0 _ _ l0_1 a0_2 t366 _ ?side1 ?side2 ?side3 ?side4 A73.out).mono ?_); (case side1 => repeat (first | exact (Kd.C_below HR1_1.out HB.out) | (with_reducible refine Kd.C_alloc ?_ _) | (with_reducible refine Kd.C_drewN ?_ _) | (with_reducible refine Kd.C_drew ?_))); (case side2 => exact HC1_1.out); (case side3 => repeat (first | exact (Kd.C_below HR0_1.out HB.out) | (with_reducible refine Kd.C_alloc ?_ _) | (with_reducible refine Kd.C_drewN ?_ _) | (with_reducible refine Kd.C_drew ?_))); (case side4 => exact HC0_1.out); rintro e w119 ⟨rfl, hb⟩; refine ⟨_, rfl, ?_⟩; have n0_ := Aside0.mk (blk_below (g := gb355) (o := .cells #[.bool a0_0, .slice A0_1 l0_1.length c0_1, .int .i64 a0_2] 25 (0, 0)) (by (with_reducible repeat (first | refine blk_drewN ?_ _ | refine blk_drew ?_ | refine blk_alloc ?_ _)); exact BK355.out) hb); have n1_ := Aside0.mk (blk_below (g := gb356) (o := .cells #[.bool a1_0, .slice A1_1 l1_1.length c1_1, .int .i64 a1_2] 25 (0, 0)) (by (with_reducible repeat (first | refine blk_drewN ?_ _ | refine blk_drew ?_ | refine blk_alloc ?_ _)); exact BK356.out) hb); have n2_ := Aside0.mk (blk_below (g := gb357) (o := .cells #[.bool a2_0, .slice A2_1 l2_1.length c2_1, .int .i64 a2_2] 25 (0, 0)) (by (with_reducible repeat (first | refine blk_drewN ?_ _ | refine blk_drew ?_ | refine blk_alloc ?_ _)); exact BK357.out) hb); have n3_ := Aside0.mk (below_step (by repeat (first | (with_reducible first | exact HB.out | apply below_alloc | apply pw_below_drewN | apply below_drew1 | refine below_set ?_ GE355.out | refine below_set ?_ GE356.out | refine below_set ?_ GE357.out) | exact HB.out)) hb); clear BK355; clear BK356; clear BK357; clear HB; have BK355 := n0_; have BK356 := n1_; have BK357 := n2_; have HB := n3_; clear n0_ n1_ n2_ n3_; (try clear hb); (try clear hb2); (try clear hk); (try clear hi); have hcz120_0 : w119.cell? ⟨gb355, 0, none⟩ = some (.bool a0_0) := (blk_cell BK355.out 0).trans rfl; have hcz120_1 : w119.cell? ⟨gb355, 1, none⟩ = some (.slice A0_1 l0_1.length c0_1) := (blk_cell BK355.out 1).trans rfl; have hcz120_2 : w119.cell? ⟨gb355, 2, none⟩ = some (.int .i64 a0_2) := (blk_cell BK355.out 2).trans rfl; have hfz120_0 := blk_frozen BK355.out 0; have hfz120_1 := blk_frozen BK355.out 1; have hfz120_2 := blk_frozen BK355.out 2; have hcz121_0 : w119.cell? ⟨gb356, 0, none⟩ = some (.bool a1_0) := (blk_cell BK356.out 0).trans rfl; have hcz121_1 : w119.cell? ⟨gb356, 1, none⟩ = some (.slice A1_1 l1_1.length c1_1) := (blk_cell BK356.out 1).trans rfl; have hcz121_2 : w119.cell? ⟨gb356, 2, none⟩ = some (.int .i64 a1_2) := (blk_cell BK356.out 2).trans rfl; have hfz121_0 := blk_frozen BK356.out 0; have hfz121_1 := blk_frozen BK356.out 1; have hfz121_2 := blk_frozen BK356.out 2) | (go_at_call 22; (with_reducible refine (num_Same.calls kj3 a0_0 _ _ l0_1 a0_2 a1_0 _ _ l1_1 a1_2 t369 _ ?side1 ?side2 ?side3 ?side4 A113.out).mono ?_); (case side1 => repeat (first | exact (Kd.C_below HR0_1.out HB.out) | (with_reducible refine Kd.C_alloc ?_ _) | (with_reducible refine Kd.C_drewN ?_ _) | (with_reducible refine Kd.C_drew ?_))); (case side2 => exact HC0_1.out); (case side3 => repeat (first | exact (Kd.C_below HR1_1.out HB.out) | (with_reducible refine Kd.C_alloc ?_ _) | (with_reducible refine Kd.C_drewN ?_ _) | (with_reducible refine Kd.C_drew ?_))); (case side4 => exact HC1_1.out); rintro e w122 ⟨rfl, hb⟩; have n0_ := Aside0.mk (blk_below (g := gb355) (o := .cells #[.bool a0_0, .slice A0_1 l0_1.length c0_1, .int .i64 a0_2] 25 (0, 0)) (by (with_reducible repeat (first | refine blk_drewN ?_ _ | refine blk_drew ?_ | refine blk_alloc ?_ _)); exact BK355.out) hb); have n1_ := Aside0.mk (blk_below (g := gb356) (o := .cells #[.bool a1_0, .slice A1_1 l1_1.length c1_1, .int .i64 a1_2] 25 (0, 0)) (by (with_reducible repeat (first | refine blk_drewN ?_ _ | refine blk_drew ?_ | refine blk_alloc ?_ _)); exact BK356.out) hb); have n2_ := Aside0.mk (blk_below (g := gb357) (o := .cells #[.bool a2_0, .slice A2_1 l2_1.length c2_1, .int .i64 a2_2] 25 (0, 0)) (by (with_reducible repeat (first | refine blk_drewN ?_ _ | refine blk_drew ?_ | refine blk_alloc ?_ _)); exact BK357.out) hb); have n3_ := Aside0.mk (below_step (by repeat (first | (with_reducible first | exact HB.out | apply below_alloc | apply pw_below_drewN | apply below_drew1 | refine below_set ?_ GE355.out | refine below_set ?_ GE356.out | refine below_set ?_ GE357.out) | exact HB.out)) hb); clear BK355; clear BK356; clear BK357; clear HB; have BK355 := n0_; have BK356 := n1_; have BK357 := n2_; have HB := n3_; clear n0_ n1_ n2_ n3_; (try clear hb); (try clear hb2); (try clear hk); (try clear hi)))
                    go_meet
                    case rel => exact ⟨_, (((t363 == 0) != t369)), (by first | rfl | (simp; done) | (simp [*]; done)), H', ⟨by have := HJ3.out; first | omega | exact Nat.le_refl _⟩, ⟨by (with_reducible repeat (first | refine blk_drewN ?_ _ | refine blk_drew ?_ | refine blk_alloc ?_ _)); exact BK355.out⟩, ⟨by (with_reducible repeat (first | refine blk_drewN ?_ _ | refine blk_drew ?_ | refine blk_alloc ?_ _)); exact BK356.out⟩, ⟨by (with_reducible repeat (first | refine blk_drewN ?_ _ | refine blk_drew ?_ | refine blk_alloc ?_ _)); exact BK357.out⟩, ⟨by repeat (first | (with_reducible first | exact HB.out | apply below_alloc | apply pw_below_drewN | apply below_drew1 | refine below_set ?_ GE355.out | refine below_set ?_ GE356.out | refine below_set ?_ GE357.out) | exact HB.out)⟩⟩
              · rw [if_neg c76] at H
                have c76b0 : decide (t364 ≤ 0) = false := decide_eq_false c76
                clear c76
                by_cases c123 : t363 ≥ 0
                · rw [if_pos c123] at H
                  have c123b0 : decide (0 ≤ t363) = true := decide_eq_true c123
                  clear c123
                  by_cases c124 : t364 ≥ 0
                  · rw [if_pos c124] at H
                    have c124b0 : decide (0 ≤ t364) = true := decide_eq_true c124
                    clear c124
                    by_cases c125 : t365 < 0
                    · rw [if_pos c125] at H
                      have c125b0 : decide (t365 < 0) = true := decide_eq_true c125
                      clear c125
                      have H' := Aside0.mk H
                      clear H
                      have hnb126 := NB356_355.out
                      have hnc126 := NB355_356.out
                      have hnb127 := NB356_357.out
                      have hnc127 := NB357_356.out
                      have hcz128_0 : w72.cell? ⟨gb356, 0, none⟩ = some (.bool a1_0) := (blk_cell BK356.out 0).trans rfl
                      have hcz128_1 : w72.cell? ⟨gb356, 1, none⟩ = some (.slice A1_1 l1_1.length c1_1) := (blk_cell BK356.out 1).trans rfl
                      have hcz128_2 : w72.cell? ⟨gb356, 2, none⟩ = some (.int .i64 a1_2) := (blk_cell BK356.out 2).trans rfl
                      have hfz128_0 := blk_frozen BK356.out 0
                      have hfz128_1 := blk_frozen BK356.out 1
                      have hfz128_2 := blk_frozen BK356.out 2
                      have hnb129 := NB355_357.out
                      have hnc129 := NB357_355.out
                      have hcz130_0 : w72.cell? ⟨gb355, 0, none⟩ = some (.bool a0_0) := (blk_cell BK355.out 0).trans rfl
                      have hcz130_1 : w72.cell? ⟨gb355, 1, none⟩ = some (.slice A0_1 l0_1.length c0_1) := (blk_cell BK355.out 1).trans rfl
                      have hcz130_2 : w72.cell? ⟨gb355, 2, none⟩ = some (.int .i64 a0_2) := (blk_cell BK355.out 2).trans rfl
                      have hfz130_0 := blk_frozen BK355.out 0
                      have hfz130_1 := blk_frozen BK355.out 1
                      have hfz130_2 := blk_frozen BK355.out 2
                      go_wp2_with (first | ((with_reducible refine gate_callee (f := 21) rfl ?_); refine goesL_ (some 50) rfl rfl Tryd.func21 (by kernel_rfl) rfl #[.agg #[.bool a1_0, .slice A1_1 l1_1.length c1_1, .int .i64 a1_2], .agg #[.bool a0_0, .slice A0_1 l0_1.length c0_1, .int .i64 a0_2]] rfl (by (try simp only [List.map_toArray, List.map_cons, List.map_nil]); first | done | rfl | (simp only [List.length_drop, List.length_take]; rfl)) ?_; (with_reducible refine (num_Cmp.calls kj3 a1_0 _ _ l1_1 a1_2 a0_0 _ _ l0_1 a0_2 t366 _ ?side1 ?side2 ?side3 ?side4 A73.out).mono ?_); (case side1 => repeat (first | exact (Kd.C_below HR1_1.out HB.out) | (with_reducible refine Kd.C_alloc ?_ _) | (with_reducible refine Kd.C_drewN ?_ _) | (with_reducible refine Kd.C_drew ?_))); (case side2 => exact HC1_1.out); (case side3 => repeat (first | exact (Kd.C_below HR0_1.out HB.out) | (with_reducible refine Kd.C_alloc ?_ _) | (with_reducible refine Kd.C_drewN ?_ _) | (with_reducible refine Kd.C_drew ?_))); (case side4 => exact HC0_1.out); rintro e w131 ⟨rfl, hb⟩; refine ⟨_, rfl, ?_⟩; have n0_ := Aside0.mk (blk_below (g := gb355) (o := .cells #[.bool a0_0, .slice A0_1 l0_1.length c0_1, .int .i64 a0_2] 25 (0, 0)) (by (with_reducible repeat (first | refine blk_drewN ?_ _ | refine blk_drew ?_ | refine blk_alloc ?_ _)); exact BK355.out) hb); have n1_ := Aside0.mk (blk_below (g := gb356) (o := .cells #[.bool a1_0, .slice A1_1 l1_1.length c1_1, .int .i64 a1_2] 25 (0, 0)) (by (with_reducible repeat (first | refine blk_drewN ?_ _ | refine blk_drew ?_ | refine blk_alloc ?_ _)); exact BK356.out) hb); have n2_ := Aside0.mk (blk_below (g := gb357) (o := .cells #[.bool a2_0, .slice A2_1 l2_1.length c2_1, .int .i64 a2_2] 25 (0, 0)) (by (with_reducible repeat (first | refine blk_drewN ?_ _ | refine blk_drew ?_ | refine blk_alloc ?_ _)); exact BK357.out) hb); have n3_ := Aside0.mk (below_step (by repeat (first | (with_reducible first | exact HB.out | apply below_alloc | apply pw_below_drewN | apply below_drew1 | refine below_set ?_ GE355.out | refine below_set ?_ GE356.out | refine below_set ?_ GE357.out) | exact HB.out)) hb); clear BK355; clear BK356; clear BK357; clear HB; have BK355 := n0_; have BK356 := n1_; have BK357 := n2_; have HB := n3_; clear n0_ n1_ n2_ n3_; (try clear hb); (try clear hb2); (try clear hk); (try clear hi)))
                      go_meet
                      case rel => exact ⟨_, (true), (by first | rfl | (simp; done) | (simp [*]; done)), H', ⟨by have := HJ3.out; first | omega | exact Nat.le_refl _⟩, ⟨by (with_reducible repeat (first | refine blk_drewN ?_ _ | refine blk_drew ?_ | refine blk_alloc ?_ _)); exact BK355.out⟩, ⟨by (with_reducible repeat (first | refine blk_drewN ?_ _ | refine blk_drew ?_ | refine blk_alloc ?_ _)); exact BK356.out⟩, ⟨by (with_reducible repeat (first | refine blk_drewN ?_ _ | refine blk_drew ?_ | refine blk_alloc ?_ _)); exact BK357.out⟩, ⟨by repeat (first | (with_reducible first | exact HB.out | apply below_alloc | apply pw_below_drewN | apply below_drew1 | refine below_set ?_ GE355.out | refine below_set ?_ GE356.out | refine below_set ?_ GE357.out) | exact HB.out)⟩⟩
                    · rw [if_neg c125] at H
                      have c125b0 : decide (t365 < 0) = false := decide_eq_false c125
                      clear c125
                      replace H := Option.bind_eq_some_iff.mp H
                      obtain ⟨t370, A1320, H⟩ := H
                      replace H : (erratumlaw02_NumOrders.j1 kj3 ((t363 == 0) != t370) a0_0 l0_1 a0_2) = some r := H
                      have A132 := Aside0.mk A1320
                      clear A1320
                      have H' := Aside0.mk H
                      clear H
                      have hnb133 := NB356_355.out
                      have hnc133 := NB355_356.out
                      have hnb134 := NB356_357.out
                      have hnc134 := NB357_356.out
                      have hcz135_0 : w72.cell? ⟨gb356, 0, none⟩ = some (.bool a1_0) := (blk_cell BK356.out 0).trans rfl
                      have hcz135_1 : w72.cell? ⟨gb356, 1, none⟩ = some (.slice A1_1 l1_1.length c1_1) := (blk_cell BK356.out 1).trans rfl
                      have hcz135_2 : w72.cell? ⟨gb356, 2, none⟩ = some (.int .i64 a1_2) := (blk_cell BK356.out 2).trans rfl
                      have hfz135_0 := blk_frozen BK356.out 0
                      have hfz135_1 := blk_frozen BK356.out 1
                      have hfz135_2 := blk_frozen BK356.out 2
                      have hnb136 := NB355_357.out
                      have hnc136 := NB357_355.out
                      have hcz137_0 : w72.cell? ⟨gb355, 0, none⟩ = some (.bool a0_0) := (blk_cell BK355.out 0).trans rfl
                      have hcz137_1 : w72.cell? ⟨gb355, 1, none⟩ = some (.slice A0_1 l0_1.length c0_1) := (blk_cell BK355.out 1).trans rfl
                      have hcz137_2 : w72.cell? ⟨gb355, 2, none⟩ = some (.int .i64 a0_2) := (blk_cell BK355.out 2).trans rfl
                      have hfz137_0 := blk_frozen BK355.out 0
                      have hfz137_1 := blk_frozen BK355.out 1
                      have hfz137_2 := blk_frozen BK355.out 2
                      go_wp2_with (first | ((with_reducible refine gate_callee (f := 21) rfl ?_); refine goesL_ (some 50) rfl rfl Tryd.func21 (by kernel_rfl) rfl #[.agg #[.bool a1_0, .slice A1_1 l1_1.length c1_1, .int .i64 a1_2], .agg #[.bool a0_0, .slice A0_1 l0_1.length c0_1, .int .i64 a0_2]] rfl (by (try simp only [List.map_toArray, List.map_cons, List.map_nil]); first | done | rfl | (simp only [List.length_drop, List.length_take]; rfl)) ?_; (with_reducible refine (num_Cmp.calls kj3 a1_0 _ _ l1_1 a1_2 a0_0 _ _ l0_1 a0_2 t366 _ ?side1 ?side2 ?side3 ?side4 A73.out).mono ?_); (case side1 => repeat (first | exact (Kd.C_below HR1_1.out HB.out) | (with_reducible refine Kd.C_alloc ?_ _) | (with_reducible refine Kd.C_drewN ?_ _) | (with_reducible refine Kd.C_drew ?_))); (case side2 => exact HC1_1.out); (case side3 => repeat (first | exact (Kd.C_below HR0_1.out HB.out) | (with_reducible refine Kd.C_alloc ?_ _) | (with_reducible refine Kd.C_drewN ?_ _) | (with_reducible refine Kd.C_drew ?_))); (case side4 => exact HC0_1.out); rintro e w138 ⟨rfl, hb⟩; refine ⟨_, rfl, ?_⟩; have n0_ := Aside0.mk (blk_below (g := gb355) (o := .cells #[.bool a0_0, .slice A0_1 l0_1.length c0_1, .int .i64 a0_2] 25 (0, 0)) (by (with_reducible repeat (first | refine blk_drewN ?_ _ | refine blk_drew ?_ | refine blk_alloc ?_ _)); exact BK355.out) hb); have n1_ := Aside0.mk (blk_below (g := gb356) (o := .cells #[.bool a1_0, .slice A1_1 l1_1.length c1_1, .int .i64 a1_2] 25 (0, 0)) (by (with_reducible repeat (first | refine blk_drewN ?_ _ | refine blk_drew ?_ | refine blk_alloc ?_ _)); exact BK356.out) hb); have n2_ := Aside0.mk (blk_below (g := gb357) (o := .cells #[.bool a2_0, .slice A2_1 l2_1.length c2_1, .int .i64 a2_2] 25 (0, 0)) (by (with_reducible repeat (first | refine blk_drewN ?_ _ | refine blk_drew ?_ | refine blk_alloc ?_ _)); exact BK357.out) hb); have n3_ := Aside0.mk (below_step (by repeat (first | (with_reducible first | exact HB.out | apply below_alloc | apply pw_below_drewN | apply below_drew1 | refine below_set ?_ GE355.out | refine below_set ?_ GE356.out | refine below_set ?_ GE357.out) | exact HB.out)) hb); clear BK355; clear BK356; clear BK357; clear HB; have BK355 := n0_; have BK356 := n1_; have BK357 := n2_; have HB := n3_; clear n0_ n1_ n2_ n3_; (try clear hb); (try clear hb2); (try clear hk); (try clear hi); have hcz139_0 : w138.cell? ⟨gb355, 0, none⟩ = some (.bool a0_0) := (blk_cell BK355.out 0).trans rfl; have hcz139_1 : w138.cell? ⟨gb355, 1, none⟩ = some (.slice A0_1 l0_1.length c0_1) := (blk_cell BK355.out 1).trans rfl; have hcz139_2 : w138.cell? ⟨gb355, 2, none⟩ = some (.int .i64 a0_2) := (blk_cell BK355.out 2).trans rfl; have hfz139_0 := blk_frozen BK355.out 0; have hfz139_1 := blk_frozen BK355.out 1; have hfz139_2 := blk_frozen BK355.out 2; have hcz140_0 : w138.cell? ⟨gb356, 0, none⟩ = some (.bool a1_0) := (blk_cell BK356.out 0).trans rfl; have hcz140_1 : w138.cell? ⟨gb356, 1, none⟩ = some (.slice A1_1 l1_1.length c1_1) := (blk_cell BK356.out 1).trans rfl; have hcz140_2 : w138.cell? ⟨gb356, 2, none⟩ = some (.int .i64 a1_2) := (blk_cell BK356.out 2).trans rfl; have hfz140_0 := blk_frozen BK356.out 0; have hfz140_1 := blk_frozen BK356.out 1; have hfz140_2 := blk_frozen BK356.out 2) | (go_at_call 22; (with_reducible refine (num_Same.calls kj3 a0_0 _ _ l0_1 a0_2 a1_0 _ _ l1_1 a1_2 t370 _ ?side1 ?side2 ?side3 ?side4 A132.out).mono ?_); (case side1 => repeat (first | exact (Kd.C_below HR0_1.out HB.out) | (with_reducible refine Kd.C_alloc ?_ _) | (with_reducible refine Kd.C_drewN ?_ _) | (with_reducible refine Kd.C_drew ?_))); (case side2 => exact HC0_1.out); (case side3 => repeat (first | exact (Kd.C_below HR1_1.out HB.out) | (with_reducible refine Kd.C_alloc ?_ _) | (with_reducible refine Kd.C_drewN ?_ _) | (with_reducible refine Kd.C_drew ?_))); (case side4 => exact HC1_1.out); rintro e w141 ⟨rfl, hb⟩; have n0_ := Aside0.mk (blk_below (g := gb355) (o := .cells #[.bool a0_0, .slice A0_1 l0_1.length c0_1, .int .i64 a0_2] 25 (0, 0)) (by (with_reducible repeat (first | refine blk_drewN ?_ _ | refine blk_drew ?_ | refine blk_alloc ?_ _)); exact BK355.out) hb); have n1_ := Aside0.mk (blk_below (g := gb356) (o := .cells #[.bool a1_0, .slice A1_1 l1_1.length c1_1, .int .i64 a1_2] 25 (0, 0)) (by (with_reducible repeat (first | refine blk_drewN ?_ _ | refine blk_drew ?_ | refine blk_alloc ?_ _)); exact BK356.out) hb); have n2_ := Aside0.mk (blk_below (g := gb357) (o := .cells #[.bool a2_0, .slice A2_1 l2_1.length c2_1, .int .i64 a2_2] 25 (0, 0)) (by (with_reducible repeat (first | refine blk_drewN ?_ _ | refine blk_drew ?_ | refine blk_alloc ?_ _)); exact BK357.out) hb); have n3_ := Aside0.mk (below_step (by repeat (first | (with_reducible first | exact HB.out | apply below_alloc | apply pw_below_drewN | apply below_drew1 | refine below_set ?_ GE355.out | refine below_set ?_ GE356.out | refine below_set ?_ GE357.out) | exact HB.out)) hb); clear BK355; clear BK356; clear BK357; clear HB; have BK355 := n0_; have BK356 := n1_; have BK357 := n2_; have HB := n3_; clear n0_ n1_ n2_ n3_; (try clear hb); (try clear hb2); (try clear hk); (try clear hi)))
                      go_meet
                      case rel => exact ⟨_, (((t363 == 0) != t370)), (by first | rfl | (simp; done) | (simp [*]; done)), H', ⟨by have := HJ3.out; first | omega | exact Nat.le_refl _⟩, ⟨by (with_reducible repeat (first | refine blk_drewN ?_ _ | refine blk_drew ?_ | refine blk_alloc ?_ _)); exact BK355.out⟩, ⟨by (with_reducible repeat (first | refine blk_drewN ?_ _ | refine blk_drew ?_ | refine blk_alloc ?_ _)); exact BK356.out⟩, ⟨by (with_reducible repeat (first | refine blk_drewN ?_ _ | refine blk_drew ?_ | refine blk_alloc ?_ _)); exact BK357.out⟩, ⟨by repeat (first | (with_reducible first | exact HB.out | apply below_alloc | apply pw_below_drewN | apply below_drew1 | refine below_set ?_ GE355.out | refine below_set ?_ GE356.out | refine below_set ?_ GE357.out) | exact HB.out)⟩⟩
                  · rw [if_neg c124] at H
                    have c124b0 : decide (0 ≤ t364) = false := decide_eq_false c124
                    clear c124
                    replace H := Option.bind_eq_some_iff.mp H
                    obtain ⟨t371, A1420, H⟩ := H
                    replace H : (erratumlaw02_NumOrders.j1 kj3 ((t363 == 0) != t371) a0_0 l0_1 a0_2) = some r := H
                    have A142 := Aside0.mk A1420
                    clear A1420
                    have H' := Aside0.mk H
                    clear H
                    have hnb143 := NB356_355.out
                    have hnc143 := NB355_356.out
                    have hnb144 := NB356_357.out
                    have hnc144 := NB357_356.out
                    have hcz145_0 : w72.cell? ⟨gb356, 0, none⟩ = some (.bool a1_0) := (blk_cell BK356.out 0).trans rfl
                    have hcz145_1 : w72.cell? ⟨gb356, 1, none⟩ = some (.slice A1_1 l1_1.length c1_1) := (blk_cell BK356.out 1).trans rfl
                    have hcz145_2 : w72.cell? ⟨gb356, 2, none⟩ = some (.int .i64 a1_2) := (blk_cell BK356.out 2).trans rfl
                    have hfz145_0 := blk_frozen BK356.out 0
                    have hfz145_1 := blk_frozen BK356.out 1
                    have hfz145_2 := blk_frozen BK356.out 2
                    have hnb146 := NB355_357.out
                    have hnc146 := NB357_355.out
                    have hcz147_0 : w72.cell? ⟨gb355, 0, none⟩ = some (.bool a0_0) := (blk_cell BK355.out 0).trans rfl
                    have hcz147_1 : w72.cell? ⟨gb355, 1, none⟩ = some (.slice A0_1 l0_1.length c0_1) := (blk_cell BK355.out 1).trans rfl
                    have hcz147_2 : w72.cell? ⟨gb355, 2, none⟩ = some (.int .i64 a0_2) := (blk_cell BK355.out 2).trans rfl
                    have hfz147_0 := blk_frozen BK355.out 0
                    have hfz147_1 := blk_frozen BK355.out 1
                    have hfz147_2 := blk_frozen BK355.out 2
                    go_wp2_with (first | ((with_reducible refine gate_callee (f := 21) rfl ?_); refine goesL_ (some 50) rfl rfl Tryd.func21 (by kernel_rfl) rfl #[.agg #[.bool a1_0, .slice A1_1 l1_1.length c1_1, .int .i64 a1_2], .agg #[.bool a0_0, .slice A0_1 l0_1.length c0_1, .int .i64 a0_2]] rfl (by (try simp only [List.map_toArray, List.map_cons, List.map_nil]); first | done | rfl | (simp only [List.length_drop, List.length_take]; rfl)) ?_; (with_reducible refine (num_Cmp.calls kj3 a1_0 _ _ l1_1 a1_2 a0_0 _ _ l0_1 a0_2 t366 _ ?side1 ?side2 ?side3 ?side4 A73.out).mono ?_); (case side1 => repeat (first | exact (Kd.C_below HR1_1.out HB.out) | (with_reducible refine Kd.C_alloc ?_ _) | (with_reducible refine Kd.C_drewN ?_ _) | (with_reducible refine Kd.C_drew ?_))); (case side2 => exact HC1_1.out); (case side3 => repeat (first | exact (Kd.C_below HR0_1.out HB.out) | (with_reducible refine Kd.C_alloc ?_ _) | (with_reducible refine Kd.C_drewN ?_ _) | (with_reducible refine Kd.C_drew ?_))); (case side4 => exact HC0_1.out); rintro e w148 ⟨rfl, hb⟩; refine ⟨_, rfl, ?_⟩; have n0_ := Aside0.mk (blk_below (g := gb355) (o := .cells #[.bool a0_0, .slice A0_1 l0_1.length c0_1, .int .i64 a0_2] 25 (0, 0)) (by (with_reducible repeat (first | refine blk_drewN ?_ _ | refine blk_drew ?_ | refine blk_alloc ?_ _)); exact BK355.out) hb); have n1_ := Aside0.mk (blk_below (g := gb356) (o := .cells #[.bool a1_0, .slice A1_1 l1_1.length c1_1, .int .i64 a1_2] 25 (0, 0)) (by (with_reducible repeat (first | refine blk_drewN ?_ _ | refine blk_drew ?_ | refine blk_alloc ?_ _)); exact BK356.out) hb); have n2_ := Aside0.mk (blk_below (g := gb357) (o := .cells #[.bool a2_0, .slice A2_1 l2_1.length c2_1, .int .i64 a2_2] 25 (0, 0)) (by (with_reducible repeat (first | refine blk_drewN ?_ _ | refine blk_drew ?_ | refine blk_alloc ?_ _)); exact BK357.out) hb); have n3_ := Aside0.mk (below_step (by repeat (first | (with_reducible first | exact HB.out | apply below_alloc | apply pw_below_drewN | apply below_drew1 | refine below_set ?_ GE355.out | refine below_set ?_ GE356.out | refine below_set ?_ GE357.out) | exact HB.out)) hb); clear BK355; clear BK356; clear BK357; clear HB; have BK355 := n0_; have BK356 := n1_; have BK357 := n2_; have HB := n3_; clear n0_ n1_ n2_ n3_; (try clear hb); (try clear hb2); (try clear hk); (try clear hi); have hcz149_0 : w148.cell? ⟨gb355, 0, none⟩ = some (.bool a0_0) := (blk_cell BK355.out 0).trans rfl; have hcz149_1 : w148.cell? ⟨gb355, 1, none⟩ = some (.slice A0_1 l0_1.length c0_1) := (blk_cell BK355.out 1).trans rfl; have hcz149_2 : w148.cell? ⟨gb355, 2, none⟩ = some (.int .i64 a0_2) := (blk_cell BK355.out 2).trans rfl; have hfz149_0 := blk_frozen BK355.out 0; have hfz149_1 := blk_frozen BK355.out 1; have hfz149_2 := blk_frozen BK355.out 2; have hcz150_0 : w148.cell? ⟨gb356, 0, none⟩ = some (.bool a1_0) := (blk_cell BK356.out 0).trans rfl; have hcz150_1 : w148.cell? ⟨gb356, 1, none⟩ = some (.slice A1_1 l1_1.length c1_1) := (blk_cell BK356.out 1).trans rfl; have hcz150_2 : w148.cell? ⟨gb356, 2, none⟩ = some (.int .i64 a1_2) := (blk_cell BK356.out 2).trans rfl; have hfz150_0 := blk_frozen BK356.out 0; have hfz150_1 := blk_frozen BK356.out 1; have hfz150_2 := blk_frozen BK356.out 2) | (go_at_call 22; (with_reducible refine (num_Same.calls kj3 a0_0 _ _ l0_1 a0_2 a1_0 _ _ l1_1 a1_2 t371 _ ?side1 ?side2 ?side3 ?side4 A142.out).mono ?_); (case side1 => repeat (first | exact (Kd.C_below HR0_1.out HB.out) | (with_reducible refine Kd.C_alloc ?_ _) | (with_reducible refine Kd.C_drewN ?_ _) | (with_reducible refine Kd.C_drew ?_))); (case side2 => exact HC0_1.out); (case side3 => repeat (first | exact (Kd.C_below HR1_1.out HB.out) | (with_reducible refine Kd.C_alloc ?_ _) | (with_reducible refine Kd.C_drewN ?_ _) | (with_reducible refine Kd.C_drew ?_))); (case side4 => exact HC1_1.out); rintro e w151 ⟨rfl, hb⟩; have n0_ := Aside0.mk (blk_below (g := gb355) (o := .cells #[.bool a0_0, .slice A0_1 l0_1.length c0_1, .int .i64 a0_2] 25 (0, 0)) (by (with_reducible repeat (first | refine blk_drewN ?_ _ | refine blk_drew ?_ | refine blk_alloc ?_ _)); exact BK355.out) hb); have n1_ := Aside0.mk (blk_below (g := gb356) (o := .cells #[.bool a1_0, .slice A1_1 l1_1.length c1_1, .int .i64 a1_2] 25 (0, 0)) (by (with_reducible repeat (first | refine blk_drewN ?_ _ | refine blk_drew ?_ | refine blk_alloc ?_ _)); exact BK356.out) hb); have n2_ := Aside0.mk (blk_below (g := gb357) (o := .cells #[.bool a2_0, .slice A2_1 l2_1.length c2_1, .int .i64 a2_2] 25 (0, 0)) (by (with_reducible repeat (first | refine blk_drewN ?_ _ | refine blk_drew ?_ | refine blk_alloc ?_ _)); exact BK357.out) hb); have n3_ := Aside0.mk (below_step (by repeat (first | (with_reducible first | exact HB.out | apply below_alloc | apply pw_below_drewN | apply below_drew1 | refine below_set ?_ GE355.out | refine below_set ?_ GE356.out | refine below_set ?_ GE357.out) | exact HB.out)) hb); clear BK355; clear BK356; clear BK357; clear HB; have BK355 := n0_; have BK356 := n1_; have BK357 := n2_; have HB := n3_; clear n0_ n1_ n2_ n3_; (try clear hb); (try clear hb2); (try clear hk); (try clear hi)))
                    go_meet
                    case rel => exact ⟨_, (((t363 == 0) != t371)), (by first | rfl | (simp; done) | (simp [*]; done)), H', ⟨by have := HJ3.out; first | omega | exact Nat.le_refl _⟩, ⟨by (with_reducible repeat (first | refine blk_drewN ?_ _ | refine blk_drew ?_ | refine blk_alloc ?_ _)); exact BK355.out⟩, ⟨by (with_reducible repeat (first | refine blk_drewN ?_ _ | refine blk_drew ?_ | refine blk_alloc ?_ _)); exact BK356.out⟩, ⟨by (with_reducible repeat (first | refine blk_drewN ?_ _ | refine blk_drew ?_ | refine blk_alloc ?_ _)); exact BK357.out⟩, ⟨by repeat (first | (with_reducible first | exact HB.out | apply below_alloc | apply pw_below_drewN | apply below_drew1 | refine below_set ?_ GE355.out | refine below_set ?_ GE356.out | refine below_set ?_ GE357.out) | exact HB.out)⟩⟩
                · rw [if_neg c123] at H
                  have c123b0 : decide (0 ≤ t363) = false := decide_eq_false c123
                  clear c123
                  replace H := Option.bind_eq_some_iff.mp H
                  obtain ⟨t372, A1520, H⟩ := H
                  replace H : (erratumlaw02_NumOrders.j1 kj3 ((t363 == 0) != t372) a0_0 l0_1 a0_2) = some r := H
                  have A152 := Aside0.mk A1520
                  clear A1520
                  have H' := Aside0.mk H
                  clear H
                  have hnb153 := NB356_355.out
                  have hnc153 := NB355_356.out
                  have hnb154 := NB356_357.out
                  have hnc154 := NB357_356.out
                  have hcz155_0 : w72.cell? ⟨gb356, 0, none⟩ = some (.bool a1_0) := (blk_cell BK356.out 0).trans rfl
                  have hcz155_1 : w72.cell? ⟨gb356, 1, none⟩ = some (.slice A1_1 l1_1.length c1_1) := (blk_cell BK356.out 1).trans rfl
                  have hcz155_2 : w72.cell? ⟨gb356, 2, none⟩ = some (.int .i64 a1_2) := (blk_cell BK356.out 2).trans rfl
                  have hfz155_0 := blk_frozen BK356.out 0
                  have hfz155_1 := blk_frozen BK356.out 1
                  have hfz155_2 := blk_frozen BK356.out 2
                  have hnb156 := NB355_357.out
                  have hnc156 := NB357_355.out
                  have hcz157_0 : w72.cell? ⟨gb355, 0, none⟩ = some (.bool a0_0) := (blk_cell BK355.out 0).trans rfl
                  have hcz157_1 : w72.cell? ⟨gb355, 1, none⟩ = some (.slice A0_1 l0_1.length c0_1) := (blk_cell BK355.out 1).trans rfl
                  have hcz157_2 : w72.cell? ⟨gb355, 2, none⟩ = some (.int .i64 a0_2) := (blk_cell BK355.out 2).trans rfl
                  have hfz157_0 := blk_frozen BK355.out 0
                  have hfz157_1 := blk_frozen BK355.out 1
                  have hfz157_2 := blk_frozen BK355.out 2
                  go_wp2_with (first | ((with_reducible refine gate_callee (f := 21) rfl ?_); refine goesL_ (some 50) rfl rfl Tryd.func21 (by kernel_rfl) rfl #[.agg #[.bool a1_0, .slice A1_1 l1_1.length c1_1, .int .i64 a1_2], .agg #[.bool a0_0, .slice A0_1 l0_1.length c0_1, .int .i64 a0_2]] rfl (by (try simp only [List.map_toArray, List.map_cons, List.map_nil]); first | done | rfl | (simp only [List.length_drop, List.length_take]; rfl)) ?_; (with_reducible refine (num_Cmp.calls kj3 a1_0 _ _ l1_1 a1_2 a0_0 _ _ l0_1 a0_2 t366 _ ?side1 ?side2 ?side3 ?side4 A73.out).mono ?_); (case side1 => repeat (first | exact (Kd.C_below HR1_1.out HB.out) | (with_reducible refine Kd.C_alloc ?_ _) | (with_reducible refine Kd.C_drewN ?_ _) | (with_reducible refine Kd.C_drew ?_))); (case side2 => exact HC1_1.out); (case side3 => repeat (first | exact (Kd.C_below HR0_1.out HB.out) | (with_reducible refine Kd.C_alloc ?_ _) | (with_reducible refine Kd.C_drewN ?_ _) | (with_reducible refine Kd.C_drew ?_))); (case side4 => exact HC0_1.out); rintro e w158 ⟨rfl, hb⟩; refine ⟨_, rfl, ?_⟩; have n0_ := Aside0.mk (blk_below (g := gb355) (o := .cells #[.bool a0_0, .slice A0_1 l0_1.length c0_1, .int .i64 a0_2] 25 (0, 0)) (by (with_reducible repeat (first | refine blk_drewN ?_ _ | refine blk_drew ?_ | refine blk_alloc ?_ _)); exact BK355.out) hb); have n1_ := Aside0.mk (blk_below (g := gb356) (o := .cells #[.bool a1_0, .slice A1_1 l1_1.length c1_1, .int .i64 a1_2] 25 (0, 0)) (by (with_reducible repeat (first | refine blk_drewN ?_ _ | refine blk_drew ?_ | refine blk_alloc ?_ _)); exact BK356.out) hb); have n2_ := Aside0.mk (blk_below (g := gb357) (o := .cells #[.bool a2_0, .slice A2_1 l2_1.length c2_1, .int .i64 a2_2] 25 (0, 0)) (by (with_reducible repeat (first | refine blk_drewN ?_ _ | refine blk_drew ?_ | refine blk_alloc ?_ _)); exact BK357.out) hb); have n3_ := Aside0.mk (below_step (by repeat (first | (with_reducible first | exact HB.out | apply below_alloc | apply pw_below_drewN | apply below_drew1 | refine below_set ?_ GE355.out | refine below_set ?_ GE356.out | refine below_set ?_ GE357.out) | exact HB.out)) hb); clear BK355; clear BK356; clear BK357; clear HB; have BK355 := n0_; have BK356 := n1_; have BK357 := n2_; have HB := n3_; clear n0_ n1_ n2_ n3_; (try clear hb); (try clear hb2); (try clear hk); (try clear hi); have hcz159_0 : w158.cell? ⟨gb355, 0, none⟩ = some (.bool a0_0) := (blk_cell BK355.out 0).trans rfl; have hcz159_1 : w158.cell? ⟨gb355, 1, none⟩ = some (.slice A0_1 l0_1.length c0_1) := (blk_cell BK355.out 1).trans rfl; have hcz159_2 : w158.cell? ⟨gb355, 2, none⟩ = some (.int .i64 a0_2) := (blk_cell BK355.out 2).trans rfl; have hfz159_0 := blk_frozen BK355.out 0; have hfz159_1 := blk_frozen BK355.out 1; have hfz159_2 := blk_frozen BK355.out 2; have hcz160_0 : w158.cell? ⟨gb356, 0, none⟩ = some (.bool a1_0) := (blk_cell BK356.out 0).trans rfl; have hcz160_1 : w158.cell? ⟨gb356, 1, none⟩ = some (.slice A1_1 l1_1.length c1_1) := (blk_cell BK356.out 1).trans rfl; have hcz160_2 : w158.cell? ⟨gb356, 2, none⟩ = some (.int .i64 a1_2) := (blk_cell BK356.out 2).trans rfl; have hfz160_0 := blk_frozen BK356.out 0; have hfz160_1 := blk_frozen BK356.out 1; have hfz160_2 := blk_frozen BK356.out 2) | (go_at_call 22; (with_reducible refine (num_Same.calls kj3 a0_0 _ _ l0_1 a0_2 a1_0 _ _ l1_1 a1_2 t372 _ ?side1 ?side2 ?side3 ?side4 A152.out).mono ?_); (case side1 => repeat (first | exact (Kd.C_below HR0_1.out HB.out) | (with_reducible refine Kd.C_alloc ?_ _) | (with_reducible refine Kd.C_drewN ?_ _) | (with_reducible refine Kd.C_drew ?_))); (case side2 => exact HC0_1.out); (case side3 => repeat (first | exact (Kd.C_below HR1_1.out HB.out) | (with_reducible refine Kd.C_alloc ?_ _) | (with_reducible refine Kd.C_drewN ?_ _) | (with_reducible refine Kd.C_drew ?_))); (case side4 => exact HC1_1.out); rintro e w161 ⟨rfl, hb⟩; have n0_ := Aside0.mk (blk_below (g := gb355) (o := .cells #[.bool a0_0, .slice A0_1 l0_1.length c0_1, .int .i64 a0_2] 25 (0, 0)) (by (with_reducible repeat (first | refine blk_drewN ?_ _ | refine blk_drew ?_ | refine blk_alloc ?_ _)); exact BK355.out) hb); have n1_ := Aside0.mk (blk_below (g := gb356) (o := .cells #[.bool a1_0, .slice A1_1 l1_1.length c1_1, .int .i64 a1_2] 25 (0, 0)) (by (with_reducible repeat (first | refine blk_drewN ?_ _ | refine blk_drew ?_ | refine blk_alloc ?_ _)); exact BK356.out) hb); have n2_ := Aside0.mk (blk_below (g := gb357) (o := .cells #[.bool a2_0, .slice A2_1 l2_1.length c2_1, .int .i64 a2_2] 25 (0, 0)) (by (with_reducible repeat (first | refine blk_drewN ?_ _ | refine blk_drew ?_ | refine blk_alloc ?_ _)); exact BK357.out) hb); have n3_ := Aside0.mk (below_step (by repeat (first | (with_reducible first | exact HB.out | apply below_alloc | apply pw_below_drewN | apply below_drew1 | refine below_set ?_ GE355.out | refine below_set ?_ GE356.out | refine below_set ?_ GE357.out) | exact HB.out)) hb); clear BK355; clear BK356; clear BK357; clear HB; have BK355 := n0_; have BK356 := n1_; have BK357 := n2_; have HB := n3_; clear n0_ n1_ n2_ n3_; (try clear hb); (try clear hb2); (try clear hk); (try clear hi)))
                  go_meet
                  case rel => exact ⟨_, (((t363 == 0) != t372)), (by first | rfl | (simp; done) | (simp [*]; done)), H', ⟨by have := HJ3.out; first | omega | exact Nat.le_refl _⟩, ⟨by (with_reducible repeat (first | refine blk_drewN ?_ _ | refine blk_drew ?_ | refine blk_alloc ?_ _)); exact BK355.out⟩, ⟨by (with_reducible repeat (first | refine blk_drewN ?_ _ | refine blk_drew ?_ | refine blk_alloc ?_ _)); exact BK356.out⟩, ⟨by (with_reducible repeat (first | refine blk_drewN ?_ _ | refine blk_drew ?_ | refine blk_alloc ?_ _)); exact BK357.out⟩, ⟨by repeat (first | (with_reducible first | exact HB.out | apply below_alloc | apply pw_below_drewN | apply below_drew1 | refine below_set ?_ GE355.out | refine below_set ?_ GE356.out | refine below_set ?_ GE357.out) | exact HB.out)⟩⟩
            · rw [if_neg c75] at H
              have c75b0 : decide (t363 ≤ 0) = false := decide_eq_false c75
              clear c75
              by_cases c162 : t363 ≥ 0
              · rw [if_pos c162] at H
                have c162b0 : decide (0 ≤ t363) = true := decide_eq_true c162
                clear c162
                by_cases c163 : t364 ≥ 0
                · rw [if_pos c163] at H
                  have c163b0 : decide (0 ≤ t364) = true := decide_eq_true c163
                  clear c163
                  by_cases c164 : t365 < 0
                  · rw [if_pos c164] at H
                    have c164b0 : decide (t365 < 0) = true := decide_eq_true c164
                    clear c164
                    have H' := Aside0.mk H
                    clear H
                    have hnb165 := NB356_355.out
                    have hnc165 := NB355_356.out
                    have hnb166 := NB356_357.out
                    have hnc166 := NB357_356.out
                    have hcz167_0 : w72.cell? ⟨gb356, 0, none⟩ = some (.bool a1_0) := (blk_cell BK356.out 0).trans rfl
                    have hcz167_1 : w72.cell? ⟨gb356, 1, none⟩ = some (.slice A1_1 l1_1.length c1_1) := (blk_cell BK356.out 1).trans rfl
                    have hcz167_2 : w72.cell? ⟨gb356, 2, none⟩ = some (.int .i64 a1_2) := (blk_cell BK356.out 2).trans rfl
                    have hfz167_0 := blk_frozen BK356.out 0
                    have hfz167_1 := blk_frozen BK356.out 1
                    have hfz167_2 := blk_frozen BK356.out 2
                    have hnb168 := NB355_357.out
                    have hnc168 := NB357_355.out
                    have hcz169_0 : w72.cell? ⟨gb355, 0, none⟩ = some (.bool a0_0) := (blk_cell BK355.out 0).trans rfl
                    have hcz169_1 : w72.cell? ⟨gb355, 1, none⟩ = some (.slice A0_1 l0_1.length c0_1) := (blk_cell BK355.out 1).trans rfl
                    have hcz169_2 : w72.cell? ⟨gb355, 2, none⟩ = some (.int .i64 a0_2) := (blk_cell BK355.out 2).trans rfl
                    have hfz169_0 := blk_frozen BK355.out 0
                    have hfz169_1 := blk_frozen BK355.out 1
                    have hfz169_2 := blk_frozen BK355.out 2
                    go_wp2_with (first | ((with_reducible refine gate_callee (f := 21) rfl ?_); refine goesL_ (some 50) rfl rfl Tryd.func21 (by kernel_rfl) rfl #[.agg #[.bool a1_0, .slice A1_1 l1_1.length c1_1, .int .i64 a1_2], .agg #[.bool a0_0, .slice A0_1 l0_1.length c0_1, .int .i64 a0_2]] rfl (by (try simp only [List.map_toArray, List.map_cons, List.map_nil]); first | done | rfl | (simp only [List.length_drop, List.length_take]; rfl)) ?_; (with_reducible refine (num_Cmp.calls kj3 a1_0 _ _ l1_1 a1_2 a0_0 _ _ l0_1 a0_2 t366 _ ?side1 ?side2 ?side3 ?side4 A73.out).mono ?_); (case side1 => repeat (first | exact (Kd.C_below HR1_1.out HB.out) | (with_reducible refine Kd.C_alloc ?_ _) | (with_reducible refine Kd.C_drewN ?_ _) | (with_reducible refine Kd.C_drew ?_))); (case side2 => exact HC1_1.out); (case side3 => repeat (first | exact (Kd.C_below HR0_1.out HB.out) | (with_reducible refine Kd.C_alloc ?_ _) | (with_reducible refine Kd.C_drewN ?_ _) | (with_reducible refine Kd.C_drew ?_))); (case side4 => exact HC0_1.out); rintro e w170 ⟨rfl, hb⟩; refine ⟨_, rfl, ?_⟩; have n0_ := Aside0.mk (blk_below (g := gb355) (o := .cells #[.bool a0_0, .slice A0_1 l0_1.length c0_1, .int .i64 a0_2] 25 (0, 0)) (by (with_reducible repeat (first | refine blk_drewN ?_ _ | refine blk_drew ?_ | refine blk_alloc ?_ _)); exact BK355.out) hb); have n1_ := Aside0.mk (blk_below (g := gb356) (o := .cells #[.bool a1_0, .slice A1_1 l1_1.length c1_1, .int .i64 a1_2] 25 (0, 0)) (by (with_reducible repeat (first | refine blk_drewN ?_ _ | refine blk_drew ?_ | refine blk_alloc ?_ _)); exact BK356.out) hb); have n2_ := Aside0.mk (blk_below (g := gb357) (o := .cells #[.bool a2_0, .slice A2_1 l2_1.length c2_1, .int .i64 a2_2] 25 (0, 0)) (by (with_reducible repeat (first | refine blk_drewN ?_ _ | refine blk_drew ?_ | refine blk_alloc ?_ _)); exact BK357.out) hb); have n3_ := Aside0.mk (below_step (by repeat (first | (with_reducible first | exact HB.out | apply below_alloc | apply pw_below_drewN | apply below_drew1 | refine below_set ?_ GE355.out | refine below_set ?_ GE356.out | refine below_set ?_ GE357.out) | exact HB.out)) hb); clear BK355; clear BK356; clear BK357; clear HB; have BK355 := n0_; have BK356 := n1_; have BK357 := n2_; have HB := n3_; clear n0_ n1_ n2_ n3_; (try clear hb); (try clear hb2); (try clear hk); (try clear hi)))
                    go_meet
                    case rel => exact ⟨_, (true), (by first | rfl | (simp; done) | (simp [*]; done)), H', ⟨by have := HJ3.out; first | omega | exact Nat.le_refl _⟩, ⟨by (with_reducible repeat (first | refine blk_drewN ?_ _ | refine blk_drew ?_ | refine blk_alloc ?_ _)); exact BK355.out⟩, ⟨by (with_reducible repeat (first | refine blk_drewN ?_ _ | refine blk_drew ?_ | refine blk_alloc ?_ _)); exact BK356.out⟩, ⟨by (with_reducible repeat (first | refine blk_drewN ?_ _ | refine blk_drew ?_ | refine blk_alloc ?_ _)); exact BK357.out⟩, ⟨by repeat (first | (with_reducible first | exact HB.out | apply below_alloc | apply pw_below_drewN | apply below_drew1 | refine below_set ?_ GE355.out | refine below_set ?_ GE356.out | refine below_set ?_ GE357.out) | exact HB.out)⟩⟩
                  · rw [if_neg c164] at H
                    have c164b0 : decide (t365 < 0) = false := decide_eq_false c164
                    clear c164
                    replace H := Option.bind_eq_some_iff.mp H
                    obtain ⟨t373, A1710, H⟩ := H
                    replace H : (erratumlaw02_NumOrders.j1 kj3 ((t363 == 0) != t373) a0_0 l0_1 a0_2) = some r := H
                    have A171 := Aside0.mk A1710
                    clear A1710
                    have H' := Aside0.mk H
                    clear H
                    have hnb172 := NB356_355.out
                    have hnc172 := NB355_356.out
                    have hnb173 := NB356_357.out
                    have hnc173 := NB357_356.out
                    have hcz174_0 : w72.cell? ⟨gb356, 0, none⟩ = some (.bool a1_0) := (blk_cell BK356.out 0).trans rfl
                    have hcz174_1 : w72.cell? ⟨gb356, 1, none⟩ = some (.slice A1_1 l1_1.length c1_1) := (blk_cell BK356.out 1).trans rfl
                    have hcz174_2 : w72.cell? ⟨gb356, 2, none⟩ = some (.int .i64 a1_2) := (blk_cell BK356.out 2).trans rfl
                    have hfz174_0 := blk_frozen BK356.out 0
                    have hfz174_1 := blk_frozen BK356.out 1
                    have hfz174_2 := blk_frozen BK356.out 2
                    have hnb175 := NB355_357.out
                    have hnc175 := NB357_355.out
                    have hcz176_0 : w72.cell? ⟨gb355, 0, none⟩ = some (.bool a0_0) := (blk_cell BK355.out 0).trans rfl
                    have hcz176_1 : w72.cell? ⟨gb355, 1, none⟩ = some (.slice A0_1 l0_1.length c0_1) := (blk_cell BK355.out 1).trans rfl
                    have hcz176_2 : w72.cell? ⟨gb355, 2, none⟩ = some (.int .i64 a0_2) := (blk_cell BK355.out 2).trans rfl
                    have hfz176_0 := blk_frozen BK355.out 0
                    have hfz176_1 := blk_frozen BK355.out 1
                    have hfz176_2 := blk_frozen BK355.out 2
                    go_wp2_with (first | ((with_reducible refine gate_callee (f := 21) rfl ?_); refine goesL_ (some 50) rfl rfl Tryd.func21 (by kernel_rfl) rfl #[.agg #[.bool a1_0, .slice A1_1 l1_1.length c1_1, .int .i64 a1_2], .agg #[.bool a0_0, .slice A0_1 l0_1.length c0_1, .int .i64 a0_2]] rfl (by (try simp only [List.map_toArray, List.map_cons, List.map_nil]); first | done | rfl | (simp only [List.length_drop, List.length_take]; rfl)) ?_; (with_reducible refine (num_Cmp.calls kj3 a1_0 _ _ l1_1 a1_2 a0_0 _ _ l0_1 a0_2 t366 _ ?side1 ?side2 ?side3 ?side4 A73.out).mono ?_); (case side1 => repeat (first | exact (Kd.C_below HR1_1.out HB.out) | (with_reducible refine Kd.C_alloc ?_ _) | (with_reducible refine Kd.C_drewN ?_ _) | (with_reducible refine Kd.C_drew ?_))); (case side2 => exact HC1_1.out); (case side3 => repeat (first | exact (Kd.C_below HR0_1.out HB.out) | (with_reducible refine Kd.C_alloc ?_ _) | (with_reducible refine Kd.C_drewN ?_ _) | (with_reducible refine Kd.C_drew ?_))); (case side4 => exact HC0_1.out); rintro e w177 ⟨rfl, hb⟩; refine ⟨_, rfl, ?_⟩; have n0_ := Aside0.mk (blk_below (g := gb355) (o := .cells #[.bool a0_0, .slice A0_1 l0_1.length c0_1, .int .i64 a0_2] 25 (0, 0)) (by (with_reducible repeat (first | refine blk_drewN ?_ _ | refine blk_drew ?_ | refine blk_alloc ?_ _)); exact BK355.out) hb); have n1_ := Aside0.mk (blk_below (g := gb356) (o := .cells #[.bool a1_0, .slice A1_1 l1_1.length c1_1, .int .i64 a1_2] 25 (0, 0)) (by (with_reducible repeat (first | refine blk_drewN ?_ _ | refine blk_drew ?_ | refine blk_alloc ?_ _)); exact BK356.out) hb); have n2_ := Aside0.mk (blk_below (g := gb357) (o := .cells #[.bool a2_0, .slice A2_1 l2_1.length c2_1, .int .i64 a2_2] 25 (0, 0)) (by (with_reducible repeat (first | refine blk_drewN ?_ _ | refine blk_drew ?_ | refine blk_alloc ?_ _)); exact BK357.out) hb); have n3_ := Aside0.mk (below_step (by repeat (first | (with_reducible first | exact HB.out | apply below_alloc | apply pw_below_drewN | apply below_drew1 | refine below_set ?_ GE355.out | refine below_set ?_ GE356.out | refine below_set ?_ GE357.out) | exact HB.out)) hb); clear BK355; clear BK356; clear BK357; clear HB; have BK355 := n0_; have BK356 := n1_; have BK357 := n2_; have HB := n3_; clear n0_ n1_ n2_ n3_; (try clear hb); (try clear hb2); (try clear hk); (try clear hi); have hcz178_0 : w177.cell? ⟨gb355, 0, none⟩ = some (.bool a0_0) := (blk_cell BK355.out 0).trans rfl; have hcz178_1 : w177.cell? ⟨gb355, 1, none⟩ = some (.slice A0_1 l0_1.length c0_1) := (blk_cell BK355.out 1).trans rfl; have hcz178_2 : w177.cell? ⟨gb355, 2, none⟩ = some (.int .i64 a0_2) := (blk_cell BK355.out 2).trans rfl; have hfz178_0 := blk_frozen BK355.out 0; have hfz178_1 := blk_frozen BK355.out 1; have hfz178_2 := blk_frozen BK355.out 2; have hcz179_0 : w177.cell? ⟨gb356, 0, none⟩ = some (.bool a1_0) := (blk_cell BK356.out 0).trans rfl; have hcz179_1 : w177.cell? ⟨gb356, 1, none⟩ = some (.slice A1_1 l1_1.length c1_1) := (blk_cell BK356.out 1).trans rfl; have hcz179_2 : w177.cell? ⟨gb356, 2, none⟩ = some (.int .i64 a1_2) := (blk_cell BK356.out 2).trans rfl; have hfz179_0 := blk_frozen BK356.out 0; have hfz179_1 := blk_frozen BK356.out 1; have hfz179_2 := blk_frozen BK356.out 2) | (go_at_call 22; (with_reducible refine (num_Same.calls kj3 a0_0 _ _ l0_1 a0_2 a1_0 _ _ l1_1 a1_2 t373 _ ?side1 ?side2 ?side3 ?side4 A171.out).mono ?_); (case side1 => repeat (first | exact (Kd.C_below HR0_1.out HB.out) | (with_reducible refine Kd.C_alloc ?_ _) | (with_reducible refine Kd.C_drewN ?_ _) | (with_reducible refine Kd.C_drew ?_))); (case side2 => exact HC0_1.out); (case side3 => repeat (first | exact (Kd.C_below HR1_1.out HB.out) | (with_reducible refine Kd.C_alloc ?_ _) | (with_reducible refine Kd.C_drewN ?_ _) | (with_reducible refine Kd.C_drew ?_))); (case side4 => exact HC1_1.out); rintro e w180 ⟨rfl, hb⟩; have n0_ := Aside0.mk (blk_below (g := gb355) (o := .cells #[.bool a0_0, .slice A0_1 l0_1.length c0_1, .int .i64 a0_2] 25 (0, 0)) (by (with_reducible repeat (first | refine blk_drewN ?_ _ | refine blk_drew ?_ | refine blk_alloc ?_ _)); exact BK355.out) hb); have n1_ := Aside0.mk (blk_below (g := gb356) (o := .cells #[.bool a1_0, .slice A1_1 l1_1.length c1_1, .int .i64 a1_2] 25 (0, 0)) (by (with_reducible repeat (first | refine blk_drewN ?_ _ | refine blk_drew ?_ | refine blk_alloc ?_ _)); exact BK356.out) hb); have n2_ := Aside0.mk (blk_below (g := gb357) (o := .cells #[.bool a2_0, .slice A2_1 l2_1.length c2_1, .int .i64 a2_2] 25 (0, 0)) (by (with_reducible repeat (first | refine blk_drewN ?_ _ | refine blk_drew ?_ | refine blk_alloc ?_ _)); exact BK357.out) hb); have n3_ := Aside0.mk (below_step (by repeat (first | (with_reducible first | exact HB.out | apply below_alloc | apply pw_below_drewN | apply below_drew1 | refine below_set ?_ GE355.out | refine below_set ?_ GE356.out | refine below_set ?_ GE357.out) | exact HB.out)) hb); clear BK355; clear BK356; clear BK357; clear HB; have BK355 := n0_; have BK356 := n1_; have BK357 := n2_; have HB := n3_; clear n0_ n1_ n2_ n3_; (try clear hb); (try clear hb2); (try clear hk); (try clear hi)))
                    go_meet
                    case rel => exact ⟨_, (((t363 == 0) != t373)), (by first | rfl | (simp; done) | (simp [*]; done)), H', ⟨by have := HJ3.out; first | omega | exact Nat.le_refl _⟩, ⟨by (with_reducible repeat (first | refine blk_drewN ?_ _ | refine blk_drew ?_ | refine blk_alloc ?_ _)); exact BK355.out⟩, ⟨by (with_reducible repeat (first | refine blk_drewN ?_ _ | refine blk_drew ?_ | refine blk_alloc ?_ _)); exact BK356.out⟩, ⟨by (with_reducible repeat (first | refine blk_drewN ?_ _ | refine blk_drew ?_ | refine blk_alloc ?_ _)); exact BK357.out⟩, ⟨by repeat (first | (with_reducible first | exact HB.out | apply below_alloc | apply pw_below_drewN | apply below_drew1 | refine below_set ?_ GE355.out | refine below_set ?_ GE356.out | refine below_set ?_ GE357.out) | exact HB.out)⟩⟩
                · rw [if_neg c163] at H
                  have c163b0 : decide (0 ≤ t364) = false := decide_eq_false c163
                  clear c163
                  replace H := Option.bind_eq_some_iff.mp H
                  obtain ⟨t374, A1810, H⟩ := H
                  replace H : (erratumlaw02_NumOrders.j1 kj3 ((t363 == 0) != t374) a0_0 l0_1 a0_2) = some r := H
                  have A181 := Aside0.mk A1810
                  clear A1810
                  have H' := Aside0.mk H
                  clear H
                  have hnb182 := NB356_355.out
                  have hnc182 := NB355_356.out
                  have hnb183 := NB356_357.out
                  have hnc183 := NB357_356.out
                  have hcz184_0 : w72.cell? ⟨gb356, 0, none⟩ = some (.bool a1_0) := (blk_cell BK356.out 0).trans rfl
                  have hcz184_1 : w72.cell? ⟨gb356, 1, none⟩ = some (.slice A1_1 l1_1.length c1_1) := (blk_cell BK356.out 1).trans rfl
                  have hcz184_2 : w72.cell? ⟨gb356, 2, none⟩ = some (.int .i64 a1_2) := (blk_cell BK356.out 2).trans rfl
                  have hfz184_0 := blk_frozen BK356.out 0
                  have hfz184_1 := blk_frozen BK356.out 1
                  have hfz184_2 := blk_frozen BK356.out 2
                  have hnb185 := NB355_357.out
                  have hnc185 := NB357_355.out
                  have hcz186_0 : w72.cell? ⟨gb355, 0, none⟩ = some (.bool a0_0) := (blk_cell BK355.out 0).trans rfl
                  have hcz186_1 : w72.cell? ⟨gb355, 1, none⟩ = some (.slice A0_1 l0_1.length c0_1) := (blk_cell BK355.out 1).trans rfl
                  have hcz186_2 : w72.cell? ⟨gb355, 2, none⟩ = some (.int .i64 a0_2) := (blk_cell BK355.out 2).trans rfl
                  have hfz186_0 := blk_frozen BK355.out 0
                  have hfz186_1 := blk_frozen BK355.out 1
                  have hfz186_2 := blk_frozen BK355.out 2
                  go_wp2_with (first | ((with_reducible refine gate_callee (f := 21) rfl ?_); refine goesL_ (some 50) rfl rfl Tryd.func21 (by kernel_rfl) rfl #[.agg #[.bool a1_0, .slice A1_1 l1_1.length c1_1, .int .i64 a1_2], .agg #[.bool a0_0, .slice A0_1 l0_1.length c0_1, .int .i64 a0_2]] rfl (by (try simp only [List.map_toArray, List.map_cons, List.map_nil]); first | done | rfl | (simp only [List.length_drop, List.length_take]; rfl)) ?_; (with_reducible refine (num_Cmp.calls kj3 a1_0 _ _ l1_1 a1_2 a0_0 _ _ l0_1 a0_2 t366 _ ?side1 ?side2 ?side3 ?side4 A73.out).mono ?_); (case side1 => repeat (first | exact (Kd.C_below HR1_1.out HB.out) | (with_reducible refine Kd.C_alloc ?_ _) | (with_reducible refine Kd.C_drewN ?_ _) | (with_reducible refine Kd.C_drew ?_))); (case side2 => exact HC1_1.out); (case side3 => repeat (first | exact (Kd.C_below HR0_1.out HB.out) | (with_reducible refine Kd.C_alloc ?_ _) | (with_reducible refine Kd.C_drewN ?_ _) | (with_reducible refine Kd.C_drew ?_))); (case side4 => exact HC0_1.out); rintro e w187 ⟨rfl, hb⟩; refine ⟨_, rfl, ?_⟩; have n0_ := Aside0.mk (blk_below (g := gb355) (o := .cells #[.bool a0_0, .slice A0_1 l0_1.length c0_1, .int .i64 a0_2] 25 (0, 0)) (by (with_reducible repeat (first | refine blk_drewN ?_ _ | refine blk_drew ?_ | refine blk_alloc ?_ _)); exact BK355.out) hb); have n1_ := Aside0.mk (blk_below (g := gb356) (o := .cells #[.bool a1_0, .slice A1_1 l1_1.length c1_1, .int .i64 a1_2] 25 (0, 0)) (by (with_reducible repeat (first | refine blk_drewN ?_ _ | refine blk_drew ?_ | refine blk_alloc ?_ _)); exact BK356.out) hb); have n2_ := Aside0.mk (blk_below (g := gb357) (o := .cells #[.bool a2_0, .slice A2_1 l2_1.length c2_1, .int .i64 a2_2] 25 (0, 0)) (by (with_reducible repeat (first | refine blk_drewN ?_ _ | refine blk_drew ?_ | refine blk_alloc ?_ _)); exact BK357.out) hb); have n3_ := Aside0.mk (below_step (by repeat (first | (with_reducible first | exact HB.out | apply below_alloc | apply pw_below_drewN | apply below_drew1 | refine below_set ?_ GE355.out | refine below_set ?_ GE356.out | refine below_set ?_ GE357.out) | exact HB.out)) hb); clear BK355; clear BK356; clear BK357; clear HB; have BK355 := n0_; have BK356 := n1_; have BK357 := n2_; have HB := n3_; clear n0_ n1_ n2_ n3_; (try clear hb); (try clear hb2); (try clear hk); (try clear hi); have hcz188_0 : w187.cell? ⟨gb355, 0, none⟩ = some (.bool a0_0) := (blk_cell BK355.out 0).trans rfl; have hcz188_1 : w187.cell? ⟨gb355, 1, none⟩ = some (.slice A0_1 l0_1.length c0_1) := (blk_cell BK355.out 1).trans rfl; have hcz188_2 : w187.cell? ⟨gb355, 2, none⟩ = some (.int .i64 a0_2) := (blk_cell BK355.out 2).trans rfl; have hfz188_0 := blk_frozen BK355.out 0; have hfz188_1 := blk_frozen BK355.out 1; have hfz188_2 := blk_frozen BK355.out 2; have hcz189_0 : w187.cell? ⟨gb356, 0, none⟩ = some (.bool a1_0) := (blk_cell BK356.out 0).trans rfl; have hcz189_1 : w187.cell? ⟨gb356, 1, none⟩ = some (.slice A1_1 l1_1.length c1_1) := (blk_cell BK356.out 1).trans rfl; have hcz189_2 : w187.cell? ⟨gb356, 2, none⟩ = some (.int .i64 a1_2) := (blk_cell BK356.out 2).trans rfl; have hfz189_0 := blk_frozen BK356.out 0; have hfz189_1 := blk_frozen BK356.out 1; have hfz189_2 := blk_frozen BK356.out 2) | (go_at_call 22; (with_reducible refine (num_Same.calls kj3 a0_0 _ _ l0_1 a0_2 a1_0 _ _ l1_1 a1_2 t374 _ ?side1 ?side2 ?side3 ?side4 A181.out).mono ?_); (case side1 => repeat (first | exact (Kd.C_below HR0_1.out HB.out) | (with_reducible refine Kd.C_alloc ?_ _) | (with_reducible refine Kd.C_drewN ?_ _) | (with_reducible refine Kd.C_drew ?_))); (case side2 => exact HC0_1.out); (case side3 => repeat (first | exact (Kd.C_below HR1_1.out HB.out) | (with_reducible refine Kd.C_alloc ?_ _) | (with_reducible refine Kd.C_drewN ?_ _) | (with_reducible refine Kd.C_drew ?_))); (case side4 => exact HC1_1.out); rintro e w190 ⟨rfl, hb⟩; have n0_ := Aside0.mk (blk_below (g := gb355) (o := .cells #[.bool a0_0, .slice A0_1 l0_1.length c0_1, .int .i64 a0_2] 25 (0, 0)) (by (with_reducible repeat (first | refine blk_drewN ?_ _ | refine blk_drew ?_ | refine blk_alloc ?_ _)); exact BK355.out) hb); have n1_ := Aside0.mk (blk_below (g := gb356) (o := .cells #[.bool a1_0, .slice A1_1 l1_1.length c1_1, .int .i64 a1_2] 25 (0, 0)) (by (with_reducible repeat (first | refine blk_drewN ?_ _ | refine blk_drew ?_ | refine blk_alloc ?_ _)); exact BK356.out) hb); have n2_ := Aside0.mk (blk_below (g := gb357) (o := .cells #[.bool a2_0, .slice A2_1 l2_1.length c2_1, .int .i64 a2_2] 25 (0, 0)) (by (with_reducible repeat (first | refine blk_drewN ?_ _ | refine blk_drew ?_ | refine blk_alloc ?_ _)); exact BK357.out) hb); have n3_ := Aside0.mk (below_step (by repeat (first | (with_reducible first | exact HB.out | apply below_alloc | apply pw_below_drewN | apply below_drew1 | refine below_set ?_ GE355.out | refine below_set ?_ GE356.out | refine below_set ?_ GE357.out) | exact HB.out)) hb); clear BK355; clear BK356; clear BK357; clear HB; have BK355 := n0_; have BK356 := n1_; have BK357 := n2_; have HB := n3_; clear n0_ n1_ n2_ n3_; (try clear hb); (try clear hb2); (try clear hk); (try clear hi)))
                  go_meet
                  case rel => exact ⟨_, (((t363 == 0) != t374)), (by first | rfl | (simp; done) | (simp [*]; done)), H', ⟨by have := HJ3.out; first | omega | exact Nat.le_refl _⟩, ⟨by (with_reducible repeat (first | refine blk_drewN ?_ _ | refine blk_drew ?_ | refine blk_alloc ?_ _)); exact BK355.out⟩, ⟨by (with_reducible repeat (first | refine blk_drewN ?_ _ | refine blk_drew ?_ | refine blk_alloc ?_ _)); exact BK356.out⟩, ⟨by (with_reducible repeat (first | refine blk_drewN ?_ _ | refine blk_drew ?_ | refine blk_alloc ?_ _)); exact BK357.out⟩, ⟨by repeat (first | (with_reducible first | exact HB.out | apply below_alloc | apply pw_below_drewN | apply below_drew1 | refine below_set ?_ GE355.out | refine below_set ?_ GE356.out | refine below_set ?_ GE357.out) | exact HB.out)⟩⟩
              · rw [if_neg c162] at H
                have c162b0 : decide (0 ≤ t363) = false := decide_eq_false c162
                clear c162
                replace H := Option.bind_eq_some_iff.mp H
                obtain ⟨t375, A1910, H⟩ := H
                replace H : (erratumlaw02_NumOrders.j1 kj3 ((t363 == 0) != t375) a0_0 l0_1 a0_2) = some r := H
                have A191 := Aside0.mk A1910
                clear A1910
                have H' := Aside0.mk H
                clear H
                have hnb192 := NB356_355.out
                have hnc192 := NB355_356.out
                have hnb193 := NB356_357.out
                have hnc193 := NB357_356.out
                have hcz194_0 : w72.cell? ⟨gb356, 0, none⟩ = some (.bool a1_0) := (blk_cell BK356.out 0).trans rfl
                have hcz194_1 : w72.cell? ⟨gb356, 1, none⟩ = some (.slice A1_1 l1_1.length c1_1) := (blk_cell BK356.out 1).trans rfl
                have hcz194_2 : w72.cell? ⟨gb356, 2, none⟩ = some (.int .i64 a1_2) := (blk_cell BK356.out 2).trans rfl
                have hfz194_0 := blk_frozen BK356.out 0
                have hfz194_1 := blk_frozen BK356.out 1
                have hfz194_2 := blk_frozen BK356.out 2
                have hnb195 := NB355_357.out
                have hnc195 := NB357_355.out
                have hcz196_0 : w72.cell? ⟨gb355, 0, none⟩ = some (.bool a0_0) := (blk_cell BK355.out 0).trans rfl
                have hcz196_1 : w72.cell? ⟨gb355, 1, none⟩ = some (.slice A0_1 l0_1.length c0_1) := (blk_cell BK355.out 1).trans rfl
                have hcz196_2 : w72.cell? ⟨gb355, 2, none⟩ = some (.int .i64 a0_2) := (blk_cell BK355.out 2).trans rfl
                have hfz196_0 := blk_frozen BK355.out 0
                have hfz196_1 := blk_frozen BK355.out 1
                have hfz196_2 := blk_frozen BK355.out 2
                go_wp2_with (first | ((with_reducible refine gate_callee (f := 21) rfl ?_); refine goesL_ (some 50) rfl rfl Tryd.func21 (by kernel_rfl) rfl #[.agg #[.bool a1_0, .slice A1_1 l1_1.length c1_1, .int .i64 a1_2], .agg #[.bool a0_0, .slice A0_1 l0_1.length c0_1, .int .i64 a0_2]] rfl (by (try simp only [List.map_toArray, List.map_cons, List.map_nil]); first | done | rfl | (simp only [List.length_drop, List.length_take]; rfl)) ?_; (with_reducible refine (num_Cmp.calls kj3 a1_0 _ _ l1_1 a1_2 a0_0 _ _ l0_1 a0_2 t366 _ ?side1 ?side2 ?side3 ?side4 A73.out).mono ?_); (case side1 => repeat (first | exact (Kd.C_below HR1_1.out HB.out) | (with_reducible refine Kd.C_alloc ?_ _) | (with_reducible refine Kd.C_drewN ?_ _) | (with_reducible refine Kd.C_drew ?_))); (case side2 => exact HC1_1.out); (case side3 => repeat (first | exact (Kd.C_below HR0_1.out HB.out) | (with_reducible refine Kd.C_alloc ?_ _) | (with_reducible refine Kd.C_drewN ?_ _) | (with_reducible refine Kd.C_drew ?_))); (case side4 => exact HC0_1.out); rintro e w197 ⟨rfl, hb⟩; refine ⟨_, rfl, ?_⟩; have n0_ := Aside0.mk (blk_below (g := gb355) (o := .cells #[.bool a0_0, .slice A0_1 l0_1.length c0_1, .int .i64 a0_2] 25 (0, 0)) (by (with_reducible repeat (first | refine blk_drewN ?_ _ | refine blk_drew ?_ | refine blk_alloc ?_ _)); exact BK355.out) hb); have n1_ := Aside0.mk (blk_below (g := gb356) (o := .cells #[.bool a1_0, .slice A1_1 l1_1.length c1_1, .int .i64 a1_2] 25 (0, 0)) (by (with_reducible repeat (first | refine blk_drewN ?_ _ | refine blk_drew ?_ | refine blk_alloc ?_ _)); exact BK356.out) hb); have n2_ := Aside0.mk (blk_below (g := gb357) (o := .cells #[.bool a2_0, .slice A2_1 l2_1.length c2_1, .int .i64 a2_2] 25 (0, 0)) (by (with_reducible repeat (first | refine blk_drewN ?_ _ | refine blk_drew ?_ | refine blk_alloc ?_ _)); exact BK357.out) hb); have n3_ := Aside0.mk (below_step (by repeat (first | (with_reducible first | exact HB.out | apply below_alloc | apply pw_below_drewN | apply below_drew1 | refine below_set ?_ GE355.out | refine below_set ?_ GE356.out | refine below_set ?_ GE357.out) | exact HB.out)) hb); clear BK355; clear BK356; clear BK357; clear HB; have BK355 := n0_; have BK356 := n1_; have BK357 := n2_; have HB := n3_; clear n0_ n1_ n2_ n3_; (try clear hb); (try clear hb2); (try clear hk); (try clear hi); have hcz198_0 : w197.cell? ⟨gb355, 0, none⟩ = some (.bool a0_0) := (blk_cell BK355.out 0).trans rfl; have hcz198_1 : w197.cell? ⟨gb355, 1, none⟩ = some (.slice A0_1 l0_1.length c0_1) := (blk_cell BK355.out 1).trans rfl; have hcz198_2 : w197.cell? ⟨gb355, 2, none⟩ = some (.int .i64 a0_2) := (blk_cell BK355.out 2).trans rfl; have hfz198_0 := blk_frozen BK355.out 0; have hfz198_1 := blk_frozen BK355.out 1; have hfz198_2 := blk_frozen BK355.out 2; have hcz199_0 : w197.cell? ⟨gb356, 0, none⟩ = some (.bool a1_0) := (blk_cell BK356.out 0).trans rfl; have hcz199_1 : w197.cell? ⟨gb356, 1, none⟩ = some (.slice A1_1 l1_1.length c1_1) := (blk_cell BK356.out 1).trans rfl; have hcz199_2 : w197.cell? ⟨gb356, 2, none⟩ = some (.int .i64 a1_2) := (blk_cell BK356.out 2).trans rfl; have hfz199_0 := blk_frozen BK356.out 0; have hfz199_1 := blk_frozen BK356.out 1; have hfz199_2 := blk_frozen BK356.out 2) | (go_at_call 22; (with_reducible refine (num_Same.calls kj3 a0_0 _ _ l0_1 a0_2 a1_0 _ _ l1_1 a1_2 t375 _ ?side1 ?side2 ?side3 ?side4 A191.out).mono ?_); (case side1 => repeat (first | exact (Kd.C_below HR0_1.out HB.out) | (with_reducible refine Kd.C_alloc ?_ _) | (with_reducible refine Kd.C_drewN ?_ _) | (with_reducible refine Kd.C_drew ?_))); (case side2 => exact HC0_1.out); (case side3 => repeat (first | exact (Kd.C_below HR1_1.out HB.out) | (with_reducible refine Kd.C_alloc ?_ _) | (with_reducible refine Kd.C_drewN ?_ _) | (with_reducible refine Kd.C_drew ?_))); (case side4 => exact HC1_1.out); rintro e w200 ⟨rfl, hb⟩; have n0_ := Aside0.mk (blk_below (g := gb355) (o := .cells #[.bool a0_0, .slice A0_1 l0_1.length c0_1, .int .i64 a0_2] 25 (0, 0)) (by (with_reducible repeat (first | refine blk_drewN ?_ _ | refine blk_drew ?_ | refine blk_alloc ?_ _)); exact BK355.out) hb); have n1_ := Aside0.mk (blk_below (g := gb356) (o := .cells #[.bool a1_0, .slice A1_1 l1_1.length c1_1, .int .i64 a1_2] 25 (0, 0)) (by (with_reducible repeat (first | refine blk_drewN ?_ _ | refine blk_drew ?_ | refine blk_alloc ?_ _)); exact BK356.out) hb); have n2_ := Aside0.mk (blk_below (g := gb357) (o := .cells #[.bool a2_0, .slice A2_1 l2_1.length c2_1, .int .i64 a2_2] 25 (0, 0)) (by (with_reducible repeat (first | refine blk_drewN ?_ _ | refine blk_drew ?_ | refine blk_alloc ?_ _)); exact BK357.out) hb); have n3_ := Aside0.mk (below_step (by repeat (first | (with_reducible first | exact HB.out | apply below_alloc | apply pw_below_drewN | apply below_drew1 | refine below_set ?_ GE355.out | refine below_set ?_ GE356.out | refine below_set ?_ GE357.out) | exact HB.out)) hb); clear BK355; clear BK356; clear BK357; clear HB; have BK355 := n0_; have BK356 := n1_; have BK357 := n2_; have HB := n3_; clear n0_ n1_ n2_ n3_; (try clear hb); (try clear hb2); (try clear hk); (try clear hi)))
                go_meet
                case rel => exact ⟨_, (((t363 == 0) != t375)), (by first | rfl | (simp; done) | (simp [*]; done)), H', ⟨by have := HJ3.out; first | omega | exact Nat.le_refl _⟩, ⟨by (with_reducible repeat (first | refine blk_drewN ?_ _ | refine blk_drew ?_ | refine blk_alloc ?_ _)); exact BK355.out⟩, ⟨by (with_reducible repeat (first | refine blk_drewN ?_ _ | refine blk_drew ?_ | refine blk_alloc ?_ _)); exact BK356.out⟩, ⟨by (with_reducible repeat (first | refine blk_drewN ?_ _ | refine blk_drew ?_ | refine blk_alloc ?_ _)); exact BK357.out⟩, ⟨by repeat (first | (with_reducible first | exact HB.out | apply below_alloc | apply pw_below_drewN | apply below_drew1 | refine below_set ?_ GE355.out | refine below_set ?_ GE356.out | refine below_set ?_ GE357.out) | exact HB.out)⟩⟩
          · rw [if_neg c74] at H
            have c74b0 : (t366 == (wrap64 (-t363))) = false := beq_eq_false_iff_ne.mpr c74
            have c74b1 : (t366 != (wrap64 (-t363))) = true := bne_iff_ne.mpr c74
            (first | rw [c74b0] | (simp only [i64_w, i32_w]; rw [c74b0]) | skip)
            have H' := Aside0.mk H
            clear H
            have hnb201 := NB356_355.out
            have hnc201 := NB355_356.out
            have hnb202 := NB356_357.out
            have hnc202 := NB357_356.out
            have hcz203_0 : w72.cell? ⟨gb356, 0, none⟩ = some (.bool a1_0) := (blk_cell BK356.out 0).trans rfl
            have hcz203_1 : w72.cell? ⟨gb356, 1, none⟩ = some (.slice A1_1 l1_1.length c1_1) := (blk_cell BK356.out 1).trans rfl
            have hcz203_2 : w72.cell? ⟨gb356, 2, none⟩ = some (.int .i64 a1_2) := (blk_cell BK356.out 2).trans rfl
            have hfz203_0 := blk_frozen BK356.out 0
            have hfz203_1 := blk_frozen BK356.out 1
            have hfz203_2 := blk_frozen BK356.out 2
            have hnb204 := NB355_357.out
            have hnc204 := NB357_355.out
            have hcz205_0 : w72.cell? ⟨gb355, 0, none⟩ = some (.bool a0_0) := (blk_cell BK355.out 0).trans rfl
            have hcz205_1 : w72.cell? ⟨gb355, 1, none⟩ = some (.slice A0_1 l0_1.length c0_1) := (blk_cell BK355.out 1).trans rfl
            have hcz205_2 : w72.cell? ⟨gb355, 2, none⟩ = some (.int .i64 a0_2) := (blk_cell BK355.out 2).trans rfl
            have hfz205_0 := blk_frozen BK355.out 0
            have hfz205_1 := blk_frozen BK355.out 1
            have hfz205_2 := blk_frozen BK355.out 2
            go_wp2_with (first | ((with_reducible refine gate_callee (f := 21) rfl ?_); refine goesL_ (some 50) rfl rfl Tryd.func21 (by kernel_rfl) rfl #[.agg #[.bool a1_0, .slice A1_1 l1_1.length c1_1, .int .i64 a1_2], .agg #[.bool a0_0, .slice A0_1 l0_1.length c0_1, .int .i64 a0_2]] rfl (by (try simp only [List.map_toArray, List.map_cons, List.map_nil]); first | done | rfl | (simp only [List.length_drop, List.length_take]; rfl)) ?_; (with_reducible refine (num_Cmp.calls kj3 a1_0 _ _ l1_1 a1_2 a0_0 _ _ l0_1 a0_2 t366 _ ?side1 ?side2 ?side3 ?side4 A73.out).mono ?_); (case side1 => repeat (first | exact (Kd.C_below HR1_1.out HB.out) | (with_reducible refine Kd.C_alloc ?_ _) | (with_reducible refine Kd.C_drewN ?_ _) | (with_reducible refine Kd.C_drew ?_))); (case side2 => exact HC1_1.out); (case side3 => repeat (first | exact (Kd.C_below HR0_1.out HB.out) | (with_reducible refine Kd.C_alloc ?_ _) | (with_reducible refine Kd.C_drewN ?_ _) | (with_reducible refine Kd.C_drew ?_))); (case side4 => exact HC0_1.out); rintro e w206 ⟨rfl, hb⟩; refine ⟨_, rfl, ?_⟩; have n0_ := Aside0.mk (blk_below (g := gb355) (o := .cells #[.bool a0_0, .slice A0_1 l0_1.length c0_1, .int .i64 a0_2] 25 (0, 0)) (by (with_reducible repeat (first | refine blk_drewN ?_ _ | refine blk_drew ?_ | refine blk_alloc ?_ _)); exact BK355.out) hb); have n1_ := Aside0.mk (blk_below (g := gb356) (o := .cells #[.bool a1_0, .slice A1_1 l1_1.length c1_1, .int .i64 a1_2] 25 (0, 0)) (by (with_reducible repeat (first | refine blk_drewN ?_ _ | refine blk_drew ?_ | refine blk_alloc ?_ _)); exact BK356.out) hb); have n2_ := Aside0.mk (blk_below (g := gb357) (o := .cells #[.bool a2_0, .slice A2_1 l2_1.length c2_1, .int .i64 a2_2] 25 (0, 0)) (by (with_reducible repeat (first | refine blk_drewN ?_ _ | refine blk_drew ?_ | refine blk_alloc ?_ _)); exact BK357.out) hb); have n3_ := Aside0.mk (below_step (by repeat (first | (with_reducible first | exact HB.out | apply below_alloc | apply pw_below_drewN | apply below_drew1 | refine below_set ?_ GE355.out | refine below_set ?_ GE356.out | refine below_set ?_ GE357.out) | exact HB.out)) hb); clear BK355; clear BK356; clear BK357; clear HB; have BK355 := n0_; have BK356 := n1_; have BK357 := n2_; have HB := n3_; clear n0_ n1_ n2_ n3_; (try clear hb); (try clear hb2); (try clear hk); (try clear hi)))
            go_meet
            case rel => exact ⟨_, (true), (by first | rfl | (simp; done) | (simp [*]; done)), H', ⟨by have := HJ3.out; first | omega | exact Nat.le_refl _⟩, ⟨by (with_reducible repeat (first | refine blk_drewN ?_ _ | refine blk_drew ?_ | refine blk_alloc ?_ _)); exact BK355.out⟩, ⟨by (with_reducible repeat (first | refine blk_drewN ?_ _ | refine blk_drew ?_ | refine blk_alloc ?_ _)); exact BK356.out⟩, ⟨by (with_reducible repeat (first | refine blk_drewN ?_ _ | refine blk_drew ?_ | refine blk_alloc ?_ _)); exact BK357.out⟩, ⟨by repeat (first | (with_reducible first | exact HB.out | apply below_alloc | apply pw_below_drewN | apply below_drew1 | refine below_set ?_ GE355.out | refine below_set ?_ GE356.out | refine below_set ?_ GE357.out) | exact HB.out)⟩⟩
        case rest =>
          clear HC68
          try clear c1
          try clear c2
          try clear p2
          try clear p6
          try clear c7
          try clear c8
          try clear c9
          try clear c10
          try clear c11
          try clear c12
          try clear c13
          try clear c14
          try clear c15
          try clear c16
          try clear c17
          try clear c18
          try clear c19
          try clear c20
          try clear c21
          try clear p64
          try clear c74
          try clear c74b0
          try clear c74b1
          try clear c75
          try clear c75b0
          try clear c76
          try clear c76b0
          try clear c77
          try clear c77b0
          try clear c78
          try clear c79
          try clear c81
          try clear c84
          try clear c84b0
          try clear c85
          try clear c85b0
          try clear c86
          try clear c86b0
          try clear c87
          try clear c88
          try clear c90
          try clear c94
          try clear c95
          try clear c97
          try clear c104
          try clear c105
          try clear c107
          try clear c114
          try clear c115
          try clear c117
          try clear c123
          try clear c123b0
          try clear c124
          try clear c124b0
          try clear c125
          try clear c125b0
          try clear c126
          try clear c127
          try clear c129
          try clear c133
          try clear c134
          try clear c136
          try clear c143
          try clear c144
          try clear c146
          try clear c153
          try clear c154
          try clear c156
          try clear c162
          try clear c162b0
          try clear c163
          try clear c163b0
          try clear c164
          try clear c164b0
          try clear c165
          try clear c166
          try clear c168
          try clear c172
          try clear c173
          try clear c175
          try clear c182
          try clear c183
          try clear c185
          try clear c192
          try clear c193
          try clear c195
          try clear c201
          try clear c202
          try clear c204
          try clear hcz100_0
          try clear hcz100_1
          try clear hcz100_2
          try clear hcz101_0
          try clear hcz101_1
          try clear hcz101_2
          try clear hcz106_0
          try clear hcz106_1
          try clear hcz106_2
          try clear hcz108_0
          try clear hcz108_1
          try clear hcz108_2
          try clear hcz110_0
          try clear hcz110_1
          try clear hcz110_2
          try clear hcz111_0
          try clear hcz111_1
          try clear hcz111_2
          try clear hcz116_0
          try clear hcz116_1
          try clear hcz116_2
          try clear hcz118_0
          try clear hcz118_1
          try clear hcz118_2
          try clear hcz120_0
          try clear hcz120_1
          try clear hcz120_2
          try clear hcz121_0
          try clear hcz121_1
          try clear hcz121_2
          try clear hcz128_0
          try clear hcz128_1
          try clear hcz128_2
          try clear hcz130_0
          try clear hcz130_1
          try clear hcz130_2
          try clear hcz135_0
          try clear hcz135_1
          try clear hcz135_2
          try clear hcz137_0
          try clear hcz137_1
          try clear hcz137_2
          try clear hcz139_0
          try clear hcz139_1
          try clear hcz139_2
          try clear hcz140_0
          try clear hcz140_1
          try clear hcz140_2
          try clear hcz145_0
          try clear hcz145_1
          try clear hcz145_2
          try clear hcz147_0
          try clear hcz147_1
          try clear hcz147_2
          try clear hcz149_0
          try clear hcz149_1
          try clear hcz149_2
          try clear hcz150_0
          try clear hcz150_1
          try clear hcz150_2
          try clear hcz155_0
          try clear hcz155_1
          try clear hcz155_2
          try clear hcz157_0
          try clear hcz157_1
          try clear hcz157_2
          try clear hcz159_0
          try clear hcz159_1
          try clear hcz159_2
          try clear hcz160_0
          try clear hcz160_1
          try clear hcz160_2
          try clear hcz167_0
          try clear hcz167_1
          try clear hcz167_2
          try clear hcz169_0
          try clear hcz169_1
          try clear hcz169_2
          try clear hcz174_0
          try clear hcz174_1
          try clear hcz174_2
          try clear hcz176_0
          try clear hcz176_1
          try clear hcz176_2
          try clear hcz178_0
          try clear hcz178_1
          try clear hcz178_2
          try clear hcz179_0
          try clear hcz179_1
          try clear hcz179_2
          try clear hcz184_0
          try clear hcz184_1
          try clear hcz184_2
          try clear hcz186_0
          try clear hcz186_1
          try clear hcz186_2
          try clear hcz188_0
          try clear hcz188_1
          try clear hcz188_2
          try clear hcz189_0
          try clear hcz189_1
          try clear hcz189_2
          try clear hcz194_0
          try clear hcz194_1
          try clear hcz194_2
          try clear hcz196_0
          try clear hcz196_1
          try clear hcz196_2
          try clear hcz198_0
          try clear hcz198_1
          try clear hcz198_2
          try clear hcz199_0
          try clear hcz199_1
          try clear hcz199_2
          try clear hcz203_0
          try clear hcz203_1
          try clear hcz203_2
          try clear hcz205_0
          try clear hcz205_1
          try clear hcz205_2
          try clear hcz80_0
          try clear hcz80_1
          try clear hcz80_2
          try clear hcz82_0
          try clear hcz82_1
          try clear hcz82_2
          try clear hcz89_0
          try clear hcz89_1
          try clear hcz89_2
          try clear hcz91_0
          try clear hcz91_1
          try clear hcz91_2
          try clear hcz96_0
          try clear hcz96_1
          try clear hcz96_2
          try clear hcz98_0
          try clear hcz98_1
          try clear hcz98_2
          try clear hfz100_0
          try clear hfz100_1
          try clear hfz100_2
          try clear hfz101_0
          try clear hfz101_1
          try clear hfz101_2
          try clear hfz106_0
          try clear hfz106_1
          try clear hfz106_2
          try clear hfz108_0
          try clear hfz108_1
          try clear hfz108_2
          try clear hfz110_0
          try clear hfz110_1
          try clear hfz110_2
          try clear hfz111_0
          try clear hfz111_1
          try clear hfz111_2
          try clear hfz116_0
          try clear hfz116_1
          try clear hfz116_2
          try clear hfz118_0
          try clear hfz118_1
          try clear hfz118_2
          try clear hfz120_0
          try clear hfz120_1
          try clear hfz120_2
          try clear hfz121_0
          try clear hfz121_1
          try clear hfz121_2
          try clear hfz128_0
          try clear hfz128_1
          try clear hfz128_2
          try clear hfz130_0
          try clear hfz130_1
          try clear hfz130_2
          try clear hfz135_0
          try clear hfz135_1
          try clear hfz135_2
          try clear hfz137_0
          try clear hfz137_1
          try clear hfz137_2
          try clear hfz139_0
          try clear hfz139_1
          try clear hfz139_2
          try clear hfz140_0
          try clear hfz140_1
          try clear hfz140_2
          try clear hfz145_0
          try clear hfz145_1
          try clear hfz145_2
          try clear hfz147_0
          try clear hfz147_1
          try clear hfz147_2
          try clear hfz149_0
          try clear hfz149_1
          try clear hfz149_2
          try clear hfz150_0
          try clear hfz150_1
          try clear hfz150_2
          try clear hfz155_0
          try clear hfz155_1
          try clear hfz155_2
          try clear hfz157_0
          try clear hfz157_1
          try clear hfz157_2
          try clear hfz159_0
          try clear hfz159_1
          try clear hfz159_2
          try clear hfz160_0
          try clear hfz160_1
          try clear hfz160_2
          try clear hfz167_0
          try clear hfz167_1
          try clear hfz167_2
          try clear hfz169_0
          try clear hfz169_1
          try clear hfz169_2
          try clear hfz174_0
          try clear hfz174_1
          try clear hfz174_2
          try clear hfz176_0
          try clear hfz176_1
          try clear hfz176_2
          try clear hfz178_0
          try clear hfz178_1
          try clear hfz178_2
          try clear hfz179_0
          try clear hfz179_1
          try clear hfz179_2
          try clear hfz184_0
          try clear hfz184_1
          try clear hfz184_2
          try clear hfz186_0
          try clear hfz186_1
          try clear hfz186_2
          try clear hfz188_0
          try clear hfz188_1
          try clear hfz188_2
          try clear hfz189_0
          try clear hfz189_1
          try clear hfz189_2
          try clear hfz194_0
          try clear hfz194_1
          try clear hfz194_2
          try clear hfz196_0
          try clear hfz196_1
          try clear hfz196_2
          try clear hfz198_0
          try clear hfz198_1
          try clear hfz198_2
          try clear hfz199_0
          try clear hfz199_1
          try clear hfz199_2
          try clear hfz203_0
          try clear hfz203_1
          try clear hfz203_2
          try clear hfz205_0
          try clear hfz205_1
          try clear hfz205_2
          try clear hfz80_0
          try clear hfz80_1
          try clear hfz80_2
          try clear hfz82_0
          try clear hfz82_1
          try clear hfz82_2
          try clear hfz89_0
          try clear hfz89_1
          try clear hfz89_2
          try clear hfz91_0
          try clear hfz91_1
          try clear hfz91_2
          try clear hfz96_0
          try clear hfz96_1
          try clear hfz96_2
          try clear hfz98_0
          try clear hfz98_1
          try clear hfz98_2
          obtain ⟨kq, x85_67, rfl, HA, HJ67, BK355, BK356, BK357, HB⟩ := hcut
          cases kq with
          | zero => exact absurd HA.out (by simp [erratumlaw02_NumOrders.j1])
          | succ kj67 =>
            have H := HA.out
            clear HA
            simp only [erratumlaw02_NumOrders.j1] at H
            by_cases c207 : x85_67 = true
            · subst c207
              have H1 : (some false) = some r := by rw [if_pos rfl] at H; exact H
              clear H
              have H := H1
              clear H1
              obtain rfl := Option.some.inj H
              go_wp2
              go_ret
              exact ⟨by first | rfl | (simp [errW_none, errW_some] <;> rfl) | (simp [*, errW_none, errW_some] <;> rfl), by repeat (first | (with_reducible first | exact HB.out | apply below_alloc | apply pw_below_drewN | apply below_drew1 | refine below_set ?_ GE355.out | refine below_set ?_ GE356.out | refine below_set ?_ GE357.out) | exact HB.out)⟩
            · replace c207 := Bool.eq_false_iff.mpr c207
              subst c207
              have H1 : ((num_Make.f kj67 a0_0 l0_1 (wrap64 (a0_2 + 1))).bind fun bt376 => (if (l0_1.length : Int) = 0 then (erratumlaw02_NumOrders.j2 kj67 bt376.2.2.2 0 a0_0 l0_1 a0_2 bt376.1 bt376.2.1 bt376.2.2.1) else (if a0_0 = true then (erratumlaw02_NumOrders.j2 kj67 bt376.2.2.2 (-1) a0_0 l0_1 a0_2 bt376.1 bt376.2.1 bt376.2.2.1) else (erratumlaw02_NumOrders.j2 kj67 bt376.2.2.2 1 a0_0 l0_1 a0_2 bt376.1 bt376.2.1 bt376.2.2.1)))) = some r := by rw [if_neg (show ¬ (false = true) by decide)] at H; exact H
              clear H
              have H := H1
              clear H1
              replace H := Option.bind_eq_some_iff.mp H
              obtain ⟨⟨t376, t377, t380, t381⟩, A2080, H⟩ := H
              replace H : (if (l0_1.length : Int) = 0 then (erratumlaw02_NumOrders.j2 kj67 t381 0 a0_0 l0_1 a0_2 t376 t377 t380) else (if a0_0 = true then (erratumlaw02_NumOrders.j2 kj67 t381 (-1) a0_0 l0_1 a0_2 t376 t377 t380) else (erratumlaw02_NumOrders.j2 kj67 t381 1 a0_0 l0_1 a0_2 t376 t377 t380))) = some r := H
              have A208 := Aside0.mk A2080
              clear A2080
              have HC209 := Aside0.mk H
              clear H
              have hnb210 := NB355_356.out
              have hnc210 := NB356_355.out
              have hnb211 := NB355_357.out
              have hnc211 := NB357_355.out
              have hcz212_0 : wc.cell? ⟨gb355, 0, none⟩ = some (.bool a0_0) := (blk_cell BK355.out 0).trans rfl
              have hcz212_1 : wc.cell? ⟨gb355, 1, none⟩ = some (.slice A0_1 l0_1.length c0_1) := (blk_cell BK355.out 1).trans rfl
              have hcz212_2 : wc.cell? ⟨gb355, 2, none⟩ = some (.int .i64 a0_2) := (blk_cell BK355.out 2).trans rfl
              have hfz212_0 := blk_frozen BK355.out 0
              have hfz212_1 := blk_frozen BK355.out 1
              have hfz212_2 := blk_frozen BK355.out 2
              go_upto_block 0 with (first | ((with_reducible refine gate_callee (f := 18) rfl ?_); refine goesL_ (some 94) rfl rfl Tryd.func18 (by kernel_rfl) rfl #[.bool a0_0, .slice A0_1 l0_1.length c0_1, .int .i64 (wrap64 (a0_2 + 1))] rfl (by (try simp only [List.map_toArray, List.map_cons, List.map_nil]); first | done | rfl | (simp only [List.length_drop, List.length_take]; rfl)) ?_; (with_reducible refine (num_Make.calls kj67 a0_0 _ _ l0_1 (wrap64 (a0_2 + 1)) t376 t377 t380 t381 _ ?side1 ?side2 A208.out).mono ?_); (case side1 => repeat (first | exact (Kd.C_below HR0_1.out HB.out) | (with_reducible refine Kd.C_alloc ?_ _) | (with_reducible refine Kd.C_drewN ?_ _) | (with_reducible refine Kd.C_drew ?_))); (case side2 => exact HC0_1.out); rintro e w213 ⟨v378, rfl, ho0, hb⟩; refine ⟨_, rfl, ?_⟩; have n0_ := Aside0.mk (Kd.R_lower ho0 (below_size (by repeat (first | (with_reducible first | exact HB.out | apply below_alloc | apply pw_below_drewN | apply below_drew1 | refine below_set ?_ GE355.out | refine below_set ?_ GE356.out | refine below_set ?_ GE357.out) | exact HB.out)))); have n1_ := Aside0.mk (blk_below (g := gb355) (o := .cells #[.bool a0_0, .slice A0_1 l0_1.length c0_1, .int .i64 a0_2] 25 (0, 0)) (by (with_reducible repeat (first | refine blk_drewN ?_ _ | refine blk_drew ?_ | refine blk_alloc ?_ _)); exact BK355.out) hb); have n2_ := Aside0.mk (blk_below (g := gb356) (o := .cells #[.bool a1_0, .slice A1_1 l1_1.length c1_1, .int .i64 a1_2] 25 (0, 0)) (by (with_reducible repeat (first | refine blk_drewN ?_ _ | refine blk_drew ?_ | refine blk_alloc ?_ _)); exact BK356.out) hb); have n3_ := Aside0.mk (blk_below (g := gb357) (o := .cells #[.bool a2_0, .slice A2_1 l2_1.length c2_1, .int .i64 a2_2] 25 (0, 0)) (by (with_reducible repeat (first | refine blk_drewN ?_ _ | refine blk_drew ?_ | refine blk_alloc ?_ _)); exact BK357.out) hb); have n4_ := Aside0.mk (below_step (by repeat (first | (with_reducible first | exact HB.out | apply below_alloc | apply pw_below_drewN | apply below_drew1 | refine below_set ?_ GE355.out | refine below_set ?_ GE356.out | refine below_set ?_ GE357.out) | exact HB.out)) hb); clear BK355; clear BK356; clear BK357; clear HB; have HO379 := n0_; have BK355 := n1_; have BK356 := n2_; have BK357 := n3_; have HB := n4_; clear n0_ n1_ n2_ n3_ n4_; (try clear hb); (try clear hb2); (try clear hk); (try clear hi); (try clear ho0)) | ((with_reducible refine gate_dst (N := 10) rfl ?_); (try (refine gate_guard (by rfl) ?_; dsimp only)); refine box_event ?hg (N := 10) ?hd (cs := #[.bool false, .slice none 0 0, .int .i64 0]) (t := 25) ?hr ?_; (case hd => rfl); (case hg => rfl); (case hr => first | (go_simp; done) | (go_simp; rfl) | (go_simp; simp only [x_u32u8, x_u8, x_u32, x_u64, x_mm]; first | done | rfl)); intro gb382 hg w214 hbox hb; have n0_ := Aside0.mk (Kd.R_below (by (with_reducible repeat (first | apply Kd.R_alloc | apply Kd.R_drewN | apply Kd.R_drew)); exact HO379.out) hb); have n1_ := Aside0.mk (blk_below (g := gb355) (o := .cells #[.bool a0_0, .slice A0_1 l0_1.length c0_1, .int .i64 a0_2] 25 (0, 0)) (by (with_reducible repeat (first | refine blk_drewN ?_ _ | refine blk_drew ?_ | refine blk_alloc ?_ _)); exact BK355.out) hb); have n2_ := Aside0.mk (blk_below (g := gb356) (o := .cells #[.bool a1_0, .slice A1_1 l1_1.length c1_1, .int .i64 a1_2] 25 (0, 0)) (by (with_reducible repeat (first | refine blk_drewN ?_ _ | refine blk_drew ?_ | refine blk_alloc ?_ _)); exact BK356.out) hb); have n3_ := Aside0.mk (blk_below (g := gb357) (o := .cells #[.bool a2_0, .slice A2_1 l2_1.length c2_1, .int .i64 a2_2] 25 (0, 0)) (by (with_reducible repeat (first | refine blk_drewN ?_ _ | refine blk_drew ?_ | refine blk_alloc ?_ _)); exact BK357.out) hb); have n4_ := Aside0.mk (below_step (by repeat (first | (with_reducible first | exact HB.out | apply below_alloc | apply pw_below_drewN | apply below_drew1 | refine below_set ?_ GE355.out | refine below_set ?_ GE356.out | refine below_set ?_ GE357.out) | exact HB.out)) hb); have n5_ := Aside0.mk (hbox); have n6_ := Aside0.mk ((by rw [hg]; exact (below_size (by repeat (first | (with_reducible first | exact HB.out | apply below_alloc | apply pw_below_drewN | apply below_drew1 | refine below_set ?_ GE355.out | refine below_set ?_ GE356.out | refine below_set ?_ GE357.out) | exact HB.out))) : w.heap.size ≤ gb382)); have n7_ := Aside0.mk ((by rw [hg]; exact (below_size (by repeat (first | (with_reducible first | exact HB.out | apply below_alloc | apply pw_below_drewN | apply below_drew1 | refine below_set ?_ GE355.out | refine below_set ?_ GE356.out | refine below_set ?_ GE357.out) | exact HB.out))) : w.heap.size ≤ gb382)); have n8_ := Aside0.mk ((by rw [hg]; exact Nat.ne_of_lt (blk_lt (g := gb355) (o := .cells #[.bool a0_0, .slice A0_1 l0_1.length c0_1, .int .i64 a0_2] 25 (0, 0)) (by (with_reducible repeat (first | refine blk_drewN ?_ _ | refine blk_drew ?_ | refine blk_alloc ?_ _)); exact BK355.out)) : gb355 ≠ gb382)); have n9_ := Aside0.mk ((by rw [hg]; exact Nat.ne_of_gt (blk_lt (g := gb355) (o := .cells #[.bool a0_0, .slice A0_1 l0_1.length c0_1, .int .i64 a0_2] 25 (0, 0)) (by (with_reducible repeat (first | refine blk_drewN ?_ _ | refine blk_drew ?_ | refine blk_alloc ?_ _)); exact BK355.out)) : gb382 ≠ gb355)); have n10_ := Aside0.mk ((by rw [hg]; exact Nat.ne_of_lt (blk_lt (g := gb356) (o := .cells #[.bool a1_0, .slice A1_1 l1_1.length c1_1, .int .i64 a1_2] 25 (0, 0)) (by (with_reducible repeat (first | refine blk_drewN ?_ _ | refine blk_drew ?_ | refine blk_alloc ?_ _)); exact BK356.out)) : gb356 ≠ gb382)); have n11_ := Aside0.mk ((by rw [hg]; exact Nat.ne_of_gt (blk_lt (g := gb356) (o := .cells #[.bool a1_0, .slice A1_1 l1_1.length c1_1, .int .i64 a1_2] 25 (0, 0)) (by (with_reducible repeat (first | refine blk_drewN ?_ _ | refine blk_drew ?_ | refine blk_alloc ?_ _)); exact BK356.out)) : gb382 ≠ gb356)); have n12_ := Aside0.mk ((by rw [hg]; exact Nat.ne_of_lt (blk_lt (g := gb357) (o := .cells #[.bool a2_0, .slice A2_1 l2_1.length c2_1, .int .i64 a2_2] 25 (0, 0)) (by (with_reducible repeat (first | refine blk_drewN ?_ _ | refine blk_drew ?_ | refine blk_alloc ?_ _)); exact BK357.out)) : gb357 ≠ gb382)); have n13_ := Aside0.mk ((by rw [hg]; exact Nat.ne_of_gt (blk_lt (g := gb357) (o := .cells #[.bool a2_0, .slice A2_1 l2_1.length c2_1, .int .i64 a2_2] 25 (0, 0)) (by (with_reducible repeat (first | refine blk_drewN ?_ _ | refine blk_drew ?_ | refine blk_alloc ?_ _)); exact BK357.out)) : gb382 ≠ gb357)); clear HO379; clear BK355; clear BK356; clear BK357; clear HB; have HO379 := n0_; have BK355 := n1_; have BK356 := n2_; have BK357 := n3_; have HB := n4_; have BK382 := n5_; have GW382 := n6_; have GE382 := n7_; have NB355_382 := n8_; have NB382_355 := n9_; have NB356_382 := n10_; have NB382_356 := n11_; have NB357_382 := n12_; have NB382_357 := n13_; clear n0_ n1_ n2_ n3_ n4_ n5_ n6_ n7_ n8_ n9_ n10_ n11_ n12_ n13_; clear hb hbox hg; have hnb215 := NB382_355.out; have hnc215 := NB355_382.out; have hnb216 := NB382_356.out; have hnc216 := NB356_382.out; have hnb217 := NB382_357.out; have hnc217 := NB357_382.out; have hcz218_0 : w214.cell? ⟨gb382, 0, none⟩ = some (.bool false) := (blk_cell BK382.out 0).trans rfl; have hcz218_1 : w214.cell? ⟨gb382, 1, none⟩ = some (.slice none 0 0) := (blk_cell BK382.out 1).trans rfl; have hcz218_2 : w214.cell? ⟨gb382, 2, none⟩ = some (.int .i64 0) := (blk_cell BK382.out 2).trans rfl; have hfz218_0 := blk_frozen BK382.out 0; have hfz218_1 := blk_frozen BK382.out 1; have hfz218_2 := blk_frozen BK382.out 2; obtain ⟨Ao219, co219, eo219⟩ := Kd.R_slice HO379.out; subst eo219))
              (try simp only [Act.put, List.setIfInBounds_toArray, List.set_cons_zero, List.set_cons_succ])
              go_cut [12] (fun v12 wc => ∃ (kq : Nat) (x12_208 : Int), v12 = .int .i64 x12_208 ∧ Aside0 (erratumlaw02_NumOrders.j2 kq t381 x12_208 a0_0 l0_1 a0_2 t376 t377 t380 = some r) ∧ Aside0 (kq ≤ kj67) ∧ Aside0 (Kd.R (Kd.int .u32) 40 wc w.heap.size (fun _ => True) (.slice Ao219 t377.length co219) t377) ∧ Aside0 (wc.heap[gb355]? = some (.cells #[.bool a0_0, (.slice A0_1 l0_1.length c0_1), .int .i64 a0_2] 25 (0, 0))) ∧ Aside0 (wc.heap[gb356]? = some (.cells #[.bool a1_0, (.slice A1_1 l1_1.length c1_1), .int .i64 a1_2] 25 (0, 0))) ∧ Aside0 (wc.heap[gb357]? = some (.cells #[.bool a2_0, (.slice A2_1 l2_1.length c2_1), .int .i64 a2_2] 25 (0, 0))) ∧ Aside0 (wc.heap[gb382]? = some (.cells #[.bool t376, (.slice Ao219 t377.length co219), .int .i64 t380] 25 (0, 0))) ∧ Aside0 (Below w.heap.size w wc))
              case first =>
                have H := HC209.out
                clear HC209
                by_cases c220 : (l0_1.length : Int) = 0
                · rw [if_pos c220] at H
                  have c220b0 : ((l0_1.length : Int) == 0) = true := beq_iff_eq.mpr c220
                  have c220b1 : ((l0_1.length : Int) != 0) = false := bne_eq_false_iff_eq.mpr c220
                  clear c220
                  (first | rw [c220b0] | (simp only [i64_w, i32_w]; rw [c220b0]) | skip)
                  have H' := Aside0.mk H
                  clear H
                  have hnb221 := NB355_356.out
                  have hnc221 := NB356_355.out
                  have hnb222 := NB355_357.out
                  have hnc222 := NB357_355.out
                  have hnb223 := NB355_382.out
                  have hnc223 := NB382_355.out
                  have hcz224_0 : w214.cell? ⟨gb355, 0, none⟩ = some (.bool a0_0) := (blk_cell BK355.out 0).trans rfl
                  have hcz224_1 : w214.cell? ⟨gb355, 1, none⟩ = some (.slice A0_1 l0_1.length c0_1) := (blk_cell BK355.out 1).trans rfl
                  have hcz224_2 : w214.cell? ⟨gb355, 2, none⟩ = some (.int .i64 a0_2) := (blk_cell BK355.out 2).trans rfl
                  have hfz224_0 := blk_frozen BK355.out 0
                  have hfz224_1 := blk_frozen BK355.out 1
                  have hfz224_2 := blk_frozen BK355.out 2
                  go_wp2
                  go_meet
                  case rel => exact ⟨_, (0), (by first | rfl | (simp; done) | (simp [*]; done)), H', ⟨by have := HJ3.out; have := HJ67.out; first | omega | exact Nat.le_refl _⟩, ⟨by (with_reducible repeat (first | apply Kd.R_alloc | apply Kd.R_drewN | apply Kd.R_drew)); exact Kd.R_mono (Kd.R_far (p := ⟨gb382, 2, none⟩) (Kd.R_far (p := ⟨gb382, 1, none⟩) (Kd.R_far (p := ⟨gb382, 0, none⟩) (Kd.R_types HO379.out BK382.out (by decide)) (fun _ hk => hk.2) (.bool t376)) (fun _ hk => hk.2) (.slice Ao219 t377.length co219)) (fun _ hk => hk.2) (.int .i64 t380)) (fun _ hk => trivial)⟩, ⟨by (with_reducible repeat (first | refine blk_drewN ?_ _ | refine blk_drew ?_ | refine blk_alloc ?_ _)); refine blk_far ?_ NB355_382.out _; (with_reducible repeat (first | refine blk_drewN ?_ _ | refine blk_drew ?_ | refine blk_alloc ?_ _)); refine blk_far ?_ NB355_382.out _; (with_reducible repeat (first | refine blk_drewN ?_ _ | refine blk_drew ?_ | refine blk_alloc ?_ _)); refine blk_far ?_ NB355_382.out _; (with_reducible repeat (first | refine blk_drewN ?_ _ | refine blk_drew ?_ | refine blk_alloc ?_ _)); exact BK355.out⟩, ⟨by (with_reducible repeat (first | refine blk_drewN ?_ _ | refine blk_drew ?_ | refine blk_alloc ?_ _)); refine blk_far ?_ NB356_382.out _; (with_reducible repeat (first | refine blk_drewN ?_ _ | refine blk_drew ?_ | refine blk_alloc ?_ _)); refine blk_far ?_ NB356_382.out _; (with_reducible repeat (first | refine blk_drewN ?_ _ | refine blk_drew ?_ | refine blk_alloc ?_ _)); refine blk_far ?_ NB356_382.out _; (with_reducible repeat (first | refine blk_drewN ?_ _ | refine blk_drew ?_ | refine blk_alloc ?_ _)); exact BK356.out⟩, ⟨by (with_reducible repeat (first | refine blk_drewN ?_ _ | refine blk_drew ?_ | refine blk_alloc ?_ _)); refine blk_far ?_ NB357_382.out _; (with_reducible repeat (first | refine blk_drewN ?_ _ | refine blk_drew ?_ | refine blk_alloc ?_ _)); refine blk_far ?_ NB357_382.out _; (with_reducible repeat (first | refine blk_drewN ?_ _ | refine blk_drew ?_ | refine blk_alloc ?_ _)); refine blk_far ?_ NB357_382.out _; (with_reducible repeat (first | refine blk_drewN ?_ _ | refine blk_drew ?_ | refine blk_alloc ?_ _)); exact BK357.out⟩, ⟨by (with_reducible repeat (first | refine blk_drewN ?_ _ | refine blk_drew ?_ | refine blk_alloc ?_ _)); refine blk_put (cs := #[.bool t376, .slice Ao219 t377.length co219, .int .i64 0]) ?_ 2 _ rfl; (with_reducible repeat (first | refine blk_drewN ?_ _ | refine blk_drew ?_ | refine blk_alloc ?_ _)); refine blk_put (cs := #[.bool t376, .slice none 0 0, .int .i64 0]) ?_ 1 _ rfl; (with_reducible repeat (first | refine blk_drewN ?_ _ | refine blk_drew ?_ | refine blk_alloc ?_ _)); refine blk_put (cs := #[.bool false, .slice none 0 0, .int .i64 0]) ?_ 0 _ rfl; (with_reducible repeat (first | refine blk_drewN ?_ _ | refine blk_drew ?_ | refine blk_alloc ?_ _)); exact BK382.out⟩, ⟨by repeat (first | (with_reducible first | exact HB.out | apply below_alloc | apply pw_below_drewN | apply below_drew1 | refine below_set ?_ GE355.out | refine below_set ?_ GE356.out | refine below_set ?_ GE357.out | refine below_set ?_ GE382.out) | exact HB.out)⟩⟩
                · rw [if_neg c220] at H
                  have c220b0 : ((l0_1.length : Int) == 0) = false := beq_eq_false_iff_ne.mpr c220
                  have c220b1 : ((l0_1.length : Int) != 0) = true := bne_iff_ne.mpr c220
                  have c220b2 : ¬ (l0_1 = []) := fun h_ => c220 (by rw [h_]; rfl)
                  (first | rw [c220b0] | (simp only [i64_w, i32_w]; rw [c220b0]) | skip)
                  by_cases c225 : a0_0 = true
                  · subst c225
                    have H1 : (erratumlaw02_NumOrders.j2 kj67 t381 (-1) true l0_1 a0_2 t376 t377 t380) = some r := by rw [if_pos rfl] at H; exact H
                    clear H
                    have H := H1
                    clear H1
                    have H' := Aside0.mk H
                    clear H
                    have hnb226 := NB355_356.out
                    have hnc226 := NB356_355.out
                    have hnb227 := NB355_357.out
                    have hnc227 := NB357_355.out
                    have hnb228 := NB355_382.out
                    have hnc228 := NB382_355.out
                    have hcz229_0 : w214.cell? ⟨gb355, 0, none⟩ = some (.bool true) := (blk_cell BK355.out 0).trans rfl
                    have hcz229_1 : w214.cell? ⟨gb355, 1, none⟩ = some (.slice A0_1 l0_1.length c0_1) := (blk_cell BK355.out 1).trans rfl
                    have hcz229_2 : w214.cell? ⟨gb355, 2, none⟩ = some (.int .i64 a0_2) := (blk_cell BK355.out 2).trans rfl
                    have hfz229_0 := blk_frozen BK355.out 0
                    have hfz229_1 := blk_frozen BK355.out 1
                    have hfz229_2 := blk_frozen BK355.out 2
                    go_wp2
                    go_meet
                    case rel => exact ⟨_, ((-1)), (by first | rfl | (simp; done) | (simp [*]; done)), H', ⟨by have := HJ3.out; have := HJ67.out; first | omega | exact Nat.le_refl _⟩, ⟨by (with_reducible repeat (first | apply Kd.R_alloc | apply Kd.R_drewN | apply Kd.R_drew)); exact Kd.R_mono (Kd.R_far (p := ⟨gb382, 2, none⟩) (Kd.R_far (p := ⟨gb382, 1, none⟩) (Kd.R_far (p := ⟨gb382, 0, none⟩) (Kd.R_types HO379.out BK382.out (by decide)) (fun _ hk => hk.2) (.bool t376)) (fun _ hk => hk.2) (.slice Ao219 t377.length co219)) (fun _ hk => hk.2) (.int .i64 t380)) (fun _ hk => trivial)⟩, ⟨by (with_reducible repeat (first | refine blk_drewN ?_ _ | refine blk_drew ?_ | refine blk_alloc ?_ _)); refine blk_far ?_ NB355_382.out _; (with_reducible repeat (first | refine blk_drewN ?_ _ | refine blk_drew ?_ | refine blk_alloc ?_ _)); refine blk_far ?_ NB355_382.out _; (with_reducible repeat (first | refine blk_drewN ?_ _ | refine blk_drew ?_ | refine blk_alloc ?_ _)); refine blk_far ?_ NB355_382.out _; (with_reducible repeat (first | refine blk_drewN ?_ _ | refine blk_drew ?_ | refine blk_alloc ?_ _)); exact BK355.out⟩, ⟨by (with_reducible repeat (first | refine blk_drewN ?_ _ | refine blk_drew ?_ | refine blk_alloc ?_ _)); refine blk_far ?_ NB356_382.out _; (with_reducible repeat (first | refine blk_drewN ?_ _ | refine blk_drew ?_ | refine blk_alloc ?_ _)); refine blk_far ?_ NB356_382.out _; (with_reducible repeat (first | refine blk_drewN ?_ _ | refine blk_drew ?_ | refine blk_alloc ?_ _)); refine blk_far ?_ NB356_382.out _; (with_reducible repeat (first | refine blk_drewN ?_ _ | refine blk_drew ?_ | refine blk_alloc ?_ _)); exact BK356.out⟩, ⟨by (with_reducible repeat (first | refine blk_drewN ?_ _ | refine blk_drew ?_ | refine blk_alloc ?_ _)); refine blk_far ?_ NB357_382.out _; (with_reducible repeat (first | refine blk_drewN ?_ _ | refine blk_drew ?_ | refine blk_alloc ?_ _)); refine blk_far ?_ NB357_382.out _; (with_reducible repeat (first | refine blk_drewN ?_ _ | refine blk_drew ?_ | refine blk_alloc ?_ _)); refine blk_far ?_ NB357_382.out _; (with_reducible repeat (first | refine blk_drewN ?_ _ | refine blk_drew ?_ | refine blk_alloc ?_ _)); exact BK357.out⟩, ⟨by (with_reducible repeat (first | refine blk_drewN ?_ _ | refine blk_drew ?_ | refine blk_alloc ?_ _)); refine blk_put (cs := #[.bool t376, .slice Ao219 t377.length co219, .int .i64 0]) ?_ 2 _ rfl; (with_reducible repeat (first | refine blk_drewN ?_ _ | refine blk_drew ?_ | refine blk_alloc ?_ _)); refine blk_put (cs := #[.bool t376, .slice none 0 0, .int .i64 0]) ?_ 1 _ rfl; (with_reducible repeat (first | refine blk_drewN ?_ _ | refine blk_drew ?_ | refine blk_alloc ?_ _)); refine blk_put (cs := #[.bool false, .slice none 0 0, .int .i64 0]) ?_ 0 _ rfl; (with_reducible repeat (first | refine blk_drewN ?_ _ | refine blk_drew ?_ | refine blk_alloc ?_ _)); exact BK382.out⟩, ⟨by repeat (first | (with_reducible first | exact HB.out | apply below_alloc | apply pw_below_drewN | apply below_drew1 | refine below_set ?_ GE355.out | refine below_set ?_ GE356.out | refine below_set ?_ GE357.out | refine below_set ?_ GE382.out) | exact HB.out)⟩⟩
                  · replace c225 := Bool.eq_false_iff.mpr c225
                    subst c225
                    have H1 : (erratumlaw02_NumOrders.j2 kj67 t381 1 false l0_1 a0_2 t376 t377 t380) = some r := by rw [if_neg (show ¬ (false = true) by decide)] at H; exact H
                    clear H
                    have H := H1
                    clear H1
                    have H' := Aside0.mk H
                    clear H
                    have hnb230 := NB355_356.out
                    have hnc230 := NB356_355.out
                    have hnb231 := NB355_357.out
                    have hnc231 := NB357_355.out
                    have hnb232 := NB355_382.out
                    have hnc232 := NB382_355.out
                    have hcz233_0 : w214.cell? ⟨gb355, 0, none⟩ = some (.bool false) := (blk_cell BK355.out 0).trans rfl
                    have hcz233_1 : w214.cell? ⟨gb355, 1, none⟩ = some (.slice A0_1 l0_1.length c0_1) := (blk_cell BK355.out 1).trans rfl
                    have hcz233_2 : w214.cell? ⟨gb355, 2, none⟩ = some (.int .i64 a0_2) := (blk_cell BK355.out 2).trans rfl
                    have hfz233_0 := blk_frozen BK355.out 0
                    have hfz233_1 := blk_frozen BK355.out 1
                    have hfz233_2 := blk_frozen BK355.out 2
                    go_wp2
                    go_meet
                    case rel => exact ⟨_, (1), (by first | rfl | (simp; done) | (simp [*]; done)), H', ⟨by have := HJ3.out; have := HJ67.out; first | omega | exact Nat.le_refl _⟩, ⟨by (with_reducible repeat (first | apply Kd.R_alloc | apply Kd.R_drewN | apply Kd.R_drew)); exact Kd.R_mono (Kd.R_far (p := ⟨gb382, 2, none⟩) (Kd.R_far (p := ⟨gb382, 1, none⟩) (Kd.R_far (p := ⟨gb382, 0, none⟩) (Kd.R_types HO379.out BK382.out (by decide)) (fun _ hk => hk.2) (.bool t376)) (fun _ hk => hk.2) (.slice Ao219 t377.length co219)) (fun _ hk => hk.2) (.int .i64 t380)) (fun _ hk => trivial)⟩, ⟨by (with_reducible repeat (first | refine blk_drewN ?_ _ | refine blk_drew ?_ | refine blk_alloc ?_ _)); refine blk_far ?_ NB355_382.out _; (with_reducible repeat (first | refine blk_drewN ?_ _ | refine blk_drew ?_ | refine blk_alloc ?_ _)); refine blk_far ?_ NB355_382.out _; (with_reducible repeat (first | refine blk_drewN ?_ _ | refine blk_drew ?_ | refine blk_alloc ?_ _)); refine blk_far ?_ NB355_382.out _; (with_reducible repeat (first | refine blk_drewN ?_ _ | refine blk_drew ?_ | refine blk_alloc ?_ _)); exact BK355.out⟩, ⟨by (with_reducible repeat (first | refine blk_drewN ?_ _ | refine blk_drew ?_ | refine blk_alloc ?_ _)); refine blk_far ?_ NB356_382.out _; (with_reducible repeat (first | refine blk_drewN ?_ _ | refine blk_drew ?_ | refine blk_alloc ?_ _)); refine blk_far ?_ NB356_382.out _; (with_reducible repeat (first | refine blk_drewN ?_ _ | refine blk_drew ?_ | refine blk_alloc ?_ _)); refine blk_far ?_ NB356_382.out _; (with_reducible repeat (first | refine blk_drewN ?_ _ | refine blk_drew ?_ | refine blk_alloc ?_ _)); exact BK356.out⟩, ⟨by (with_reducible repeat (first | refine blk_drewN ?_ _ | refine blk_drew ?_ | refine blk_alloc ?_ _)); refine blk_far ?_ NB357_382.out _; (with_reducible repeat (first | refine blk_drewN ?_ _ | refine blk_drew ?_ | refine blk_alloc ?_ _)); refine blk_far ?_ NB357_382.out _; (with_reducible repeat (first | refine blk_drewN ?_ _ | refine blk_drew ?_ | refine blk_alloc ?_ _)); refine blk_far ?_ NB357_382.out _; (with_reducible repeat (first | refine blk_drewN ?_ _ | refine blk_drew ?_ | refine blk_alloc ?_ _)); exact BK357.out⟩, ⟨by (with_reducible repeat (first | refine blk_drewN ?_ _ | refine blk_drew ?_ | refine blk_alloc ?_ _)); refine blk_put (cs := #[.bool t376, .slice Ao219 t377.length co219, .int .i64 0]) ?_ 2 _ rfl; (with_reducible repeat (first | refine blk_drewN ?_ _ | refine blk_drew ?_ | refine blk_alloc ?_ _)); refine blk_put (cs := #[.bool t376, .slice none 0 0, .int .i64 0]) ?_ 1 _ rfl; (with_reducible repeat (first | refine blk_drewN ?_ _ | refine blk_drew ?_ | refine blk_alloc ?_ _)); refine blk_put (cs := #[.bool false, .slice none 0 0, .int .i64 0]) ?_ 0 _ rfl; (with_reducible repeat (first | refine blk_drewN ?_ _ | refine blk_drew ?_ | refine blk_alloc ?_ _)); exact BK382.out⟩, ⟨by repeat (first | (with_reducible first | exact HB.out | apply below_alloc | apply pw_below_drewN | apply below_drew1 | refine below_set ?_ GE355.out | refine below_set ?_ GE356.out | refine below_set ?_ GE357.out | refine below_set ?_ GE382.out) | exact HB.out)⟩⟩
              case rest =>
                clear HC209
                try clear c1
                try clear c2
                try clear p2
                try clear p6
                try clear c7
                try clear c8
                try clear c9
                try clear c10
                try clear c11
                try clear c12
                try clear c13
                try clear c14
                try clear c15
                try clear c16
                try clear c17
                try clear c18
                try clear c19
                try clear c20
                try clear c21
                try clear c22
                try clear c23
                try clear p64
                try clear c74
                try clear c74b0
                try clear c74b1
                try clear c75
                try clear c75b0
                try clear c76
                try clear c76b0
                try clear c77
                try clear c77b0
                try clear c78
                try clear c79
                try clear c81
                try clear c84
                try clear c84b0
                try clear c85
                try clear c85b0
                try clear c86
                try clear c86b0
                try clear c87
                try clear c88
                try clear c90
                try clear c94
                try clear c95
                try clear c97
                try clear c104
                try clear c105
                try clear c107
                try clear c114
                try clear c115
                try clear c117
                try clear c123
                try clear c123b0
                try clear c124
                try clear c124b0
                try clear c125
                try clear c125b0
                try clear c126
                try clear c127
                try clear c129
                try clear c133
                try clear c134
                try clear c136
                try clear c143
                try clear c144
                try clear c146
                try clear c153
                try clear c154
                try clear c156
                try clear c162
                try clear c162b0
                try clear c163
                try clear c163b0
                try clear c164
                try clear c164b0
                try clear c165
                try clear c166
                try clear c168
                try clear c172
                try clear c173
                try clear c175
                try clear c182
                try clear c183
                try clear c185
                try clear c192
                try clear c193
                try clear c195
                try clear c201
                try clear c202
                try clear c204
                try clear c207
                try clear c210
                try clear c211
                try clear c215
                try clear c216
                try clear c217
                try clear c220
                try clear c220b0
                try clear c220b1
                try clear c220b2
                try clear c221
                try clear c222
                try clear c223
                try clear c225
                try clear c226
                try clear c227
                try clear c228
                try clear c230
                try clear c231
                try clear c232
                try clear hcz100_0
                try clear hcz100_1
                try clear hcz100_2
                try clear hcz101_0
                try clear hcz101_1
                try clear hcz101_2
                try clear hcz106_0
                try clear hcz106_1
                try clear hcz106_2
                try clear hcz108_0
                try clear hcz108_1
                try clear hcz108_2
                try clear hcz110_0
                try clear hcz110_1
                try clear hcz110_2
                try clear hcz111_0
                try clear hcz111_1
                try clear hcz111_2
                try clear hcz116_0
                try clear hcz116_1
                try clear hcz116_2
                try clear hcz118_0
                try clear hcz118_1
                try clear hcz118_2
                try clear hcz120_0
                try clear hcz120_1
                try clear hcz120_2
                try clear hcz121_0
                try clear hcz121_1
                try clear hcz121_2
                try clear hcz128_0
                try clear hcz128_1
                try clear hcz128_2
                try clear hcz130_0
                try clear hcz130_1
                try clear hcz130_2
                try clear hcz135_0
                try clear hcz135_1
                try clear hcz135_2
                try clear hcz137_0
                try clear hcz137_1
                try clear hcz137_2
                try clear hcz139_0
                try clear hcz139_1
                try clear hcz139_2
                try clear hcz140_0
                try clear hcz140_1
                try clear hcz140_2
                try clear hcz145_0
                try clear hcz145_1
                try clear hcz145_2
                try clear hcz147_0
                try clear hcz147_1
                try clear hcz147_2
                try clear hcz149_0
                try clear hcz149_1
                try clear hcz149_2
                try clear hcz150_0
                try clear hcz150_1
                try clear hcz150_2
                try clear hcz155_0
                try clear hcz155_1
                try clear hcz155_2
                try clear hcz157_0
                try clear hcz157_1
                try clear hcz157_2
                try clear hcz159_0
                try clear hcz159_1
                try clear hcz159_2
                try clear hcz160_0
                try clear hcz160_1
                try clear hcz160_2
                try clear hcz167_0
                try clear hcz167_1
                try clear hcz167_2
                try clear hcz169_0
                try clear hcz169_1
                try clear hcz169_2
                try clear hcz174_0
                try clear hcz174_1
                try clear hcz174_2
                try clear hcz176_0
                try clear hcz176_1
                try clear hcz176_2
                try clear hcz178_0
                try clear hcz178_1
                try clear hcz178_2
                try clear hcz179_0
                try clear hcz179_1
                try clear hcz179_2
                try clear hcz184_0
                try clear hcz184_1
                try clear hcz184_2
                try clear hcz186_0
                try clear hcz186_1
                try clear hcz186_2
                try clear hcz188_0
                try clear hcz188_1
                try clear hcz188_2
                try clear hcz189_0
                try clear hcz189_1
                try clear hcz189_2
                try clear hcz194_0
                try clear hcz194_1
                try clear hcz194_2
                try clear hcz196_0
                try clear hcz196_1
                try clear hcz196_2
                try clear hcz198_0
                try clear hcz198_1
                try clear hcz198_2
                try clear hcz199_0
                try clear hcz199_1
                try clear hcz199_2
                try clear hcz203_0
                try clear hcz203_1
                try clear hcz203_2
                try clear hcz205_0
                try clear hcz205_1
                try clear hcz205_2
                try clear hcz212_0
                try clear hcz212_1
                try clear hcz212_2
                try clear hcz218_0
                try clear hcz218_1
                try clear hcz218_2
                try clear hcz224_0
                try clear hcz224_1
                try clear hcz224_2
                try clear hcz229_0
                try clear hcz229_1
                try clear hcz229_2
                try clear hcz233_0
                try clear hcz233_1
                try clear hcz233_2
                try clear hcz80_0
                try clear hcz80_1
                try clear hcz80_2
                try clear hcz82_0
                try clear hcz82_1
                try clear hcz82_2
                try clear hcz89_0
                try clear hcz89_1
                try clear hcz89_2
                try clear hcz91_0
                try clear hcz91_1
                try clear hcz91_2
                try clear hcz96_0
                try clear hcz96_1
                try clear hcz96_2
                try clear hcz98_0
                try clear hcz98_1
                try clear hcz98_2
                try clear hfz100_0
                try clear hfz100_1
                try clear hfz100_2
                try clear hfz101_0
                try clear hfz101_1
                try clear hfz101_2
                try clear hfz106_0
                try clear hfz106_1
                try clear hfz106_2
                try clear hfz108_0
                try clear hfz108_1
                try clear hfz108_2
                try clear hfz110_0
                try clear hfz110_1
                try clear hfz110_2
                try clear hfz111_0
                try clear hfz111_1
                try clear hfz111_2
                try clear hfz116_0
                try clear hfz116_1
                try clear hfz116_2
                try clear hfz118_0
                try clear hfz118_1
                try clear hfz118_2
                try clear hfz120_0
                try clear hfz120_1
                try clear hfz120_2
                try clear hfz121_0
                try clear hfz121_1
                try clear hfz121_2
                try clear hfz128_0
                try clear hfz128_1
                try clear hfz128_2
                try clear hfz130_0
                try clear hfz130_1
                try clear hfz130_2
                try clear hfz135_0
                try clear hfz135_1
                try clear hfz135_2
                try clear hfz137_0
                try clear hfz137_1
                try clear hfz137_2
                try clear hfz139_0
                try clear hfz139_1
                try clear hfz139_2
                try clear hfz140_0
                try clear hfz140_1
                try clear hfz140_2
                try clear hfz145_0
                try clear hfz145_1
                try clear hfz145_2
                try clear hfz147_0
                try clear hfz147_1
                try clear hfz147_2
                try clear hfz149_0
                try clear hfz149_1
                try clear hfz149_2
                try clear hfz150_0
                try clear hfz150_1
                try clear hfz150_2
                try clear hfz155_0
                try clear hfz155_1
                try clear hfz155_2
                try clear hfz157_0
                try clear hfz157_1
                try clear hfz157_2
                try clear hfz159_0
                try clear hfz159_1
                try clear hfz159_2
                try clear hfz160_0
                try clear hfz160_1
                try clear hfz160_2
                try clear hfz167_0
                try clear hfz167_1
                try clear hfz167_2
                try clear hfz169_0
                try clear hfz169_1
                try clear hfz169_2
                try clear hfz174_0
                try clear hfz174_1
                try clear hfz174_2
                try clear hfz176_0
                try clear hfz176_1
                try clear hfz176_2
                try clear hfz178_0
                try clear hfz178_1
                try clear hfz178_2
                try clear hfz179_0
                try clear hfz179_1
                try clear hfz179_2
                try clear hfz184_0
                try clear hfz184_1
                try clear hfz184_2
                try clear hfz186_0
                try clear hfz186_1
                try clear hfz186_2
                try clear hfz188_0
                try clear hfz188_1
                try clear hfz188_2
                try clear hfz189_0
                try clear hfz189_1
                try clear hfz189_2
                try clear hfz194_0
                try clear hfz194_1
                try clear hfz194_2
                try clear hfz196_0
                try clear hfz196_1
                try clear hfz196_2
                try clear hfz198_0
                try clear hfz198_1
                try clear hfz198_2
                try clear hfz199_0
                try clear hfz199_1
                try clear hfz199_2
                try clear hfz203_0
                try clear hfz203_1
                try clear hfz203_2
                try clear hfz205_0
                try clear hfz205_1
                try clear hfz205_2
                try clear hfz212_0
                try clear hfz212_1
                try clear hfz212_2
                try clear hfz218_0
                try clear hfz218_1
                try clear hfz218_2
                try clear hfz224_0
                try clear hfz224_1
                try clear hfz224_2
                try clear hfz229_0
                try clear hfz229_1
                try clear hfz229_2
                try clear hfz233_0
                try clear hfz233_1
                try clear hfz233_2
                try clear hfz80_0
                try clear hfz80_1
                try clear hfz80_2
                try clear hfz82_0
                try clear hfz82_1
                try clear hfz82_2
                try clear hfz89_0
                try clear hfz89_1
                try clear hfz89_2
                try clear hfz91_0
                try clear hfz91_1
                try clear hfz91_2
                try clear hfz96_0
                try clear hfz96_1
                try clear hfz96_2
                try clear hfz98_0
                try clear hfz98_1
                try clear hfz98_2
                try clear p2
                try clear p6
                try clear p64
                obtain ⟨kq, x12_208, rfl, HA, HJ208, HO_383001, BK355, BK356, BK357, BK382, HB⟩ := hcut
                cases kq with
                | zero => exact absurd HA.out (by simp [erratumlaw02_NumOrders.j2])
                | succ kj208 =>
                  have H := HA.out
                  clear HA
                  simp only [erratumlaw02_NumOrders.j2] at H
                  by_cases c234 : t381 = true
                  · subst c234
                    have H1 : ((num_Cmp.f kj208 t376 t377 t380 a0_0 l0_1 a0_2).bind fun t383 => (if t383 = x12_208 then ((num_Cmp.f kj208 a0_0 l0_1 a0_2 a0_0 l0_1 a0_2).bind fun t384 => (if t384 = 0 then ((erratumlaw02_awake.f kj208).bind fun t385 => (some t385)) else (some false))) else (some false))) = some r := by rw [if_pos rfl] at H; exact H
                    clear H
                    have H := H1
                    clear H1
                    replace H := Option.bind_eq_some_iff.mp H
                    obtain ⟨t383, A2350, H⟩ := H
                    replace H : (if t383 = x12_208 then ((num_Cmp.f kj208 a0_0 l0_1 a0_2 a0_0 l0_1 a0_2).bind fun t384 => (if t384 = 0 then ((erratumlaw02_awake.f kj208).bind fun t385 => (some t385)) else (some false))) else (some false)) = some r := H
                    have A235 := Aside0.mk A2350
                    clear A2350
                    by_cases c236 : t383 = x12_208
                    · rw [if_pos c236] at H
                      have c236b0 : (t383 == x12_208) = true := beq_iff_eq.mpr c236
                      have c236b1 : (t383 != x12_208) = false := bne_eq_false_iff_eq.mpr c236
                      clear c236
                      replace H := Option.bind_eq_some_iff.mp H
                      obtain ⟨t384, A2370, H⟩ := H
                      replace H : (if t384 = 0 then ((erratumlaw02_awake.f kj208).bind fun t385 => (some t385)) else (some false)) = some r := H
                      have A237 := Aside0.mk A2370
                      clear A2370
                      by_cases c238 : t384 = 0
                      · rw [if_pos c238] at H
                        have c238b0 : (t384 == 0) = true := beq_iff_eq.mpr c238
                        have c238b1 : (t384 != 0) = false := bne_eq_false_iff_eq.mpr c238
                        clear c238
                        replace H := Option.bind_eq_some_iff.mp H
                        obtain ⟨t385, A2390, H⟩ := H
                        replace H : (some t385) = some r := H
                        have A239 := Aside0.mk A2390
                        clear A2390
                        obtain rfl := Option.some.inj H
                        have hnb240 := NB382_355.out
                        have hnc240 := NB355_382.out
                        have hnb241 := NB382_356.out
                        have hnc241 := NB356_382.out
                        have hnb242 := NB382_357.out
                        have hnc242 := NB357_382.out
                        have hcz243_0 : wc.cell? ⟨gb382, 0, none⟩ = some (.bool t376) := (blk_cell BK382.out 0).trans rfl
                        have hcz243_1 : wc.cell? ⟨gb382, 1, none⟩ = some (.slice Ao219 t377.length co219) := (blk_cell BK382.out 1).trans rfl
                        have hcz243_2 : wc.cell? ⟨gb382, 2, none⟩ = some (.int .i64 t380) := (blk_cell BK382.out 2).trans rfl
                        have hfz243_0 := blk_frozen BK382.out 0
                        have hfz243_1 := blk_frozen BK382.out 1
                        have hfz243_2 := blk_frozen BK382.out 2
                        have hnb244 := NB355_356.out
                        have hnc244 := NB356_355.out
                        have hnb245 := NB355_357.out
                        have hnc245 := NB357_355.out
                        have hcz246_0 : wc.cell? ⟨gb355, 0, none⟩ = some (.bool a0_0) := (blk_cell BK355.out 0).trans rfl
                        have hcz246_1 : wc.cell? ⟨gb355, 1, none⟩ = some (.slice A0_1 l0_1.length c0_1) := (blk_cell BK355.out 1).trans rfl
                        have hcz246_2 : wc.cell? ⟨gb355, 2, none⟩ = some (.int .i64 a0_2) := (blk_cell BK355.out 2).trans rfl
                        have hfz246_0 := blk_frozen BK355.out 0
                        have hfz246_1 := blk_frozen BK355.out 1
                        have hfz246_2 := blk_frozen BK355.out 2
                        go_wp2_with (first | (go_at_call 21; (with_reducible refine (num_Cmp.calls kj208 t376 _ _ t377 t380 a0_0 _ _ l0_1 a0_2 t383 _ ?side1 ?side2 ?side3 ?side4 A235.out).mono ?_); (case side1 => repeat (first | exact (Kd.R_reads' HO_383001.out).2.2 | (with_reducible refine Kd.C_alloc ?_ _) | (with_reducible refine Kd.C_drewN ?_ _) | (with_reducible refine Kd.C_drew ?_))); (case side2 => exact (Kd.R_reads' HO_383001.out).2.1); (case side3 => repeat (first | exact (Kd.C_below HR0_1.out HB.out) | (with_reducible refine Kd.C_alloc ?_ _) | (with_reducible refine Kd.C_drewN ?_ _) | (with_reducible refine Kd.C_drew ?_))); (case side4 => exact HC0_1.out); rintro e w247 ⟨rfl, hb⟩; have n0_ := Aside0.mk (Kd.R_below (by (with_reducible repeat (first | apply Kd.R_alloc | apply Kd.R_drewN | apply Kd.R_drew)); exact HO_383001.out) hb); have n1_ := Aside0.mk (blk_below (g := gb355) (o := .cells #[.bool a0_0, .slice A0_1 l0_1.length c0_1, .int .i64 a0_2] 25 (0, 0)) (by (with_reducible repeat (first | refine blk_drewN ?_ _ | refine blk_drew ?_ | refine blk_alloc ?_ _)); exact BK355.out) hb); have n2_ := Aside0.mk (blk_below (g := gb356) (o := .cells #[.bool a1_0, .slice A1_1 l1_1.length c1_1, .int .i64 a1_2] 25 (0, 0)) (by (with_reducible repeat (first | refine blk_drewN ?_ _ | refine blk_drew ?_ | refine blk_alloc ?_ _)); exact BK356.out) hb); have n3_ := Aside0.mk (blk_below (g := gb357) (o := .cells #[.bool a2_0, .slice A2_1 l2_1.length c2_1, .int .i64 a2_2] 25 (0, 0)) (by (with_reducible repeat (first | refine blk_drewN ?_ _ | refine blk_drew ?_ | refine blk_alloc ?_ _)); exact BK357.out) hb); have n4_ := Aside0.mk (blk_below (g := gb382) (o := .cells #[.bool t376, .slice Ao219 t377.length co219, .int .i64 t380] 25 (0, 0)) (by (with_reducible repeat (first | refine blk_drewN ?_ _ | refine blk_drew ?_ | refine blk_alloc ?_ _)); exact BK382.out) hb); have n5_ := Aside0.mk (below_step (by repeat (first | (with_reducible first | exact HB.out | apply below_alloc | apply pw_below_drewN | apply below_drew1 | refine below_set ?_ GE355.out | refine below_set ?_ GE356.out | refine below_set ?_ GE357.out | refine below_set ?_ GE382.out) | exact HB.out)) hb); clear HO_383001; clear BK355; clear BK356; clear BK357; clear BK382; clear HB; have HO_383001 := n0_; have BK355 := n1_; have BK356 := n2_; have BK357 := n3_; have BK382 := n4_; have HB := n5_; clear n0_ n1_ n2_ n3_ n4_ n5_; (try clear hb); (try clear hb2); (try clear hk); (try clear hi); have hcz248_0 : w247.cell? ⟨gb355, 0, none⟩ = some (.bool a0_0) := (blk_cell BK355.out 0).trans rfl; have hcz248_1 : w247.cell? ⟨gb355, 1, none⟩ = some (.slice A0_1 l0_1.length c0_1) := (blk_cell BK355.out 1).trans rfl; have hcz248_2 : w247.cell? ⟨gb355, 2, none⟩ = some (.int .i64 a0_2) := (blk_cell BK355.out 2).trans rfl; have hfz248_0 := blk_frozen BK355.out 0; have hfz248_1 := blk_frozen BK355.out 1; have hfz248_2 := blk_frozen BK355.out 2) | (go_at_call 21; (with_reducible refine (num_Cmp.calls kj208 a0_0 _ _ l0_1 a0_2 a0_0 _ _ l0_1 a0_2 t384 _ ?side1 ?side2 ?side3 ?side4 A237.out).mono ?_); (case side1 => repeat (first | exact (Kd.C_below HR0_1.out HB.out) | (with_reducible refine Kd.C_alloc ?_ _) | (with_reducible refine Kd.C_drewN ?_ _) | (with_reducible refine Kd.C_drew ?_))); (case side2 => exact HC0_1.out); (case side3 => repeat (first | exact (Kd.C_below HR0_1.out HB.out) | (with_reducible refine Kd.C_alloc ?_ _) | (with_reducible refine Kd.C_drewN ?_ _) | (with_reducible refine Kd.C_drew ?_))); (case side4 => exact HC0_1.out); rintro e w249 ⟨rfl, hb⟩; have n0_ := Aside0.mk (Kd.R_below (by (with_reducible repeat (first | apply Kd.R_alloc | apply Kd.R_drewN | apply Kd.R_drew)); exact HO_383001.out) hb); have n1_ := Aside0.mk (blk_below (g := gb355) (o := .cells #[.bool a0_0, .slice A0_1 l0_1.length c0_1, .int .i64 a0_2] 25 (0, 0)) (by (with_reducible repeat (first | refine blk_drewN ?_ _ | refine blk_drew ?_ | refine blk_alloc ?_ _)); exact BK355.out) hb); have n2_ := Aside0.mk (blk_below (g := gb356) (o := .cells #[.bool a1_0, .slice A1_1 l1_1.length c1_1, .int .i64 a1_2] 25 (0, 0)) (by (with_reducible repeat (first | refine blk_drewN ?_ _ | refine blk_drew ?_ | refine blk_alloc ?_ _)); exact BK356.out) hb); have n3_ := Aside0.mk (blk_below (g := gb357) (o := .cells #[.bool a2_0, .slice A2_1 l2_1.length c2_1, .int .i64 a2_2] 25 (0, 0)) (by (with_reducible repeat (first | refine blk_drewN ?_ _ | refine blk_drew ?_ | refine blk_alloc ?_ _)); exact BK357.out) hb); have n4_ := Aside0.mk (blk_below (g := gb382) (o := .cells #[.bool t376, .slice Ao219 t377.length co219, .int .i64 t380] 25 (0, 0)) (by (with_reducible repeat (first | refine blk_drewN ?_ _ | refine blk_drew ?_ | refine blk_alloc ?_ _)); exact BK382.out) hb); have n5_ := Aside0.mk (below_step (by repeat (first | (with_reducible first | exact HB.out | apply below_alloc | apply pw_below_drewN | apply below_drew1 | refine below_set ?_ GE355.out | refine below_set ?_ GE356.out | refine below_set ?_ GE357.out | refine below_set ?_ GE382.out) | exact HB.out)) hb); clear HO_383001; clear BK355; clear BK356; clear BK357; clear BK382; clear HB; have HO_383001 := n0_; have BK355 := n1_; have BK356 := n2_; have BK357 := n3_; have BK382 := n4_; have HB := n5_; clear n0_ n1_ n2_ n3_ n4_ n5_; (try clear hb); (try clear hb2); (try clear hk); (try clear hi)) | (go_at_call 9; (with_reducible refine (erratumlaw02_awake.calls kj208  t385 _ ?side1 A239.out).mono ?_); (case side1 => first | exact hL.out | exact hL.out.drewN _ | exact hL.out.drew | exact hL.out.below (by repeat (first | (with_reducible first | exact HB.out | apply below_alloc | apply pw_below_drewN | apply below_drew1 | refine below_set ?_ GE355.out | refine below_set ?_ GE356.out | refine below_set ?_ GE357.out | refine below_set ?_ GE382.out) | exact HB.out))); rintro e w250 ⟨rfl, hb⟩; have n0_ := Aside0.mk (Kd.R_below (by (with_reducible repeat (first | apply Kd.R_alloc | apply Kd.R_drewN | apply Kd.R_drew)); exact HO_383001.out) hb); have n1_ := Aside0.mk (blk_below (g := gb355) (o := .cells #[.bool a0_0, .slice A0_1 l0_1.length c0_1, .int .i64 a0_2] 25 (0, 0)) (by (with_reducible repeat (first | refine blk_drewN ?_ _ | refine blk_drew ?_ | refine blk_alloc ?_ _)); exact BK355.out) hb); have n2_ := Aside0.mk (blk_below (g := gb356) (o := .cells #[.bool a1_0, .slice A1_1 l1_1.length c1_1, .int .i64 a1_2] 25 (0, 0)) (by (with_reducible repeat (first | refine blk_drewN ?_ _ | refine blk_drew ?_ | refine blk_alloc ?_ _)); exact BK356.out) hb); have n3_ := Aside0.mk (blk_below (g := gb357) (o := .cells #[.bool a2_0, .slice A2_1 l2_1.length c2_1, .int .i64 a2_2] 25 (0, 0)) (by (with_reducible repeat (first | refine blk_drewN ?_ _ | refine blk_drew ?_ | refine blk_alloc ?_ _)); exact BK357.out) hb); have n4_ := Aside0.mk (blk_below (g := gb382) (o := .cells #[.bool t376, .slice Ao219 t377.length co219, .int .i64 t380] 25 (0, 0)) (by (with_reducible repeat (first | refine blk_drewN ?_ _ | refine blk_drew ?_ | refine blk_alloc ?_ _)); exact BK382.out) hb); have n5_ := Aside0.mk (below_step (by repeat (first | (with_reducible first | exact HB.out | apply below_alloc | apply pw_below_drewN | apply below_drew1 | refine below_set ?_ GE355.out | refine below_set ?_ GE356.out | refine below_set ?_ GE357.out | refine below_set ?_ GE382.out) | exact HB.out)) hb); clear HO_383001; clear BK355; clear BK356; clear BK357; clear BK382; clear HB; have HO_383001 := n0_; have BK355 := n1_; have BK356 := n2_; have BK357 := n3_; have BK382 := n4_; have HB := n5_; clear n0_ n1_ n2_ n3_ n4_ n5_; (try clear hb); (try clear hb2); (try clear hk); (try clear hi)))
                        go_ret
                        exact ⟨by first | rfl | (simp [errW_none, errW_some] <;> rfl) | (simp [*, errW_none, errW_some] <;> rfl), by repeat (first | (with_reducible first | exact HB.out | apply below_alloc | apply pw_below_drewN | apply below_drew1 | refine below_set ?_ GE355.out | refine below_set ?_ GE356.out | refine below_set ?_ GE357.out | refine below_set ?_ GE382.out) | exact HB.out)⟩
                      · rw [if_neg c238] at H
                        have c238b0 : (t384 == 0) = false := beq_eq_false_iff_ne.mpr c238
                        have c238b1 : (t384 != 0) = true := bne_iff_ne.mpr c238
                        obtain rfl := Option.some.inj H
                        have hnb251 := NB382_355.out
                        have hnc251 := NB355_382.out
                        have hnb252 := NB382_356.out
                        have hnc252 := NB356_382.out
                        have hnb253 := NB382_357.out
                        have hnc253 := NB357_382.out
                        have hcz254_0 : wc.cell? ⟨gb382, 0, none⟩ = some (.bool t376) := (blk_cell BK382.out 0).trans rfl
                        have hcz254_1 : wc.cell? ⟨gb382, 1, none⟩ = some (.slice Ao219 t377.length co219) := (blk_cell BK382.out 1).trans rfl
                        have hcz254_2 : wc.cell? ⟨gb382, 2, none⟩ = some (.int .i64 t380) := (blk_cell BK382.out 2).trans rfl
                        have hfz254_0 := blk_frozen BK382.out 0
                        have hfz254_1 := blk_frozen BK382.out 1
                        have hfz254_2 := blk_frozen BK382.out 2
                        have hnb255 := NB355_356.out
                        have hnc255 := NB356_355.out
                        have hnb256 := NB355_357.out
                        have hnc256 := NB357_355.out
                        have hcz257_0 : wc.cell? ⟨gb355, 0, none⟩ = some (.bool a0_0) := (blk_cell BK355.out 0).trans rfl
                        have hcz257_1 : wc.cell? ⟨gb355, 1, none⟩ = some (.slice A0_1 l0_1.length c0_1) := (blk_cell BK355.out 1).trans rfl
                        have hcz257_2 : wc.cell? ⟨gb355, 2, none⟩ = some (.int .i64 a0_2) := (blk_cell BK355.out 2).trans rfl
                        have hfz257_0 := blk_frozen BK355.out 0
                        have hfz257_1 := blk_frozen BK355.out 1
                        have hfz257_2 := blk_frozen BK355.out 2
                        go_wp2_with (first | (go_at_call 21; (with_reducible refine (num_Cmp.calls kj208 t376 _ _ t377 t380 a0_0 _ _ l0_1 a0_2 t383 _ ?side1 ?side2 ?side3 ?side4 A235.out).mono ?_); (case side1 => repeat (first | exact (Kd.R_reads' HO_383001.out).2.2 | (with_reducible refine Kd.C_alloc ?_ _) | (with_reducible refine Kd.C_drewN ?_ _) | (with_reducible refine Kd.C_drew ?_))); (case side2 => exact (Kd.R_reads' HO_383001.out).2.1); (case side3 => repeat (first | exact (Kd.C_below HR0_1.out HB.out) | (with_reducible refine Kd.C_alloc ?_ _) | (with_reducible refine Kd.C_drewN ?_ _) | (with_reducible refine Kd.C_drew ?_))); (case side4 => exact HC0_1.out); rintro e w258 ⟨rfl, hb⟩; have n0_ := Aside0.mk (Kd.R_below (by (with_reducible repeat (first | apply Kd.R_alloc | apply Kd.R_drewN | apply Kd.R_drew)); exact HO_383001.out) hb); have n1_ := Aside0.mk (blk_below (g := gb355) (o := .cells #[.bool a0_0, .slice A0_1 l0_1.length c0_1, .int .i64 a0_2] 25 (0, 0)) (by (with_reducible repeat (first | refine blk_drewN ?_ _ | refine blk_drew ?_ | refine blk_alloc ?_ _)); exact BK355.out) hb); have n2_ := Aside0.mk (blk_below (g := gb356) (o := .cells #[.bool a1_0, .slice A1_1 l1_1.length c1_1, .int .i64 a1_2] 25 (0, 0)) (by (with_reducible repeat (first | refine blk_drewN ?_ _ | refine blk_drew ?_ | refine blk_alloc ?_ _)); exact BK356.out) hb); have n3_ := Aside0.mk (blk_below (g := gb357) (o := .cells #[.bool a2_0, .slice A2_1 l2_1.length c2_1, .int .i64 a2_2] 25 (0, 0)) (by (with_reducible repeat (first | refine blk_drewN ?_ _ | refine blk_drew ?_ | refine blk_alloc ?_ _)); exact BK357.out) hb); have n4_ := Aside0.mk (blk_below (g := gb382) (o := .cells #[.bool t376, .slice Ao219 t377.length co219, .int .i64 t380] 25 (0, 0)) (by (with_reducible repeat (first | refine blk_drewN ?_ _ | refine blk_drew ?_ | refine blk_alloc ?_ _)); exact BK382.out) hb); have n5_ := Aside0.mk (below_step (by repeat (first | (with_reducible first | exact HB.out | apply below_alloc | apply pw_below_drewN | apply below_drew1 | refine below_set ?_ GE355.out | refine below_set ?_ GE356.out | refine below_set ?_ GE357.out | refine below_set ?_ GE382.out) | exact HB.out)) hb); clear HO_383001; clear BK355; clear BK356; clear BK357; clear BK382; clear HB; have HO_383001 := n0_; have BK355 := n1_; have BK356 := n2_; have BK357 := n3_; have BK382 := n4_; have HB := n5_; clear n0_ n1_ n2_ n3_ n4_ n5_; (try clear hb); (try clear hb2); (try clear hk); (try clear hi); have hcz259_0 : w258.cell? ⟨gb355, 0, none⟩ = some (.bool a0_0) := (blk_cell BK355.out 0).trans rfl; have hcz259_1 : w258.cell? ⟨gb355, 1, none⟩ = some (.slice A0_1 l0_1.length c0_1) := (blk_cell BK355.out 1).trans rfl; have hcz259_2 : w258.cell? ⟨gb355, 2, none⟩ = some (.int .i64 a0_2) := (blk_cell BK355.out 2).trans rfl; have hfz259_0 := blk_frozen BK355.out 0; have hfz259_1 := blk_frozen BK355.out 1; have hfz259_2 := blk_frozen BK355.out 2) | (go_at_call 21; (with_reducible refine (num_Cmp.calls kj208 a0_0 _ _ l0_1 a0_2 a0_0 _ _ l0_1 a0_2 t384 _ ?side1 ?side2 ?side3 ?side4 A237.out).mono ?_); (case side1 => repeat (first | exact (Kd.C_below HR0_1.out HB.out) | (with_reducible refine Kd.C_alloc ?_ _) | (with_reducible refine Kd.C_drewN ?_ _) | (with_reducible refine Kd.C_drew ?_))); (case side2 => exact HC0_1.out); (case side3 => repeat (first | exact (Kd.C_below HR0_1.out HB.out) | (with_reducible refine Kd.C_alloc ?_ _) | (with_reducible refine Kd.C_drewN ?_ _) | (with_reducible refine Kd.C_drew ?_))); (case side4 => exact HC0_1.out); rintro e w260 ⟨rfl, hb⟩; have n0_ := Aside0.mk (Kd.R_below (by (with_reducible repeat (first | apply Kd.R_alloc | apply Kd.R_drewN | apply Kd.R_drew)); exact HO_383001.out) hb); have n1_ := Aside0.mk (blk_below (g := gb355) (o := .cells #[.bool a0_0, .slice A0_1 l0_1.length c0_1, .int .i64 a0_2] 25 (0, 0)) (by (with_reducible repeat (first | refine blk_drewN ?_ _ | refine blk_drew ?_ | refine blk_alloc ?_ _)); exact BK355.out) hb); have n2_ := Aside0.mk (blk_below (g := gb356) (o := .cells #[.bool a1_0, .slice A1_1 l1_1.length c1_1, .int .i64 a1_2] 25 (0, 0)) (by (with_reducible repeat (first | refine blk_drewN ?_ _ | refine blk_drew ?_ | refine blk_alloc ?_ _)); exact BK356.out) hb); have n3_ := Aside0.mk (blk_below (g := gb357) (o := .cells #[.bool a2_0, .slice A2_1 l2_1.length c2_1, .int .i64 a2_2] 25 (0, 0)) (by (with_reducible repeat (first | refine blk_drewN ?_ _ | refine blk_drew ?_ | refine blk_alloc ?_ _)); exact BK357.out) hb); have n4_ := Aside0.mk (blk_below (g := gb382) (o := .cells #[.bool t376, .slice Ao219 t377.length co219, .int .i64 t380] 25 (0, 0)) (by (with_reducible repeat (first | refine blk_drewN ?_ _ | refine blk_drew ?_ | refine blk_alloc ?_ _)); exact BK382.out) hb); have n5_ := Aside0.mk (below_step (by repeat (first | (with_reducible first | exact HB.out | apply below_alloc | apply pw_below_drewN | apply below_drew1 | refine below_set ?_ GE355.out | refine below_set ?_ GE356.out | refine below_set ?_ GE357.out | refine below_set ?_ GE382.out) | exact HB.out)) hb); clear HO_383001; clear BK355; clear BK356; clear BK357; clear BK382; clear HB; have HO_383001 := n0_; have BK355 := n1_; have BK356 := n2_; have BK357 := n3_; have BK382 := n4_; have HB := n5_; clear n0_ n1_ n2_ n3_ n4_ n5_; (try clear hb); (try clear hb2); (try clear hk); (try clear hi)))
                        go_ret
                        exact ⟨by first | rfl | (simp [errW_none, errW_some] <;> rfl) | (simp [*, errW_none, errW_some] <;> rfl), by repeat (first | (with_reducible first | exact HB.out | apply below_alloc | apply pw_below_drewN | apply below_drew1 | refine below_set ?_ GE355.out | refine below_set ?_ GE356.out | refine below_set ?_ GE357.out | refine below_set ?_ GE382.out) | exact HB.out)⟩
                    · rw [if_neg c236] at H
                      have c236b0 : (t383 == x12_208) = false := beq_eq_false_iff_ne.mpr c236
                      have c236b1 : (t383 != x12_208) = true := bne_iff_ne.mpr c236
                      obtain rfl := Option.some.inj H
                      have hnb261 := NB382_355.out
                      have hnc261 := NB355_382.out
                      have hnb262 := NB382_356.out
                      have hnc262 := NB356_382.out
                      have hnb263 := NB382_357.out
                      have hnc263 := NB357_382.out
                      have hcz264_0 : wc.cell? ⟨gb382, 0, none⟩ = some (.bool t376) := (blk_cell BK382.out 0).trans rfl
                      have hcz264_1 : wc.cell? ⟨gb382, 1, none⟩ = some (.slice Ao219 t377.length co219) := (blk_cell BK382.out 1).trans rfl
                      have hcz264_2 : wc.cell? ⟨gb382, 2, none⟩ = some (.int .i64 t380) := (blk_cell BK382.out 2).trans rfl
                      have hfz264_0 := blk_frozen BK382.out 0
                      have hfz264_1 := blk_frozen BK382.out 1
                      have hfz264_2 := blk_frozen BK382.out 2
                      have hnb265 := NB355_356.out
                      have hnc265 := NB356_355.out
                      have hnb266 := NB355_357.out
                      have hnc266 := NB357_355.out
                      have hcz267_0 : wc.cell? ⟨gb355, 0, none⟩ = some (.bool a0_0) := (blk_cell BK355.out 0).trans rfl
                      have hcz267_1 : wc.cell? ⟨gb355, 1, none⟩ = some (.slice A0_1 l0_1.length c0_1) := (blk_cell BK355.out 1).trans rfl
                      have hcz267_2 : wc.cell? ⟨gb355, 2, none⟩ = some (.int .i64 a0_2) := (blk_cell BK355.out 2).trans rfl
                      have hfz267_0 := blk_frozen BK355.out 0
                      have hfz267_1 := blk_frozen BK355.out 1
                      have hfz267_2 := blk_frozen BK355.out 2
                      go_wp2_with (first | (go_at_call 21; (with_reducible refine (num_Cmp.calls kj208 t376 _ _ t377 t380 a0_0 _ _ l0_1 a0_2 t383 _ ?side1 ?side2 ?side3 ?side4 A235.out).mono ?_); (case side1 => repeat (first | exact (Kd.R_reads' HO_383001.out).2.2 | (with_reducible refine Kd.C_alloc ?_ _) | (with_reducible refine Kd.C_drewN ?_ _) | (with_reducible refine Kd.C_drew ?_))); (case side2 => exact (Kd.R_reads' HO_383001.out).2.1); (case side3 => repeat (first | exact (Kd.C_below HR0_1.out HB.out) | (with_reducible refine Kd.C_alloc ?_ _) | (with_reducible refine Kd.C_drewN ?_ _) | (with_reducible refine Kd.C_drew ?_))); (case side4 => exact HC0_1.out); rintro e w268 ⟨rfl, hb⟩; have n0_ := Aside0.mk (Kd.R_below (by (with_reducible repeat (first | apply Kd.R_alloc | apply Kd.R_drewN | apply Kd.R_drew)); exact HO_383001.out) hb); have n1_ := Aside0.mk (blk_below (g := gb355) (o := .cells #[.bool a0_0, .slice A0_1 l0_1.length c0_1, .int .i64 a0_2] 25 (0, 0)) (by (with_reducible repeat (first | refine blk_drewN ?_ _ | refine blk_drew ?_ | refine blk_alloc ?_ _)); exact BK355.out) hb); have n2_ := Aside0.mk (blk_below (g := gb356) (o := .cells #[.bool a1_0, .slice A1_1 l1_1.length c1_1, .int .i64 a1_2] 25 (0, 0)) (by (with_reducible repeat (first | refine blk_drewN ?_ _ | refine blk_drew ?_ | refine blk_alloc ?_ _)); exact BK356.out) hb); have n3_ := Aside0.mk (blk_below (g := gb357) (o := .cells #[.bool a2_0, .slice A2_1 l2_1.length c2_1, .int .i64 a2_2] 25 (0, 0)) (by (with_reducible repeat (first | refine blk_drewN ?_ _ | refine blk_drew ?_ | refine blk_alloc ?_ _)); exact BK357.out) hb); have n4_ := Aside0.mk (blk_below (g := gb382) (o := .cells #[.bool t376, .slice Ao219 t377.length co219, .int .i64 t380] 25 (0, 0)) (by (with_reducible repeat (first | refine blk_drewN ?_ _ | refine blk_drew ?_ | refine blk_alloc ?_ _)); exact BK382.out) hb); have n5_ := Aside0.mk (below_step (by repeat (first | (with_reducible first | exact HB.out | apply below_alloc | apply pw_below_drewN | apply below_drew1 | refine below_set ?_ GE355.out | refine below_set ?_ GE356.out | refine below_set ?_ GE357.out | refine below_set ?_ GE382.out) | exact HB.out)) hb); clear HO_383001; clear BK355; clear BK356; clear BK357; clear BK382; clear HB; have HO_383001 := n0_; have BK355 := n1_; have BK356 := n2_; have BK357 := n3_; have BK382 := n4_; have HB := n5_; clear n0_ n1_ n2_ n3_ n4_ n5_; (try clear hb); (try clear hb2); (try clear hk); (try clear hi)))
                      go_ret
                      exact ⟨by first | rfl | (simp [errW_none, errW_some] <;> rfl) | (simp [*, errW_none, errW_some] <;> rfl), by repeat (first | (with_reducible first | exact HB.out | apply below_alloc | apply pw_below_drewN | apply below_drew1 | refine below_set ?_ GE355.out | refine below_set ?_ GE356.out | refine below_set ?_ GE357.out | refine below_set ?_ GE382.out) | exact HB.out)⟩
                  · replace c234 := Bool.eq_false_iff.mpr c234
                    subst c234
                    have H1 : (if a0_2 = 1200 then ((num_Cmp.f kj208 a0_0 l0_1 a0_2 a0_0 l0_1 a0_2).bind fun t386 => (if t386 = 0 then ((erratumlaw02_awake.f kj208).bind fun t387 => (some t387)) else (some false))) else (some false)) = some r := by rw [if_neg (show ¬ (false = true) by decide)] at H; exact H
                    clear H
                    have H := H1
                    clear H1
                    by_cases c269 : a0_2 = 1200
                    · rw [if_pos c269] at H
                      have c269b0 : (a0_2 == 1200) = true := beq_iff_eq.mpr c269
                      have c269b1 : (a0_2 != 1200) = false := bne_eq_false_iff_eq.mpr c269
                      clear c269
                      replace H := Option.bind_eq_some_iff.mp H
                      obtain ⟨t386, A2700, H⟩ := H
                      replace H : (if t386 = 0 then ((erratumlaw02_awake.f kj208).bind fun t387 => (some t387)) else (some false)) = some r := H
                      have A270 := Aside0.mk A2700
                      clear A2700
                      by_cases c271 : t386 = 0
                      · rw [if_pos c271] at H
                        have c271b0 : (t386 == 0) = true := beq_iff_eq.mpr c271
                        have c271b1 : (t386 != 0) = false := bne_eq_false_iff_eq.mpr c271
                        clear c271
                        replace H := Option.bind_eq_some_iff.mp H
                        obtain ⟨t387, A2720, H⟩ := H
                        replace H : (some t387) = some r := H
                        have A272 := Aside0.mk A2720
                        clear A2720
                        obtain rfl := Option.some.inj H
                        have hnb273 := NB355_356.out
                        have hnc273 := NB356_355.out
                        have hnb274 := NB355_357.out
                        have hnc274 := NB357_355.out
                        have hnb275 := NB355_382.out
                        have hnc275 := NB382_355.out
                        have hcz276_0 : wc.cell? ⟨gb355, 0, none⟩ = some (.bool a0_0) := (blk_cell BK355.out 0).trans rfl
                        have hcz276_1 : wc.cell? ⟨gb355, 1, none⟩ = some (.slice A0_1 l0_1.length c0_1) := (blk_cell BK355.out 1).trans rfl
                        have hcz276_2 : wc.cell? ⟨gb355, 2, none⟩ = some (.int .i64 a0_2) := (blk_cell BK355.out 2).trans rfl
                        have hfz276_0 := blk_frozen BK355.out 0
                        have hfz276_1 := blk_frozen BK355.out 1
                        have hfz276_2 := blk_frozen BK355.out 2
                        go_wp2_with (first | (go_at_call 21; (with_reducible refine (num_Cmp.calls kj208 a0_0 _ _ l0_1 a0_2 a0_0 _ _ l0_1 a0_2 t386 _ ?side1 ?side2 ?side3 ?side4 A270.out).mono ?_); (case side1 => repeat (first | exact (Kd.C_below HR0_1.out HB.out) | (with_reducible refine Kd.C_alloc ?_ _) | (with_reducible refine Kd.C_drewN ?_ _) | (with_reducible refine Kd.C_drew ?_))); (case side2 => exact HC0_1.out); (case side3 => repeat (first | exact (Kd.C_below HR0_1.out HB.out) | (with_reducible refine Kd.C_alloc ?_ _) | (with_reducible refine Kd.C_drewN ?_ _) | (with_reducible refine Kd.C_drew ?_))); (case side4 => exact HC0_1.out); rintro e w277 ⟨rfl, hb⟩; have n0_ := Aside0.mk (Kd.R_below (by (with_reducible repeat (first | apply Kd.R_alloc | apply Kd.R_drewN | apply Kd.R_drew)); exact HO_383001.out) hb); have n1_ := Aside0.mk (blk_below (g := gb355) (o := .cells #[.bool a0_0, .slice A0_1 l0_1.length c0_1, .int .i64 a0_2] 25 (0, 0)) (by (with_reducible repeat (first | refine blk_drewN ?_ _ | refine blk_drew ?_ | refine blk_alloc ?_ _)); exact BK355.out) hb); have n2_ := Aside0.mk (blk_below (g := gb356) (o := .cells #[.bool a1_0, .slice A1_1 l1_1.length c1_1, .int .i64 a1_2] 25 (0, 0)) (by (with_reducible repeat (first | refine blk_drewN ?_ _ | refine blk_drew ?_ | refine blk_alloc ?_ _)); exact BK356.out) hb); have n3_ := Aside0.mk (blk_below (g := gb357) (o := .cells #[.bool a2_0, .slice A2_1 l2_1.length c2_1, .int .i64 a2_2] 25 (0, 0)) (by (with_reducible repeat (first | refine blk_drewN ?_ _ | refine blk_drew ?_ | refine blk_alloc ?_ _)); exact BK357.out) hb); have n4_ := Aside0.mk (blk_below (g := gb382) (o := .cells #[.bool t376, .slice Ao219 t377.length co219, .int .i64 t380] 25 (0, 0)) (by (with_reducible repeat (first | refine blk_drewN ?_ _ | refine blk_drew ?_ | refine blk_alloc ?_ _)); exact BK382.out) hb); have n5_ := Aside0.mk (below_step (by repeat (first | (with_reducible first | exact HB.out | apply below_alloc | apply pw_below_drewN | apply below_drew1 | refine below_set ?_ GE355.out | refine below_set ?_ GE356.out | refine below_set ?_ GE357.out | refine below_set ?_ GE382.out) | exact HB.out)) hb); clear HO_383001; clear BK355; clear BK356; clear BK357; clear BK382; clear HB; have HO_383001 := n0_; have BK355 := n1_; have BK356 := n2_; have BK357 := n3_; have BK382 := n4_; have HB := n5_; clear n0_ n1_ n2_ n3_ n4_ n5_; (try clear hb); (try clear hb2); (try clear hk); (try clear hi)) | (go_at_call 9; (with_reducible refine (erratumlaw02_awake.calls kj208  t387 _ ?side1 A272.out).mono ?_); (case side1 => first | exact hL.out | exact hL.out.drewN _ | exact hL.out.drew | exact hL.out.below (by repeat (first | (with_reducible first | exact HB.out | apply below_alloc | apply pw_below_drewN | apply below_drew1 | refine below_set ?_ GE355.out | refine below_set ?_ GE356.out | refine below_set ?_ GE357.out | refine below_set ?_ GE382.out) | exact HB.out))); rintro e w278 ⟨rfl, hb⟩; have n0_ := Aside0.mk (Kd.R_below (by (with_reducible repeat (first | apply Kd.R_alloc | apply Kd.R_drewN | apply Kd.R_drew)); exact HO_383001.out) hb); have n1_ := Aside0.mk (blk_below (g := gb355) (o := .cells #[.bool a0_0, .slice A0_1 l0_1.length c0_1, .int .i64 a0_2] 25 (0, 0)) (by (with_reducible repeat (first | refine blk_drewN ?_ _ | refine blk_drew ?_ | refine blk_alloc ?_ _)); exact BK355.out) hb); have n2_ := Aside0.mk (blk_below (g := gb356) (o := .cells #[.bool a1_0, .slice A1_1 l1_1.length c1_1, .int .i64 a1_2] 25 (0, 0)) (by (with_reducible repeat (first | refine blk_drewN ?_ _ | refine blk_drew ?_ | refine blk_alloc ?_ _)); exact BK356.out) hb); have n3_ := Aside0.mk (blk_below (g := gb357) (o := .cells #[.bool a2_0, .slice A2_1 l2_1.length c2_1, .int .i64 a2_2] 25 (0, 0)) (by (with_reducible repeat (first | refine blk_drewN ?_ _ | refine blk_drew ?_ | refine blk_alloc ?_ _)); exact BK357.out) hb); have n4_ := Aside0.mk (blk_below (g := gb382) (o := .cells #[.bool t376, .slice Ao219 t377.length co219, .int .i64 t380] 25 (0, 0)) (by (with_reducible repeat (first | refine blk_drewN ?_ _ | refine blk_drew ?_ | refine blk_alloc ?_ _)); exact BK382.out) hb); have n5_ := Aside0.mk (below_step (by repeat (first | (with_reducible first | exact HB.out | apply below_alloc | apply pw_below_drewN | apply below_drew1 | refine below_set ?_ GE355.out | refine below_set ?_ GE356.out | refine below_set ?_ GE357.out | refine below_set ?_ GE382.out) | exact HB.out)) hb); clear HO_383001; clear BK355; clear BK356; clear BK357; clear BK382; clear HB; have HO_383001 := n0_; have BK355 := n1_; have BK356 := n2_; have BK357 := n3_; have BK382 := n4_; have HB := n5_; clear n0_ n1_ n2_ n3_ n4_ n5_; (try clear hb); (try clear hb2); (try clear hk); (try clear hi)))
                        go_ret
                        exact ⟨by first | rfl | (simp [errW_none, errW_some] <;> rfl) | (simp [*, errW_none, errW_some] <;> rfl), by repeat (first | (with_reducible first | exact HB.out | apply below_alloc | apply pw_below_drewN | apply below_drew1 | refine below_set ?_ GE355.out | refine below_set ?_ GE356.out | refine below_set ?_ GE357.out | refine below_set ?_ GE382.out) | exact HB.out)⟩
                      · rw [if_neg c271] at H
                        have c271b0 : (t386 == 0) = false := beq_eq_false_iff_ne.mpr c271
                        have c271b1 : (t386 != 0) = true := bne_iff_ne.mpr c271
                        obtain rfl := Option.some.inj H
                        have hnb279 := NB355_356.out
                        have hnc279 := NB356_355.out
                        have hnb280 := NB355_357.out
                        have hnc280 := NB357_355.out
                        have hnb281 := NB355_382.out
                        have hnc281 := NB382_355.out
                        have hcz282_0 : wc.cell? ⟨gb355, 0, none⟩ = some (.bool a0_0) := (blk_cell BK355.out 0).trans rfl
                        have hcz282_1 : wc.cell? ⟨gb355, 1, none⟩ = some (.slice A0_1 l0_1.length c0_1) := (blk_cell BK355.out 1).trans rfl
                        have hcz282_2 : wc.cell? ⟨gb355, 2, none⟩ = some (.int .i64 a0_2) := (blk_cell BK355.out 2).trans rfl
                        have hfz282_0 := blk_frozen BK355.out 0
                        have hfz282_1 := blk_frozen BK355.out 1
                        have hfz282_2 := blk_frozen BK355.out 2
                        go_wp2_with (first | (go_at_call 21; (with_reducible refine (num_Cmp.calls kj208 a0_0 _ _ l0_1 a0_2 a0_0 _ _ l0_1 a0_2 t386 _ ?side1 ?side2 ?side3 ?side4 A270.out).mono ?_); (case side1 => repeat (first | exact (Kd.C_below HR0_1.out HB.out) | (with_reducible refine Kd.C_alloc ?_ _) | (with_reducible refine Kd.C_drewN ?_ _) | (with_reducible refine Kd.C_drew ?_))); (case side2 => exact HC0_1.out); (case side3 => repeat (first | exact (Kd.C_below HR0_1.out HB.out) | (with_reducible refine Kd.C_alloc ?_ _) | (with_reducible refine Kd.C_drewN ?_ _) | (with_reducible refine Kd.C_drew ?_))); (case side4 => exact HC0_1.out); rintro e w283 ⟨rfl, hb⟩; have n0_ := Aside0.mk (Kd.R_below (by (with_reducible repeat (first | apply Kd.R_alloc | apply Kd.R_drewN | apply Kd.R_drew)); exact HO_383001.out) hb); have n1_ := Aside0.mk (blk_below (g := gb355) (o := .cells #[.bool a0_0, .slice A0_1 l0_1.length c0_1, .int .i64 a0_2] 25 (0, 0)) (by (with_reducible repeat (first | refine blk_drewN ?_ _ | refine blk_drew ?_ | refine blk_alloc ?_ _)); exact BK355.out) hb); have n2_ := Aside0.mk (blk_below (g := gb356) (o := .cells #[.bool a1_0, .slice A1_1 l1_1.length c1_1, .int .i64 a1_2] 25 (0, 0)) (by (with_reducible repeat (first | refine blk_drewN ?_ _ | refine blk_drew ?_ | refine blk_alloc ?_ _)); exact BK356.out) hb); have n3_ := Aside0.mk (blk_below (g := gb357) (o := .cells #[.bool a2_0, .slice A2_1 l2_1.length c2_1, .int .i64 a2_2] 25 (0, 0)) (by (with_reducible repeat (first | refine blk_drewN ?_ _ | refine blk_drew ?_ | refine blk_alloc ?_ _)); exact BK357.out) hb); have n4_ := Aside0.mk (blk_below (g := gb382) (o := .cells #[.bool t376, .slice Ao219 t377.length co219, .int .i64 t380] 25 (0, 0)) (by (with_reducible repeat (first | refine blk_drewN ?_ _ | refine blk_drew ?_ | refine blk_alloc ?_ _)); exact BK382.out) hb); have n5_ := Aside0.mk (below_step (by repeat (first | (with_reducible first | exact HB.out | apply below_alloc | apply pw_below_drewN | apply below_drew1 | refine below_set ?_ GE355.out | refine below_set ?_ GE356.out | refine below_set ?_ GE357.out | refine below_set ?_ GE382.out) | exact HB.out)) hb); clear HO_383001; clear BK355; clear BK356; clear BK357; clear BK382; clear HB; have HO_383001 := n0_; have BK355 := n1_; have BK356 := n2_; have BK357 := n3_; have BK382 := n4_; have HB := n5_; clear n0_ n1_ n2_ n3_ n4_ n5_; (try clear hb); (try clear hb2); (try clear hk); (try clear hi)))
                        go_ret
                        exact ⟨by first | rfl | (simp [errW_none, errW_some] <;> rfl) | (simp [*, errW_none, errW_some] <;> rfl), by repeat (first | (with_reducible first | exact HB.out | apply below_alloc | apply pw_below_drewN | apply below_drew1 | refine below_set ?_ GE355.out | refine below_set ?_ GE356.out | refine below_set ?_ GE357.out | refine below_set ?_ GE382.out) | exact HB.out)⟩
                    · rw [if_neg c269] at H
                      have c269b0 : (a0_2 == 1200) = false := beq_eq_false_iff_ne.mpr c269
                      have c269b1 : (a0_2 != 1200) = true := bne_iff_ne.mpr c269
                      obtain rfl := Option.some.inj H
                      have hnb284 := NB355_356.out
                      have hnc284 := NB356_355.out
                      have hnb285 := NB355_357.out
                      have hnc285 := NB357_355.out
                      have hnb286 := NB355_382.out
                      have hnc286 := NB382_355.out
                      have hcz287_0 : wc.cell? ⟨gb355, 0, none⟩ = some (.bool a0_0) := (blk_cell BK355.out 0).trans rfl
                      have hcz287_1 : wc.cell? ⟨gb355, 1, none⟩ = some (.slice A0_1 l0_1.length c0_1) := (blk_cell BK355.out 1).trans rfl
                      have hcz287_2 : wc.cell? ⟨gb355, 2, none⟩ = some (.int .i64 a0_2) := (blk_cell BK355.out 2).trans rfl
                      have hfz287_0 := blk_frozen BK355.out 0
                      have hfz287_1 := blk_frozen BK355.out 1
                      have hfz287_2 := blk_frozen BK355.out 2
                      go_wp2
                      go_ret
                      exact ⟨by first | rfl | (simp [errW_none, errW_some] <;> rfl) | (simp [*, errW_none, errW_some] <;> rfl), by repeat (first | (with_reducible first | exact HB.out | apply below_alloc | apply pw_below_drewN | apply below_drew1 | refine below_set ?_ GE355.out | refine below_set ?_ GE356.out | refine below_set ?_ GE357.out | refine below_set ?_ GE382.out) | exact HB.out)⟩

end Go.Proofs.YtmkdcokdilllcaaDoor.X
