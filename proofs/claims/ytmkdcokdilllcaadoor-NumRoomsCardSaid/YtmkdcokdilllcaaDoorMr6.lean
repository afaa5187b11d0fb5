/- The greatest exponents there are have room, one beyond them has none: the law NumRooms; no condition. -/
import Derived.Test.YtmkdcokdilllcaaDoorMr2
import Derived.Test.YtmkdcokdilllcaaDoorMr4
import Derived.Test.YtmkdcokdilllcaaDoorMr5
import Derived.Test.YtmkdcokdilllcaaDoorMr3
-- A walk, written by a program of this session (xp.py).
namespace Go.Proofs.YtmkdcokdilllcaaDoor.X
open Go.RowKit Go.Proofs.YtmkdcokdilllcaaDoorW.PrintWords Go.Proofs.YtmkdcokdilllcaaDoorW.PrintLast Go.Proofs.YtmkdcokdilllcaaDoorW.PrintMore
attribute [local go_sem] max2_int min2_int max_two min_two max_three min_three max_four min_four
set_option linter.unusedVariables false
set_option linter.unusedSimpArgs false

/-! ### erratumlaw00_SameLimbs: function 31 -/
def erratumlaw00_SameLimbs.l0 : Nat → List Int → List Int → Int → Option (Bool)
  | 0, _, _, _ => none
  | k + 1, x0, x1, x5 => if x5 < (x0.length : Int) then (if 0 ≤ x5 then (if x5 < (x1.length : Int) then (if (rd x0 x5) = (rd x1 x5) then (erratumlaw00_SameLimbs.l0 k x0 x1 (wrap64 (x5 + 1))) else (some false)) else (none)) else (none)) else (some true)
def erratumlaw00_SameLimbs.f (k : Nat) (l0 : List Int) (l1 : List Int) : Option (Bool) := if (l0.length : Int) = (l1.length : Int) then (erratumlaw00_SameLimbs.l0 k l0 l1 0) else (some false)
set_option maxHeartbeats 8000000 in
set_option maxRecDepth 100000 in
theorem erratumlaw00_SameLimbs.calls (k : Nat) (A0 : Option Addr) (c0 : Nat) (l0 : List Int) (A1 : Option Addr) (c1 : Nat) (l1 : List Int) (r : Bool) (w : World) (hr0 : Kd.C (Kd.int .u32) w A0 l0.length l0) (hc0 : l0.length ≤ c0) (hr1 : Kd.C (Kd.int .u32) w A1 l1.length l1) (hc1 : l1.length ≤ c1) (h : erratumlaw00_SameLimbs.f k l0 l1 = some r) :
    Calls Tryd.prog 31 #[.slice A0 l0.length c0, .slice A1 l1.length c1] w fun e w' => e = .returned (.bool r) ∧ Drawn0 w w' := by
  have HR0 := Aside0.mk hr0
  have HC0 := Aside0.mk hc0
  clear hr0 hc0
  have HR1 := Aside0.mk hr1
  have HC1 := Aside0.mk hc1
  clear hr1 hc1
  have H : (if (l0.length : Int) = (l1.length : Int) then (erratumlaw00_SameLimbs.l0 k l0 l1 0) else (some false)) = some r := h
  clear h
  by_cases c3 : (l0.length : Int) = (l1.length : Int)
  · rw [if_pos c3] at H
    have c3b0 : ((l0.length : Int) == (l1.length : Int)) = true := beq_iff_eq.mpr c3
    have c3b1 : ((l0.length : Int) != (l1.length : Int)) = false := bne_eq_false_iff_eq.mpr c3
    have c3b2 : (l0.length == l1.length) = true := by first | simpa using c3 | (simp at c3 ⊢; omega)
    clear c3
    have H' := Aside0.mk H
    clear H
    go_enter Tryd.func31, Tryd.ntmps31
    go_wp2
    repeat (go_quiet (fail); try go_wp2)
    go_loopg [5] k (fun kq v5 w' => ∃ (x5_1 : Int), v5 = .int .i64 x5_1 ∧ Aside0 (erratumlaw00_SameLimbs.l0 kq l0 l1 x5_1 = some r) ∧ Aside0 (kq ≤ k) ∧ Drawn0 w w')
    case atStart => exact ⟨(0), (by first | rfl | (simp; done) | (simp [*]; done)), H', ⟨Nat.le_refl _⟩, by repeat (first | exact Drawn0.refl _ | apply Drawn0.step)⟩
    case round =>
      clear H'
      try clear c1
      try clear p2
      try clear c3
      try clear c3b0
      try clear c3b1
      try clear c3b2
      obtain ⟨x5_1, rfl, HA, HK1, ⟨m1, rfl⟩⟩ := hrel
      cases gk with
      | zero => exact absurd HA.out (by simp [erratumlaw00_SameLimbs.l0])
      | succ k1 =>
        have H := HA.out
        clear HA
        simp only [erratumlaw00_SameLimbs.l0] at H
        by_cases c4 : x5_1 < (l0.length : Int)
        · rw [if_pos c4] at H
          have c4b0 : decide (x5_1 < (l0.length : Int)) = true := decide_eq_true c4
          clear c4
          by_cases c5 : 0 ≤ x5_1
          · rw [if_pos c5] at H
            have c5b0 : decide (0 ≤ x5_1) = true := decide_eq_true c5
            clear c5
            by_cases c6 : x5_1 < (l1.length : Int)
            · rw [if_pos c6] at H
              have c6b0 : decide (x5_1 < (l1.length : Int)) = true := decide_eq_true c6
              clear c6
              by_cases c7 : (rd l0 x5_1) = (rd l1 x5_1)
              · rw [if_pos c7] at H
                have c7b0 : ((rd l0 x5_1) == (rd l1 x5_1)) = true := beq_iff_eq.mpr c7
                have c7b1 : ((rd l0 x5_1) != (rd l1 x5_1)) = false := bne_eq_false_iff_eq.mpr c7
                clear c7
                have H' := Aside0.mk H
                clear H
                have p304 : 0 ≤ (x5_1 : Int) := of_decide_eq_true (by first | (with_reducible assumption) | assumption)
                have q304 : x5_1 < (l0.length : Int) := of_decide_eq_true (by first | (with_reducible assumption) | assumption)
                obtain ⟨ad304, e304, hx304_0⟩ := Kd.at_int HR0.out x5_1 p304 q304
                cases e304
                replace p304 := eq_true p304
                replace q304 := eq_true q304
                have p305 : 0 ≤ (x5_1 : Int) := of_decide_eq_true (by first | (with_reducible assumption) | assumption)
                have q305 : x5_1 < (l1.length : Int) := of_decide_eq_true (by first | (with_reducible assumption) | assumption)
                obtain ⟨ad305, e305, hx305_0⟩ := Kd.at_int HR1.out x5_1 p305 q305
                cases e305
                replace p305 := eq_true p305
                replace q305 := eq_true q305
                go_wp2
                repeat (go_quiet (fail); try go_wp2)
                go_roundg k1
                case measure => have := HK1.out; omega
                case rel => exact ⟨(wrap64 (x5_1 + 1)), (by first | rfl | (simp; done) | (simp [*]; done)), H', ⟨by have := HK1.out; omega⟩, by repeat (first | exact Drawn0.refl _ | apply Drawn0.step)⟩
              · rw [if_neg c7] at H
                have c7b0 : ((rd l0 x5_1) == (rd l1 x5_1)) = false := beq_eq_false_iff_ne.mpr c7
                have c7b1 : ((rd l0 x5_1) != (rd l1 x5_1)) = true := bne_iff_ne.mpr c7
                obtain rfl := Option.some.inj H
                have p304 : 0 ≤ (x5_1 : Int) := of_decide_eq_true (by first | (with_reducible assumption) | assumption)
                have q304 : x5_1 < (l0.length : Int) := of_decide_eq_true (by first | (with_reducible assumption) | assumption)
                obtain ⟨ad304, e304, hx304_0⟩ := Kd.at_int HR0.out x5_1 p304 q304
                cases e304
                replace p304 := eq_true p304
                replace q304 := eq_true q304
                have p305 : 0 ≤ (x5_1 : Int) := of_decide_eq_true (by first | (with_reducible assumption) | assumption)
                have q305 : x5_1 < (l1.length : Int) := of_decide_eq_true (by first | (with_reducible assumption) | assumption)
                obtain ⟨ad305, e305, hx305_0⟩ := Kd.at_int HR1.out x5_1 p305 q305
                cases e305
                replace p305 := eq_true p305
                replace q305 := eq_true q305
                go_wp2
                repeat (go_quiet (fail); try go_wp2)
                go_ret
                exact ⟨by first | rfl | (simp; done) | (simp [*]; done), by repeat (first | exact Drawn0.refl _ | apply Drawn0.step)⟩
            · rw [if_neg c6] at H
              exact absurd H (by simp)
          · rw [if_neg c5] at H
            exact absurd H (by simp)
        · rw [if_neg c4] at H
          have c4b0 : decide (x5_1 < (l0.length : Int)) = false := decide_eq_false c4
          clear c4
          obtain rfl := Option.some.inj H
          go_wp2
          repeat (go_quiet (fail); try go_wp2)
          go_ret
          exact ⟨by first | rfl | (simp; done) | (simp [*]; done), by repeat (first | exact Drawn0.refl _ | apply Drawn0.step)⟩
  · rw [if_neg c3] at H
    have c3b0 : ((l0.length : Int) == (l1.length : Int)) = false := beq_eq_false_iff_ne.mpr c3
    have c3b1 : ((l0.length : Int) != (l1.length : Int)) = true := bne_iff_ne.mpr c3
    have c3b2 : (l0.length == l1.length) = false := by first | simpa using c3 | (simp at c3 ⊢; omega)
    obtain rfl := Option.some.inj H
    go_enter Tryd.func31, Tryd.ntmps31
    go_wp2
    repeat (go_quiet (fail); try go_wp2)
    go_ret
    exact ⟨by first | rfl | (simp; done) | (simp [*]; done), by repeat (first | exact Drawn0.refl _ | apply Drawn0.step)⟩

end Go.Proofs.YtmkdcokdilllcaaDoor.X
-- A walk, written by a program of this session (xp.py).
namespace Go.Proofs.YtmkdcokdilllcaaDoor.X
open Go.RowKit Go.Proofs.YtmkdcokdilllcaaDoorW.PrintWords Go.Proofs.YtmkdcokdilllcaaDoorW.PrintLast Go.Proofs.YtmkdcokdilllcaaDoorW.PrintMore
attribute [local go_sem] max2_int min2_int max_two min_two max_three min_three max_four min_four
set_option linter.unusedVariables false
set_option linter.unusedSimpArgs false

/-! ### erratumlaw00_SameNum: function 12 -/
def erratumlaw00_SameNum.f (k : Nat) (a0_0 : Bool) (l0_1 : List Int) (a0_2 : Int) (a1_0 : Bool) (l1_1 : List Int) (a1_2 : Int) : Option (Bool) := if (a0_0 == a1_0) = true then (if a0_2 = a1_2 then ((erratumlaw00_SameLimbs.f k l0_1 l1_1).bind fun t308 => (some t308)) else (some false)) else (some false)
set_option maxHeartbeats 8000000 in
set_option maxRecDepth 100000 in
theorem erratumlaw00_SameNum.calls (k : Nat) (a0_0 : Bool) (A0_1 : Option Addr) (c0_1 : Nat) (l0_1 : List Int) (a0_2 : Int) (a1_0 : Bool) (A1_1 : Option Addr) (c1_1 : Nat) (l1_1 : List Int) (a1_2 : Int) (r : Bool) (w : World) (hr0_1 : Kd.C (Kd.int .u32) w A0_1 l0_1.length l0_1) (hc0_1 : l0_1.length ≤ c0_1) (hr1_1 : Kd.C (Kd.int .u32) w A1_1 l1_1.length l1_1) (hc1_1 : l1_1.length ≤ c1_1) (h : erratumlaw00_SameNum.f k a0_0 l0_1 a0_2 a1_0 l1_1 a1_2 = some r) :
    Calls Tryd.prog 12 #[.agg #[.bool a0_0, .slice A0_1 l0_1.length c0_1, .int .i64 a0_2], .agg #[.bool a1_0, .slice A1_1 l1_1.length c1_1, .int .i64 a1_2]] w fun e w' => e = .returned (.bool r) ∧ Below w.heap.size w w' := by
  have hu25 := Tryd.underlying25
  have HR0_1 := Aside0.mk hr0_1
  have HC0_1 := Aside0.mk hc0_1
  clear hr0_1 hc0_1
  have HR1_1 := Aside0.mk hr1_1
  have HC1_1 := Aside0.mk hc1_1
  clear hr1_1 hc1_1
  have HB := Aside0.mk (Below.refl w.heap.size w)
  have H : (if (a0_0 == a1_0) = true then (if a0_2 = a1_2 then ((erratumlaw00_SameLimbs.f k l0_1 l1_1).bind fun t308 => (some t308)) else (some false)) else (some false)) = some r := h
  clear h
  by_cases c3 : (a0_0 == a1_0) = true
  · rw [if_pos c3] at H
    have c3b0 : (a0_0 == a1_0) = true := c3
    (try (have c3b1 : decide (a0_0 = a1_0) = true := by simpa using c3))
    (try (have c3b2 : (a0_0 == a1_0) = true := by simpa using c3))
    clear c3
    by_cases c4 : a0_2 = a1_2
    · rw [if_pos c4] at H
      have c4b0 : (a0_2 == a1_2) = true := beq_iff_eq.mpr c4
      have c4b1 : (a0_2 != a1_2) = false := bne_eq_false_iff_eq.mpr c4
      clear c4
      replace H := Option.bind_eq_some_iff.mp H
      obtain ⟨t308, A50, H⟩ := H
      replace H : (some t308) = some r := H
      have A5 := Aside0.mk A50
      clear A50
      obtain rfl := Option.some.inj H
      go_enter Tryd.func12, Tryd.ntmps12
      go_wp2_with (first | ((with_reducible refine gate_dst (N := 2) rfl ?_); refine box_event ?hg (N := 2) ?hd (cs := #[.bool a0_0, .slice A0_1 l0_1.length c0_1, .int .i64 a0_2]) (t := 25) ?hr ?_; (case hd => rfl); (case hg => rfl); (case hr => first | (go_simp; done) | (go_simp; rfl) | (go_simp; simp only [x_u32u8, x_u8, x_u32, x_u64, x_mm]; first | done | rfl)); intro gb306 hg w6 hbox hb; have n0_ := Aside0.mk (below_step (by repeat (first | (with_reducible first | exact HB.out | apply below_alloc | apply pw_below_drewN | apply below_drew1) | exact HB.out)) hb); have n1_ := Aside0.mk (hbox); have n2_ := Aside0.mk ((by rw [hg]; exact (below_size (by repeat (first | (with_reducible first | exact HB.out | apply below_alloc | apply pw_below_drewN | apply below_drew1) | exact HB.out))) : w.heap.size ≤ gb306)); have n3_ := Aside0.mk ((by rw [hg]; exact (below_size (by repeat (first | (with_reducible first | exact HB.out | apply below_alloc | apply pw_below_drewN | apply below_drew1) | exact HB.out))) : w.heap.size ≤ gb306)); clear HB; have HB := n0_; have BK306 := n1_; have GW306 := n2_; have GE306 := n3_; clear n0_ n1_ n2_ n3_; clear hb hbox hg) | ((with_reducible refine gate_dst (N := 3) rfl ?_); refine box_event ?hg (N := 3) ?hd (cs := #[.bool a1_0, .slice A1_1 l1_1.length c1_1, .int .i64 a1_2]) (t := 25) ?hr ?_; (case hd => rfl); (case hg => rfl); (case hr => first | (go_simp; done) | (go_simp; rfl) | (go_simp; simp only [x_u32u8, x_u8, x_u32, x_u64, x_mm]; first | done | rfl)); intro gb307 hg w7 hbox hb; have n0_ := Aside0.mk (blk_below (g := gb306) (o := .cells #[.bool a0_0, .slice A0_1 l0_1.length c0_1, .int .i64 a0_2] 25 (0, 0)) (by (with_reducible repeat (first | refine blk_drewN ?_ _ | refine blk_drew ?_ | refine blk_alloc ?_ _)); exact BK306.out) hb); have n1_ := Aside0.mk (below_step (by repeat (first | (with_reducible first | exact HB.out | apply below_alloc | apply pw_below_drewN | apply below_drew1 | refine below_set ?_ GE306.out) | exact HB.out)) hb); have n2_ := Aside0.mk (hbox); have n3_ := Aside0.mk ((by rw [hg]; exact (below_size (by repeat (first | (with_reducible first | exact HB.out | apply below_alloc | apply pw_below_drewN | apply below_drew1 | refine below_set ?_ GE306.out) | exact HB.out))) : w.heap.size ≤ gb307)); have n4_ := Aside0.mk ((by rw [hg]; exact (below_size (by repeat (first | (with_reducible first | exact HB.out | apply below_alloc | apply pw_below_drewN | apply below_drew1 | refine below_set ?_ GE306.out) | exact HB.out))) : w.heap.size ≤ gb307)); have n5_ := Aside0.mk ((by rw [hg]; exact Nat.ne_of_lt (blk_lt (g := gb306) (o := .cells #[.bool a0_0, .slice A0_1 l0_1.length c0_1, .int .i64 a0_2] 25 (0, 0)) (by (with_reducible repeat (first | refine blk_drewN ?_ _ | refine blk_drew ?_ | refine blk_alloc ?_ _)); exact BK306.out)) : gb306 ≠ gb307)); have n6_ := Aside0.mk ((by rw [hg]; exact Nat.ne_of_gt (blk_lt (g := gb306) (o := .cells #[.bool a0_0, .slice A0_1 l0_1.length c0_1, .int .i64 a0_2] 25 (0, 0)) (by (with_reducible repeat (first | refine blk_drewN ?_ _ | refine blk_drew ?_ | refine blk_alloc ?_ _)); exact BK306.out)) : gb307 ≠ gb306)); clear BK306; clear HB; have BK306 := n0_; have HB := n1_; have BK307 := n2_; have GW307 := n3_; have GE307 := n4_; have NB306_307 := n5_; have NB307_306 := n6_; clear n0_ n1_ n2_ n3_ n4_ n5_ n6_; clear hb hbox hg; have hnb8 := NB306_307.out; have hnc8 := NB307_306.out; have hcz9_0 : w7.cell? ⟨gb306, 0, none⟩ = some (.bool a0_0) := (blk_cell BK306.out 0).trans rfl; have hcz9_1 : w7.cell? ⟨gb306, 1, none⟩ = some (.slice A0_1 l0_1.length c0_1) := (blk_cell BK306.out 1).trans rfl; have hcz9_2 : w7.cell? ⟨gb306, 2, none⟩ = some (.int .i64 a0_2) := (blk_cell BK306.out 2).trans rfl; have hfz9_0 := blk_frozen BK306.out 0; have hfz9_1 := blk_frozen BK306.out 1; have hfz9_2 := blk_frozen BK306.out 2; have hcz10_0 : w7.cell? ⟨gb307, 0, none⟩ = some (.bool a1_0) := (blk_cell BK307.out 0).trans rfl; have hcz10_1 : w7.cell? ⟨gb307, 1, none⟩ = some (.slice A1_1 l1_1.length c1_1) := (blk_cell BK307.out 1).trans rfl; have hcz10_2 : w7.cell? ⟨gb307, 2, none⟩ = some (.int .i64 a1_2) := (blk_cell BK307.out 2).trans rfl; have hfz10_0 := blk_frozen BK307.out 0; have hfz10_1 := blk_frozen BK307.out 1; have hfz10_2 := blk_frozen BK307.out 2) | (go_at_call 31; (with_reducible refine (erratumlaw00_SameLimbs.calls k _ _ l0_1 _ _ l1_1 t308 _ ?side1 ?side2 ?side3 ?side4 A5.out).mono ?_); (case side1 => repeat (first | exact (Kd.C_below HR0_1.out HB.out) | (with_reducible refine Kd.C_alloc ?_ _) | (with_reducible refine Kd.C_drewN ?_ _) | (with_reducible refine Kd.C_drew ?_))); (case side2 => exact HC0_1.out); (case side3 => repeat (first | exact (Kd.C_below HR1_1.out HB.out) | (with_reducible refine Kd.C_alloc ?_ _) | (with_reducible refine Kd.C_drewN ?_ _) | (with_reducible refine Kd.C_drew ?_))); (case side4 => exact HC1_1.out); rintro e w' ⟨rfl, ⟨nd, rfl⟩⟩))
      go_ret
      exact ⟨by first | rfl | (simp [errW_none, errW_some] <;> rfl) | (simp [*, errW_none, errW_some] <;> rfl), by repeat (first | (with_reducible first | exact HB.out | apply below_alloc | apply pw_below_drewN | apply below_drew1 | refine below_set ?_ GE306.out | refine below_set ?_ GE307.out) | exact HB.out)⟩
    · rw [if_neg c4] at H
      have c4b0 : (a0_2 == a1_2) = false := beq_eq_false_iff_ne.mpr c4
      have c4b1 : (a0_2 != a1_2) = true := bne_iff_ne.mpr c4
      obtain rfl := Option.some.inj H
      go_enter Tryd.func12, Tryd.ntmps12
      go_wp2_with (first | ((with_reducible refine gate_dst (N := 2) rfl ?_); refine box_event ?hg (N := 2) ?hd (cs := #[.bool a0_0, .slice A0_1 l0_1.length c0_1, .int .i64 a0_2]) (t := 25) ?hr ?_; (case hd => rfl); (case hg => rfl); (case hr => first | (go_simp; done) | (go_simp; rfl) | (go_simp; simp only [x_u32u8, x_u8, x_u32, x_u64, x_mm]; first | done | rfl)); intro gb306 hg w11 hbox hb; have n0_ := Aside0.mk (below_step (by repeat (first | (with_reducible first | exact HB.out | apply below_alloc | apply pw_below_drewN | apply below_drew1) | exact HB.out)) hb); have n1_ := Aside0.mk (hbox); have n2_ := Aside0.mk ((by rw [hg]; exact (below_size (by repeat (first | (with_reducible first | exact HB.out | apply below_alloc | apply pw_below_drewN | apply below_drew1) | exact HB.out))) : w.heap.size ≤ gb306)); have n3_ := Aside0.mk ((by rw [hg]; exact (below_size (by repeat (first | (with_reducible first | exact HB.out | apply below_alloc | apply pw_below_drewN | apply below_drew1) | exact HB.out))) : w.heap.size ≤ gb306)); clear HB; have HB := n0_; have BK306 := n1_; have GW306 := n2_; have GE306 := n3_; clear n0_ n1_ n2_ n3_; clear hb hbox hg) | ((with_reducible refine gate_dst (N := 3) rfl ?_); refine box_event ?hg (N := 3) ?hd (cs := #[.bool a1_0, .slice A1_1 l1_1.length c1_1, .int .i64 a1_2]) (t := 25) ?hr ?_; (case hd => rfl); (case hg => rfl); (case hr => first | (go_simp; done) | (go_simp; rfl) | (go_simp; simp only [x_u32u8, x_u8, x_u32, x_u64, x_mm]; first | done | rfl)); intro gb307 hg w12 hbox hb; have n0_ := Aside0.mk (blk_below (g := gb306) (o := .cells #[.bool a0_0, .slice A0_1 l0_1.length c0_1, .int .i64 a0_2] 25 (0, 0)) (by (with_reducible repeat (first | refine blk_drewN ?_ _ | refine blk_drew ?_ | refine blk_alloc ?_ _)); exact BK306.out) hb); have n1_ := Aside0.mk (below_step (by repeat (first | (with_reducible first | exact HB.out | apply below_alloc | apply pw_below_drewN | apply below_drew1 | refine below_set ?_ GE306.out) | exact HB.out)) hb); have n2_ := Aside0.mk (hbox); have n3_ := Aside0.mk ((by rw [hg]; exact (below_size (by repeat (first | (with_reducible first | exact HB.out | apply below_alloc | apply pw_below_drewN | apply below_drew1 | refine below_set ?_ GE306.out) | exact HB.out))) : w.heap.size ≤ gb307)); have n4_ := Aside0.mk ((by rw [hg]; exact (below_size (by repeat (first | (with_reducible first | exact HB.out | apply below_alloc | apply pw_below_drewN | apply below_drew1 | refine below_set ?_ GE306.out) | exact HB.out))) : w.heap.size ≤ gb307)); have n5_ := Aside0.mk ((by rw [hg]; exact Nat.ne_of_lt (blk_lt (g := gb306) (o := .cells #[.bool a0_0, .slice A0_1 l0_1.length c0_1, .int .i64 a0_2] 25 (0, 0)) (by (with_reducible repeat (first | refine blk_drewN ?_ _ | refine blk_drew ?_ | refine blk_alloc ?_ _)); exact BK306.out)) : gb306 ≠ gb307)); have n6_ := Aside0.mk ((by rw [hg]; exact Nat.ne_of_gt (blk_lt (g := gb306) (o := .cells #[.bool a0_0, .slice A0_1 l0_1.length c0_1, .int .i64 a0_2] 25 (0, 0)) (by (with_reducible repeat (first | refine blk_drewN ?_ _ | refine blk_drew ?_ | refine blk_alloc ?_ _)); exact BK306.out)) : gb307 ≠ gb306)); clear BK306; clear HB; have BK306 := n0_; have HB := n1_; have BK307 := n2_; have GW307 := n3_; have GE307 := n4_; have NB306_307 := n5_; have NB307_306 := n6_; clear n0_ n1_ n2_ n3_ n4_ n5_ n6_; clear hb hbox hg; have hnb13 := NB306_307.out; have hnc13 := NB307_306.out; have hcz14_0 : w12.cell? ⟨gb306, 0, none⟩ = some (.bool a0_0) := (blk_cell BK306.out 0).trans rfl; have hcz14_1 : w12.cell? ⟨gb306, 1, none⟩ = some (.slice A0_1 l0_1.length c0_1) := (blk_cell BK306.out 1).trans rfl; have hcz14_2 : w12.cell? ⟨gb306, 2, none⟩ = some (.int .i64 a0_2) := (blk_cell BK306.out 2).trans rfl; have hfz14_0 := blk_frozen BK306.out 0; have hfz14_1 := blk_frozen BK306.out 1; have hfz14_2 := blk_frozen BK306.out 2; have hcz15_0 : w12.cell? ⟨gb307, 0, none⟩ = some (.bool a1_0) := (blk_cell BK307.out 0).trans rfl; have hcz15_1 : w12.cell? ⟨gb307, 1, none⟩ = some (.slice A1_1 l1_1.length c1_1) := (blk_cell BK307.out 1).trans rfl; have hcz15_2 : w12.cell? ⟨gb307, 2, none⟩ = some (.int .i64 a1_2) := (blk_cell BK307.out 2).trans rfl; have hfz15_0 := blk_frozen BK307.out 0; have hfz15_1 := blk_frozen BK307.out 1; have hfz15_2 := blk_frozen BK307.out 2))
      go_ret
      exact ⟨by first | rfl | (simp [errW_none, errW_some] <;> rfl) | (simp [*, errW_none, errW_some] <;> rfl), by repeat (first | (with_reducible first | exact HB.out | apply below_alloc | apply pw_below_drewN | apply below_drew1 | refine below_set ?_ GE306.out | refine below_set ?_ GE307.out) | exact HB.out)⟩
  · rw [if_neg c3] at H
    have c3b0 : (a0_0 == a1_0) = false := by simpa using c3
    (try (have c3b1 : decide (a0_0 = a1_0) = false := by simpa using c3))
    (try (have c3b2 : (a0_0 == a1_0) = false := by simpa using c3))
    (try (have c3b3 : ¬ (a0_0 = a1_0) := by simpa using c3))
    clear c3
    obtain rfl := Option.some.inj H
    go_enter Tryd.func12, Tryd.ntmps12
    go_wp2_with (first | ((with_reducible refine gate_dst (N := 2) rfl ?_); refine box_event ?hg (N := 2) ?hd (cs := #[.bool a0_0, .slice A0_1 l0_1.length c0_1, .int .i64 a0_2]) (t := 25) ?hr ?_; (case hd => rfl); (case hg => rfl); (case hr => first | (go_simp; done) | (go_simp; rfl) | (go_simp; simp only [x_u32u8, x_u8, x_u32, x_u64, x_mm]; first | done | rfl)); intro gb306 hg w16 hbox hb; have n0_ := Aside0.mk (below_step (by repeat (first | (with_reducible first | exact HB.out | apply below_alloc | apply pw_below_drewN | apply below_drew1) | exact HB.out)) hb); have n1_ := Aside0.mk (hbox); have n2_ := Aside0.mk ((by rw [hg]; exact (below_size (by repeat (first | (with_reducible first | exact HB.out | apply below_alloc | apply pw_below_drewN | apply below_drew1) | exact HB.out))) : w.heap.size ≤ gb306)); have n3_ := Aside0.mk ((by rw [hg]; exact (below_size (by repeat (first | (with_reducible first | exact HB.out | apply below_alloc | apply pw_below_drewN | apply below_drew1) | exact HB.out))) : w.heap.size ≤ gb306)); clear HB; have HB := n0_; have BK306 := n1_; have GW306 := n2_; have GE306 := n3_; clear n0_ n1_ n2_ n3_; clear hb hbox hg) | ((with_reducible refine gate_dst (N := 3) rfl ?_); refine box_event ?hg (N := 3) ?hd (cs := #[.bool a1_0, .slice A1_1 l1_1.length c1_1, .int .i64 a1_2]) (t := 25) ?hr ?_; (case hd => rfl); (case hg => rfl); (case hr => first | (go_simp; done) | (go_simp; rfl) | (go_simp; simp only [x_u32u8, x_u8, x_u32, x_u64, x_mm]; first | done | rfl)); intro gb307 hg w17 hbox hb; have n0_ := Aside0.mk (blk_below (g := gb306) (o := .cells #[.bool a0_0, .slice A0_1 l0_1.length c0_1, .int .i64 a0_2] 25 (0, 0)) (by (with_reducible repeat (first | refine blk_drewN ?_ _ | refine blk_drew ?_ | refine blk_alloc ?_ _)); exact BK306.out) hb); have n1_ := Aside0.mk (below_step (by repeat (first | (with_reducible first | exact HB.out | apply below_alloc | apply pw_below_drewN | apply below_drew1 | refine below_set ?_ GE306.out) | exact HB.out)) hb); have n2_ := Aside0.mk (hbox); have n3_ := Aside0.mk ((by rw [hg]; exact (below_size (by repeat (first | (with_reducible first | exact HB.out | apply below_alloc | apply pw_below_drewN | apply below_drew1 | refine below_set ?_ GE306.out) | exact HB.out))) : w.heap.size ≤ gb307)); have n4_ := Aside0.mk ((by rw [hg]; exact (below_size (by repeat (first | (with_reducible first | exact HB.out | apply below_alloc | apply pw_below_drewN | apply below_drew1 | refine below_set ?_ GE306.out) | exact HB.out))) : w.heap.size ≤ gb307)); have n5_ := Aside0.mk ((by rw [hg]; exact Nat.ne_of_lt (blk_lt (g := gb306) (o := .cells #[.bool a0_0, .slice A0_1 l0_1.length c0_1, .int .i64 a0_2] 25 (0, 0)) (by (with_reducible repeat (first | refine blk_drewN ?_ _ | refine blk_drew ?_ | refine blk_alloc ?_ _)); exact BK306.out)) : gb306 ≠ gb307)); have n6_ := Aside0.mk ((by rw [hg]; exact Nat.ne_of_gt (blk_lt (g := gb306) (o := .cells #[.bool a0_0, .slice A0_1 l0_1.length c0_1, .int .i64 a0_2] 25 (0, 0)) (by (with_reducible repeat (first | refine blk_drewN ?_ _ | refine blk_drew ?_ | refine blk_alloc ?_ _)); exact BK306.out)) : gb307 ≠ gb306)); clear BK306; clear HB; have BK306 := n0_; have HB := n1_; have BK307 := n2_; have GW307 := n3_; have GE307 := n4_; have NB306_307 := n5_; have NB307_306 := n6_; clear n0_ n1_ n2_ n3_ n4_ n5_ n6_; clear hb hbox hg; have hnb18 := NB306_307.out; have hnc18 := NB307_306.out; have hcz19_0 : w17.cell? ⟨gb306, 0, none⟩ = some (.bool a0_0) := (blk_cell BK306.out 0).trans rfl; have hcz19_1 : w17.cell? ⟨gb306, 1, none⟩ = some (.slice A0_1 l0_1.length c0_1) := (blk_cell BK306.out 1).trans rfl; have hcz19_2 : w17.cell? ⟨gb306, 2, none⟩ = some (.int .i64 a0_2) := (blk_cell BK306.out 2).trans rfl; have hfz19_0 := blk_frozen BK306.out 0; have hfz19_1 := blk_frozen BK306.out 1; have hfz19_2 := blk_frozen BK306.out 2; have hcz20_0 : w17.cell? ⟨gb307, 0, none⟩ = some (.bool a1_0) := (blk_cell BK307.out 0).trans rfl; have hcz20_1 : w17.cell? ⟨gb307, 1, none⟩ = some (.slice A1_1 l1_1.length c1_1) := (blk_cell BK307.out 1).trans rfl; have hcz20_2 : w17.cell? ⟨gb307, 2, none⟩ = some (.int .i64 a1_2) := (blk_cell BK307.out 2).trans rfl; have hfz20_0 := blk_frozen BK307.out 0; have hfz20_1 := blk_frozen BK307.out 1; have hfz20_2 := blk_frozen BK307.out 2))
    go_ret
    exact ⟨by first | rfl | (simp [errW_none, errW_some] <;> rfl) | (simp [*, errW_none, errW_some] <;> rfl), by repeat (first | (with_reducible first | exact HB.out | apply below_alloc | apply pw_below_drewN | apply below_drew1 | refine below_set ?_ GE306.out | refine below_set ?_ GE307.out) | exact HB.out)⟩

end Go.Proofs.YtmkdcokdilllcaaDoor.X
-- A walk, written by a program of this session (xp.py).
namespace Go.Proofs.YtmkdcokdilllcaaDoor.X
open Go.RowKit Go.Proofs.YtmkdcokdilllcaaDoorW.PrintWords Go.Proofs.YtmkdcokdilllcaaDoorW.PrintLast Go.Proofs.YtmkdcokdilllcaaDoorW.PrintMore
attribute [local go_sem] max2_int min2_int max_two min_two max_three min_three max_four min_four
set_option linter.unusedVariables false
set_option linter.unusedSimpArgs false

/-! ### erratumlaw02_awake: function 9 -/
def erratumlaw02_awake.f (k : Nat)  : Option (Bool) := (num_Parse.f k (⟨#[49, 46, 53, 48, 101, 51]⟩ : ByteArray)).bind fun bt213 => (if bt213.2.2.2 = 0 then (if (bt213.2.1.length : Int) = 1 then (if 0 < (bt213.2.1.length : Int) then (if (rd bt213.2.1 0) = 15 then (if bt213.2.2.1 = 2 then ((num_Text.f k bt213.1 bt213.2.1 bt213.2.2.1).bind fun t221 => (some (t221.toList == ([49, 53, 48, 48] : List UInt8)))) else (some false)) else (some false)) else (none)) else (some false)) else (some false))
set_option maxHeartbeats 8000000 in
set_option maxRecDepth 100000 in
theorem erratumlaw02_awake.calls (k : Nat)  (r : Bool) (w : World) (hL : Laid w) (h : erratumlaw02_awake.f k  = some r) :
    Calls Tryd.prog 9 #[] w fun e w' => e = .returned (.bool r) ∧ Below w.heap.size w w' := by
  replace hL := Aside0.mk hL
  have hu25 := Tryd.underlying25
  have HB := Aside0.mk (Below.refl w.heap.size w)
  have H : ((num_Parse.f k (⟨#[49, 46, 53, 48, 101, 51]⟩ : ByteArray)).bind fun bt213 => (if bt213.2.2.2 = 0 then (if (bt213.2.1.length : Int) = 1 then (if 0 < (bt213.2.1.length : Int) then (if (rd bt213.2.1 0) = 15 then (if bt213.2.2.1 = 2 then ((num_Text.f k bt213.1 bt213.2.1 bt213.2.2.1).bind fun t221 => (some (t221.toList == ([49, 53, 48, 48] : List UInt8)))) else (some false)) else (some false)) else (none)) else (some false)) else (some false))) = some r := h
  clear h
  replace H := Option.bind_eq_some_iff.mp H
  obtain ⟨⟨t213, t214, t217, t218⟩, A10, H⟩ := H
  replace H : (if t218 = 0 then (if (t214.length : Int) = 1 then (if 0 < (t214.length : Int) then (if (rd t214 0) = 15 then (if t217 = 2 then ((num_Text.f k t213 t214 t217).bind fun t221 => (some (t221.toList == ([49, 53, 48, 48] : List UInt8)))) else (some false)) else (some false)) else (none)) else (some false)) else (some false)) = some r := H
  have A1 := Aside0.mk A10
  clear A10
  by_cases c2 : t218 = 0
  · rw [if_pos c2] at H
    have c2b0 : (t218 == 0) = true := beq_iff_eq.mpr c2
    have c2b1 : (t218 != 0) = false := bne_eq_false_iff_eq.mpr c2
    clear c2
    by_cases c3 : (t214.length : Int) = 1
    · rw [if_pos c3] at H
      have c3b0 : ((t214.length : Int) == 1) = true := beq_iff_eq.mpr c3
      have c3b1 : ((t214.length : Int) != 1) = false := bne_eq_false_iff_eq.mpr c3
      clear c3
      by_cases c4 : 0 < (t214.length : Int)
      · rw [if_pos c4] at H
        have c4b0 : decide (0 < (t214.length : Int)) = true := decide_eq_true c4
        have c4b1 : decide (0 < t214.length) = true := decide_eq_true (by omega)
        clear c4
        by_cases c5 : (rd t214 0) = 15
        · rw [if_pos c5] at H
          have c5b0 : ((rd t214 0) == 15) = true := beq_iff_eq.mpr c5
          have c5b1 : ((rd t214 0) != 15) = false := bne_eq_false_iff_eq.mpr c5
          clear c5
          by_cases c6 : t217 = 2
          · rw [if_pos c6] at H
            have c6b0 : (t217 == 2) = true := beq_iff_eq.mpr c6
            have c6b1 : (t217 != 2) = false := bne_eq_false_iff_eq.mpr c6
            clear c6
            replace H := Option.bind_eq_some_iff.mp H
            obtain ⟨t221, A70, H⟩ := H
            replace H : (some (t221.toList == ([49, 53, 48, 48] : List UInt8))) = some r := H
            have A7 := Aside0.mk A70
            clear A70
            obtain rfl := Option.some.inj H
            go_enter Tryd.func9, Tryd.ntmps9
            go_wp2_with (first | ((with_reducible refine gate_callee (f := 10) rfl ?_); refine goesL_ (some 4) rfl rfl Tryd.func10 (by kernel_rfl) rfl #[.string (⟨#[49, 46, 53, 48, 101, 51]⟩ : ByteArray)] rfl (by (try simp only [List.map_toArray, List.map_cons, List.map_nil]); first | done | rfl | (simp only [List.length_drop, List.length_take]; rfl)) ?_; (with_reducible refine (num_Parse.calls k (⟨#[49, 46, 53, 48, 101, 51]⟩ : ByteArray) t213 t214 t217 t218 _ ?side1 A1.out).mono ?_); (case side1 => first | exact hL.out | exact hL.out.drewN _ | exact hL.out.drew | exact hL.out.below (by repeat (first | (with_reducible first | exact HB.out | apply below_alloc | apply pw_below_drewN | apply below_drew1) | exact HB.out))); rintro e w8 ⟨v215, rfl, ho0, hb⟩; refine ⟨_, rfl, ?_⟩; have n0_ := Aside0.mk (Kd.R_lower ho0 (below_size (by repeat (first | (with_reducible first | exact HB.out | apply below_alloc | apply pw_below_drewN | apply below_drew1) | exact HB.out)))); have n1_ := Aside0.mk (below_step (by repeat (first | (with_reducible first | exact HB.out | apply below_alloc | apply pw_below_drewN | apply below_drew1) | exact HB.out)) hb); clear HB; have HO216 := n0_; have HB := n1_; clear n0_ n1_; (try clear hb); (try clear hb2); (try clear hk); (try clear hi); (try clear ho0)) | ((with_reducible refine gate_dst (N := 1) rfl ?_); (try (refine gate_guard (by rfl) ?_; dsimp only)); refine box_event ?hg (N := 1) ?hd (cs := #[.bool false, .slice none 0 0, .int .i64 0]) (t := 25) ?hr ?_; (case hd => rfl); (case hg => rfl); (case hr => first | (go_simp; done) | (go_simp; rfl) | (go_simp; simp only [x_u32u8, x_u8, x_u32, x_u64, x_mm]; first | done | rfl)); intro gb219 hg w9 hbox hb; have n0_ := Aside0.mk (Kd.R_below (by (with_reducible repeat (first | apply Kd.R_alloc | apply Kd.R_drewN | apply Kd.R_drew)); exact HO216.out) hb); have n1_ := Aside0.mk (below_step (by repeat (first | (with_reducible first | exact HB.out | apply below_alloc | apply pw_below_drewN | apply below_drew1) | exact HB.out)) hb); have n2_ := Aside0.mk (hbox); have n3_ := Aside0.mk ((by rw [hg]; exact (below_size (by repeat (first | (with_reducible first | exact HB.out | apply below_alloc | apply pw_below_drewN | apply below_drew1) | exact HB.out))) : w.heap.size ≤ gb219)); have n4_ := Aside0.mk ((by rw [hg]; exact (below_size (by repeat (first | (with_reducible first | exact HB.out | apply below_alloc | apply pw_below_drewN | apply below_drew1) | exact HB.out))) : w.heap.size ≤ gb219)); clear HO216; clear HB; have HO216 := n0_; have HB := n1_; have BK219 := n2_; have GW219 := n3_; have GE219 := n4_; clear n0_ n1_ n2_ n3_ n4_; clear hb hbox hg; have hcz10_0 : w9.cell? ⟨gb219, 0, none⟩ = some (.bool false) := (blk_cell BK219.out 0).trans rfl; have hcz10_1 : w9.cell? ⟨gb219, 1, none⟩ = some (.slice none 0 0) := (blk_cell BK219.out 1).trans rfl; have hcz10_2 : w9.cell? ⟨gb219, 2, none⟩ = some (.int .i64 0) := (blk_cell BK219.out 2).trans rfl; have hfz10_0 := blk_frozen BK219.out 0; have hfz10_1 := blk_frozen BK219.out 1; have hfz10_2 := blk_frozen BK219.out 2; obtain ⟨Ao11, co11, eo11⟩ := Kd.R_slice HO216.out; subst eo11; have p220 : 0 ≤ (0 : Int) := (by omega); have q220 : 0 < (t214.length : Int) := of_decide_eq_true (by first | (with_reducible assumption) | assumption); obtain ⟨ad220, e220, hx220_0⟩ := Kd.at_int (Kd.R_reads' HO216.out).2.2 0 p220 q220; cases e220; have qi220 : (0 < t214.length) = True := eq_true (by omega); (try rw [show ((0 : Int)).toNat = 0 from rfl] at hx220_0); (try rw [Addr.add_zero'] at hx220_0); have hn220_0 : ad220.block ≠ gb219 := Kd.own_blk (Kd.R_ne HO216.out BK219.out (by decide)); have hn220_1 : ad220.block ≠ gb219 := Kd.own_blk (Kd.R_ne HO216.out BK219.out (by decide)); have hn220_2 : ad220.block ≠ gb219 := Kd.own_blk (Kd.R_ne HO216.out BK219.out (by decide)); replace hx220_0 := (cell_far (p := ⟨gb219, 0, none⟩) (by first | (rw [add_block]; exact hn220_0) | (show (Addr.add _ _).block ≠ _; rw [add_block]; exact hn220_0) | exact hn220_0) (.bool t213)).trans hx220_0; replace hx220_0 := (cell_far (p := ⟨gb219, 1, none⟩) (by first | (rw [add_block]; exact hn220_1) | (show (Addr.add _ _).block ≠ _; rw [add_block]; exact hn220_1) | exact hn220_1) (.slice (some ad220) t214.length co11)).trans hx220_0; replace hx220_0 := (cell_far (p := ⟨gb219, 2, none⟩) (by first | (rw [add_block]; exact hn220_2) | (show (Addr.add _ _).block ≠ _; rw [add_block]; exact hn220_2) | exact hn220_2) (.int .i64 t217)).trans hx220_0; clear hn220_0; clear hn220_1; clear hn220_2; replace p220 := eq_true p220; replace q220 := eq_true q220) | (go_at_call 14; (with_reducible refine (num_Text.calls k t213 _ _ t214 t217 t221 _ ?side1 ?side2 ?side3 A7.out).mono ?_); (case side1 => first | exact hL.out | exact hL.out.drewN _ | exact hL.out.drew | exact hL.out.below (by repeat (first | (with_reducible first | exact HB.out | apply below_alloc | apply pw_below_drewN | apply below_drew1 | refine below_set ?_ GE219.out) | exact HB.out))); (case side2 => refine (Kd.R_reads' (e := 40) (base := w.heap.size) (ok := fun k_ => True) (n := t214.length) (c := co11) ?_).2.2; exact (by (with_reducible repeat (first | apply Kd.R_alloc | apply Kd.R_drewN | apply Kd.R_drew)); exact (Kd.R_mono (Kd.R_far (p := ⟨gb219, 2, none⟩) (Kd.R_far (p := ⟨gb219, 1, none⟩) (Kd.R_far (p := ⟨gb219, 0, none⟩) (Kd.R_types HO216.out BK219.out (by decide)) (fun _ hk => hk.2) (.bool t213)) (fun _ hk => hk.2) (.slice (some ad220) t214.length co11)) (fun _ hk => hk.2) (.int .i64 t217)) (fun _ h_ => h_.1)))); (case side3 => exact (Kd.R_reads' HO216.out).2.1); rintro e w12 ⟨rfl, hb⟩; have n0_ := Aside0.mk (Kd.R_below (by (with_reducible repeat (first | apply Kd.R_alloc | apply Kd.R_drewN | apply Kd.R_drew)); exact (Kd.R_mono (Kd.R_far (p := ⟨gb219, 2, none⟩) (Kd.R_far (p := ⟨gb219, 1, none⟩) (Kd.R_far (p := ⟨gb219, 0, none⟩) (Kd.R_types HO216.out BK219.out (by decide)) (fun _ hk => hk.2) (.bool t213)) (fun _ hk => hk.2) (.slice (some ad220) t214.length co11)) (fun _ hk => hk.2) (.int .i64 t217)) (fun _ h_ => h_.1))) hb); have n1_ := Aside0.mk (blk_below (g := gb219) (o := .cells #[.bool t213, .slice (some ad220) t214.length co11, .int .i64 t217] 25 (0, 0)) (by (with_reducible repeat (first | refine blk_drewN ?_ _ | refine blk_drew ?_ | refine blk_alloc ?_ _)); refine blk_put (cs := #[.bool t213, .slice (some ad220) t214.length co11, .int .i64 0]) ?_ 2 _ rfl; (with_reducible repeat (first | refine blk_drewN ?_ _ | refine blk_drew ?_ | refine blk_alloc ?_ _)); refine blk_put (cs := #[.bool t213, .slice none 0 0, .int .i64 0]) ?_ 1 _ rfl; (with_reducible repeat (first | refine blk_drewN ?_ _ | refine blk_drew ?_ | refine blk_alloc ?_ _)); refine blk_put (cs := #[.bool false, .slice none 0 0, .int .i64 0]) ?_ 0 _ rfl; (with_reducible repeat (first | refine blk_drewN ?_ _ | refine blk_drew ?_ | refine blk_alloc ?_ _)); exact BK219.out) hb); have n2_ := Aside0.mk (below_step (by repeat (first | (with_reducible first | exact HB.out | apply below_alloc | apply pw_below_drewN | apply below_drew1 | refine below_set ?_ GE219.out) | exact HB.out)) hb); clear HO216; clear BK219; clear HB; have HO216 := n0_; have BK219 := n1_; have HB := n2_; clear n0_ n1_ n2_; (try clear hb); (try clear hb2); (try clear hk); (try clear hi)))
            go_ret
            exact ⟨by first | rfl | (simp [errW_none, errW_some] <;> rfl) | (simp [*, errW_none, errW_some] <;> rfl), by repeat (first | (with_reducible first | exact HB.out | apply below_alloc | apply pw_below_drewN | apply below_drew1 | refine below_set ?_ GE219.out) | exact HB.out)⟩
          · rw [if_neg c6] at H
            have c6b0 : (t217 == 2) = false := beq_eq_false_iff_ne.mpr c6
            have c6b1 : (t217 != 2) = true := bne_iff_ne.mpr c6
            obtain rfl := Option.some.inj H
            go_enter Tryd.func9, Tryd.ntmps9
            go_wp2_with (first | ((with_reducible refine gate_callee (f := 10) rfl ?_); refine goesL_ (some 4) rfl rfl Tryd.func10 (by kernel_rfl) rfl #[.string (⟨#[49, 46, 53, 48, 101, 51]⟩ : ByteArray)] rfl (by (try simp only [List.map_toArray, List.map_cons, List.map_nil]); first | done | rfl | (simp only [List.length_drop, List.length_take]; rfl)) ?_; (with_reducible refine (num_Parse.calls k (⟨#[49, 46, 53, 48, 101, 51]⟩ : ByteArray) t213 t214 t217 t218 _ ?side1 A1.out).mono ?_); (case side1 => first | exact hL.out | exact hL.out.drewN _ | exact hL.out.drew | exact hL.out.below (by repeat (first | (with_reducible first | exact HB.out | apply below_alloc | apply pw_below_drewN | apply below_drew1) | exact HB.out))); rintro e w13 ⟨v215, rfl, ho0, hb⟩; refine ⟨_, rfl, ?_⟩; have n0_ := Aside0.mk (Kd.R_lower ho0 (below_size (by repeat (first | (with_reducible first | exact HB.out | apply below_alloc | apply pw_below_drewN | apply below_drew1) | exact HB.out)))); have n1_ := Aside0.mk (below_step (by repeat (first | (with_reducible first | exact HB.out | apply below_alloc | apply pw_below_drewN | apply below_drew1) | exact HB.out)) hb); clear HB; have HO216 := n0_; have HB := n1_; clear n0_ n1_; (try clear hb); (try clear hb2); (try clear hk); (try clear hi); (try clear ho0)) | ((with_reducible refine gate_dst (N := 1) rfl ?_); (try (refine gate_guard (by rfl) ?_; dsimp only)); refine box_event ?hg (N := 1) ?hd (cs := #[.bool false, .slice none 0 0, .int .i64 0]) (t := 25) ?hr ?_; (case hd => rfl); (case hg => rfl); (case hr => first | (go_simp; done) | (go_simp; rfl) | (go_simp; simp only [x_u32u8, x_u8, x_u32, x_u64, x_mm]; first | done | rfl)); intro gb219 hg w14 hbox hb; have n0_ := Aside0.mk (Kd.R_below (by (with_reducible repeat (first | apply Kd.R_alloc | apply Kd.R_drewN | apply Kd.R_drew)); exact HO216.out) hb); have n1_ := Aside0.mk (below_step (by repeat (first | (with_reducible first | exact HB.out | apply below_alloc | apply pw_below_drewN | apply below_drew1) | exact HB.out)) hb); have n2_ := Aside0.mk (hbox); have n3_ := Aside0.mk ((by rw [hg]; exact (below_size (by repeat (first | (with_reducible first | exact HB.out | apply below_alloc | apply pw_below_drewN | apply below_drew1) | exact HB.out))) : w.heap.size ≤ gb219)); have n4_ := Aside0.mk ((by rw [hg]; exact (below_size (by repeat (first | (with_reducible first | exact HB.out | apply below_alloc | apply pw_below_drewN | apply below_drew1) | exact HB.out))) : w.heap.size ≤ gb219)); clear HO216; clear HB; have HO216 := n0_; have HB := n1_; have BK219 := n2_; have GW219 := n3_; have GE219 := n4_; clear n0_ n1_ n2_ n3_ n4_; clear hb hbox hg; have hcz15_0 : w14.cell? ⟨gb219, 0, none⟩ = some (.bool false) := (blk_cell BK219.out 0).trans rfl; have hcz15_1 : w14.cell? ⟨gb219, 1, none⟩ = some (.slice none 0 0) := (blk_cell BK219.out 1).trans rfl; have hcz15_2 : w14.cell? ⟨gb219, 2, none⟩ = some (.int .i64 0) := (blk_cell BK219.out 2).trans rfl; have hfz15_0 := blk_frozen BK219.out 0; have hfz15_1 := blk_frozen BK219.out 1; have hfz15_2 := blk_frozen BK219.out 2; obtain ⟨Ao16, co16, eo16⟩ := Kd.R_slice HO216.out; subst eo16; have p220 : 0 ≤ (0 : Int) := (by omega); have q220 : 0 < (t214.length : Int) := of_decide_eq_true (by first | (with_reducible assumption) | assumption); obtain ⟨ad220, e220, hx220_0⟩ := Kd.at_int (Kd.R_reads' HO216.out).2.2 0 p220 q220; cases e220; have qi220 : (0 < t214.length) = True := eq_true (by omega); (try rw [show ((0 : Int)).toNat = 0 from rfl] at hx220_0); (try rw [Addr.add_zero'] at hx220_0); have hn220_0 : ad220.block ≠ gb219 := Kd.own_blk (Kd.R_ne HO216.out BK219.out (by decide)); have hn220_1 : ad220.block ≠ gb219 := Kd.own_blk (Kd.R_ne HO216.out BK219.out (by decide)); have hn220_2 : ad220.block ≠ gb219 := Kd.own_blk (Kd.R_ne HO216.out BK219.out (by decide)); replace hx220_0 := (cell_far (p := ⟨gb219, 0, none⟩) (by first | (rw [add_block]; exact hn220_0) | (show (Addr.add _ _).block ≠ _; rw [add_block]; exact hn220_0) | exact hn220_0) (.bool t213)).trans hx220_0; replace hx220_0 := (cell_far (p := ⟨gb219, 1, none⟩) (by first | (rw [add_block]; exact hn220_1) | (show (Addr.add _ _).block ≠ _; rw [add_block]; exact hn220_1) | exact hn220_1) (.slice (some ad220) t214.length co16)).trans hx220_0; replace hx220_0 := (cell_far (p := ⟨gb219, 2, none⟩) (by first | (rw [add_block]; exact hn220_2) | (show (Addr.add _ _).block ≠ _; rw [add_block]; exact hn220_2) | exact hn220_2) (.int .i64 t217)).trans hx220_0; clear hn220_0; clear hn220_1; clear hn220_2; replace p220 := eq_true p220; replace q220 := eq_true q220))
            go_ret
            exact ⟨by first | rfl | (simp [errW_none, errW_some] <;> rfl) | (simp [*, errW_none, errW_some] <;> rfl), by repeat (first | (with_reducible first | exact HB.out | apply below_alloc | apply pw_below_drewN | apply below_drew1 | refine below_set ?_ GE219.out) | exact HB.out)⟩
        · rw [if_neg c5] at H
          have c5b0 : ((rd t214 0) == 15) = false := beq_eq_false_iff_ne.mpr c5
          have c5b1 : ((rd t214 0) != 15) = true := bne_iff_ne.mpr c5
          obtain rfl := Option.some.inj H
          go_enter Tryd.func9, Tryd.ntmps9
          go_wp2_with (first | ((with_reducible refine gate_callee (f := 10) rfl ?_); refine goesL_ (some 4) rfl rfl Tryd.func10 (by kernel_rfl) rfl #[.string (⟨#[49, 46, 53, 48, 101, 51]⟩ : ByteArray)] rfl (by (try simp only [List.map_toArray, List.map_cons, List.map_nil]); first | done | rfl | (simp only [List.length_drop, List.length_take]; rfl)) ?_; (with_reducible refine (num_Parse.calls k (⟨#[49, 46, 53, 48, 101, 51]⟩ : ByteArray) t213 t214 t217 t218 _ ?side1 A1.out).mono ?_); (case side1 => first | exact hL.out | exact hL.out.drewN _ | exact hL.out.drew | exact hL.out.below (by repeat (first | (with_reducible first | exact HB.out | apply below_alloc | apply pw_below_drewN | apply below_drew1) | exact HB.out))); rintro e w17 ⟨v215, rfl, ho0, hb⟩; refine ⟨_, rfl, ?_⟩; have n0_ := Aside0.mk (Kd.R_lower ho0 (below_size (by repeat (first | (with_reducible first | exact HB.out | apply below_alloc | apply pw_below_drewN | apply below_drew1) | exact HB.out)))); have n1_ := Aside0.mk (below_step (by repeat (first | (with_reducible first | exact HB.out | apply below_alloc | apply pw_below_drewN | apply below_drew1) | exact HB.out)) hb); clear HB; have HO216 := n0_; have HB := n1_; clear n0_ n1_; (try clear hb); (try clear hb2); (try clear hk); (try clear hi); (try clear ho0)) | ((with_reducible refine gate_dst (N := 1) rfl ?_); (try (refine gate_guard (by rfl) ?_; dsimp only)); refine box_event ?hg (N := 1) ?hd (cs := #[.bool false, .slice none 0 0, .int .i64 0]) (t := 25) ?hr ?_; (case hd => rfl); (case hg => rfl); (case hr => first | (go_simp; done) | (go_simp; rfl) | (go_simp; simp only [x_u32u8, x_u8, x_u32, x_u64, x_mm]; first | done | rfl)); intro gb219 hg w18 hbox hb; have n0_ := Aside0.mk (Kd.R_below (by (with_reducible repeat (first | apply Kd.R_alloc | apply Kd.R_drewN | apply Kd.R_drew)); exact HO216.out) hb); have n1_ := Aside0.mk (below_step (by repeat (first | (with_reducible first | exact HB.out | apply below_alloc | apply pw_below_drewN | apply below_drew1) | exact HB.out)) hb); have n2_ := Aside0.mk (hbox); have n3_ := Aside0.mk ((by rw [hg]; exact (below_size (by repeat (first | (with_reducible first | exact HB.out | apply below_alloc | apply pw_below_drewN | apply below_drew1) | exact HB.out))) : w.heap.size ≤ gb219)); have n4_ := Aside0.mk ((by rw [hg]; exact (below_size (by repeat (first | (with_reducible first | exact HB.out | apply below_alloc | apply pw_below_drewN | apply below_drew1) | exact HB.out))) : w.heap.size ≤ gb219)); clear HO216; clear HB; have HO216 := n0_; have HB := n1_; have BK219 := n2_; have GW219 := n3_; have GE219 := n4_; clear n0_ n1_ n2_ n3_ n4_; clear hb hbox hg; have hcz19_0 : w18.cell? ⟨gb219, 0, none⟩ = some (.bool false) := (blk_cell BK219.out 0).trans rfl; have hcz19_1 : w18.cell? ⟨gb219, 1, none⟩ = some (.slice none 0 0) := (blk_cell BK219.out 1).trans rfl; have hcz19_2 : w18.cell? ⟨gb219, 2, none⟩ = some (.int .i64 0) := (blk_cell BK219.out 2).trans rfl; have hfz19_0 := blk_frozen BK219.out 0; have hfz19_1 := blk_frozen BK219.out 1; have hfz19_2 := blk_frozen BK219.out 2; obtain ⟨Ao20, co20, eo20⟩ := Kd.R_slice HO216.out; subst eo20; have p220 : 0 ≤ (0 : Int) := (by omega); have q220 : 0 < (t214.length : Int) := of_decide_eq_true (by first | (with_reducible assumption) | assumption); obtain ⟨ad220, e220, hx220_0⟩ := Kd.at_int (Kd.R_reads' HO216.out).2.2 0 p220 q220; cases e220; have qi220 : (0 < t214.length) = True := eq_true (by omega); (try rw [show ((0 : Int)).toNat = 0 from rfl] at hx220_0); (try rw [Addr.add_zero'] at hx220_0); have hn220_0 : ad220.block ≠ gb219 := Kd.own_blk (Kd.R_ne HO216.out BK219.out (by decide)); have hn220_1 : ad220.block ≠ gb219 := Kd.own_blk (Kd.R_ne HO216.out BK219.out (by decide)); have hn220_2 : ad220.block ≠ gb219 := Kd.own_blk (Kd.R_ne HO216.out BK219.out (by decide)); replace hx220_0 := (cell_far (p := ⟨gb219, 0, none⟩) (by first | (rw [add_block]; exact hn220_0) | (show (Addr.add _ _).block ≠ _; rw [add_block]; exact hn220_0) | exact hn220_0) (.bool t213)).trans hx220_0; replace hx220_0 := (cell_far (p := ⟨gb219, 1, none⟩) (by first | (rw [add_block]; exact hn220_1) | (show (Addr.add _ _).block ≠ _; rw [add_block]; exact hn220_1) | exact hn220_1) (.slice (some ad220) t214.length co20)).trans hx220_0; replace hx220_0 := (cell_far (p := ⟨gb219, 2, none⟩) (by first | (rw [add_block]; exact hn220_2) | (show (Addr.add _ _).block ≠ _; rw [add_block]; exact hn220_2) | exact hn220_2) (.int .i64 t217)).trans hx220_0; clear hn220_0; clear hn220_1; clear hn220_2; replace p220 := eq_true p220; replace q220 := eq_true q220))
          go_ret
          exact ⟨by first | rfl | (simp [errW_none, errW_some] <;> rfl) | (simp [*, errW_none, errW_some] <;> rfl), by repeat (first | (with_reducible first | exact HB.out | apply below_alloc | apply pw_below_drewN | apply below_drew1 | refine below_set ?_ GE219.out) | exact HB.out)⟩
      · rw [if_neg c4] at H
        exact absurd H (by simp)
    · rw [if_neg c3] at H
      have c3b0 : ((t214.length : Int) == 1) = false := beq_eq_false_iff_ne.mpr c3
      have c3b1 : ((t214.length : Int) != 1) = true := bne_iff_ne.mpr c3
      obtain rfl := Option.some.inj H
      go_enter Tryd.func9, Tryd.ntmps9
      go_wp2_with (first | ((with_reducible refine gate_callee (f := 10) rfl ?_); refine goesL_ (some 4) rfl rfl Tryd.func10 (by kernel_rfl) rfl #[.string (⟨#[49, 46, 53, 48, 101, 51]⟩ : ByteArray)] rfl (by (try simp only [List.map_toArray, List.map_cons, List.map_nil]); first | done | rfl | (simp only [List.length_drop, List.length_take]; rfl)) ?_; (with_reducible refine (num_Parse.calls k (⟨#[49, 46, 53, 48, 101, 51]⟩ : ByteArray) t213 t214 t217 t218 _ ?side1 A1.out).mono ?_); (case side1 => first | exact hL.out | exact hL.out.drewN _ | exact hL.out.drew | exact hL.out.below (by repeat (first | (with_reducible first | exact HB.out | apply below_alloc | apply pw_below_drewN | apply below_drew1) | exact HB.out))); rintro e w21 ⟨v215, rfl, ho0, hb⟩; refine ⟨_, rfl, ?_⟩; have n0_ := Aside0.mk (Kd.R_lower ho0 (below_size (by repeat (first | (with_reducible first | exact HB.out | apply below_alloc | apply pw_below_drewN | apply below_drew1) | exact HB.out)))); have n1_ := Aside0.mk (below_step (by repeat (first | (with_reducible first | exact HB.out | apply below_alloc | apply pw_below_drewN | apply below_drew1) | exact HB.out)) hb); clear HB; have HO216 := n0_; have HB := n1_; clear n0_ n1_; (try clear hb); (try clear hb2); (try clear hk); (try clear hi); (try clear ho0)) | ((with_reducible refine gate_dst (N := 1) rfl ?_); (try (refine gate_guard (by rfl) ?_; dsimp only)); refine box_event ?hg (N := 1) ?hd (cs := #[.bool false, .slice none 0 0, .int .i64 0]) (t := 25) ?hr ?_; (case hd => rfl); (case hg => rfl); (case hr => first | (go_simp; done) | (go_simp; rfl) | (go_simp; simp only [x_u32u8, x_u8, x_u32, x_u64, x_mm]; first | done | rfl)); intro gb219 hg w22 hbox hb; have n0_ := Aside0.mk (Kd.R_below (by (with_reducible repeat (first | apply Kd.R_alloc | apply Kd.R_drewN | apply Kd.R_drew)); exact HO216.out) hb); have n1_ := Aside0.mk (below_step (by repeat (first | (with_reducible first | exact HB.out | apply below_alloc | apply pw_below_drewN | apply below_drew1) | exact HB.out)) hb); have n2_ := Aside0.mk (hbox); have n3_ := Aside0.mk ((by rw [hg]; exact (below_size (by repeat (first | (with_reducible first | exact HB.out | apply below_alloc | apply pw_below_drewN | apply below_drew1) | exact HB.out))) : w.heap.size ≤ gb219)); have n4_ := Aside0.mk ((by rw [hg]; exact (below_size (by repeat (first | (with_reducible first | exact HB.out | apply below_alloc | apply pw_below_drewN | apply below_drew1) | exact HB.out))) : w.heap.size ≤ gb219)); clear HO216; clear HB; have HO216 := n0_; have HB := n1_; have BK219 := n2_; have GW219 := n3_; have GE219 := n4_; clear n0_ n1_ n2_ n3_ n4_; clear hb hbox hg; have hcz23_0 : w22.cell? ⟨gb219, 0, none⟩ = some (.bool false) := (blk_cell BK219.out 0).trans rfl; have hcz23_1 : w22.cell? ⟨gb219, 1, none⟩ = some (.slice none 0 0) := (blk_cell BK219.out 1).trans rfl; have hcz23_2 : w22.cell? ⟨gb219, 2, none⟩ = some (.int .i64 0) := (blk_cell BK219.out 2).trans rfl; have hfz23_0 := blk_frozen BK219.out 0; have hfz23_1 := blk_frozen BK219.out 1; have hfz23_2 := blk_frozen BK219.out 2; obtain ⟨Ao24, co24, eo24⟩ := Kd.R_slice HO216.out; subst eo24))
      go_ret
      exact ⟨by first | rfl | (simp [errW_none, errW_some] <;> rfl) | (simp [*, errW_none, errW_some] <;> rfl), by repeat (first | (with_reducible first | exact HB.out | apply below_alloc | apply pw_below_drewN | apply below_drew1 | refine below_set ?_ GE219.out) | exact HB.out)⟩
  · rw [if_neg c2] at H
    have c2b0 : (t218 == 0) = false := beq_eq_false_iff_ne.mpr c2
    have c2b1 : (t218 != 0) = true := bne_iff_ne.mpr c2
    obtain rfl := Option.some.inj H
    go_enter Tryd.func9, Tryd.ntmps9
    go_wp2_with (first | ((with_reducible refine gate_callee (f := 10) rfl ?_); refine goesL_ (some 4) rfl rfl Tryd.func10 (by kernel_rfl) rfl #[.string (⟨#[49, 46, 53, 48, 101, 51]⟩ : ByteArray)] rfl (by (try simp only [List.map_toArray, List.map_cons, List.map_nil]); first | done | rfl | (simp only [List.length_drop, List.length_take]; rfl)) ?_; (with_reducible refine (num_Parse.calls k (⟨#[49, 46, 53, 48, 101, 51]⟩ : ByteArray) t213 t214 t217 t218 _ ?side1 A1.out).mono ?_); (case side1 => first | exact hL.out | exact hL.out.drewN _ | exact hL.out.drew | exact hL.out.below (by repeat (first | (with_reducible first | exact HB.out | apply below_alloc | apply pw_below_drewN | apply below_drew1) | exact HB.out))); rintro e w25 ⟨v215, rfl, ho0, hb⟩; refine ⟨_, rfl, ?_⟩; have n0_ := Aside0.mk (Kd.R_lower ho0 (below_size (by repeat (first | (with_reducible first | exact HB.out | apply below_alloc | apply pw_below_drewN | apply below_drew1) | exact HB.out)))); have n1_ := Aside0.mk (below_step (by repeat (first | (with_reducible first | exact HB.out | apply below_alloc | apply pw_below_drewN | apply below_drew1) | exact HB.out)) hb); clear HB; have HO216 := n0_; have HB := n1_; clear n0_ n1_; (try clear hb); (try clear hb2); (try clear hk); (try clear hi); (try clear ho0)) | ((with_reducible refine gate_dst (N := 1) rfl ?_); (try (refine gate_guard (by rfl) ?_; dsimp only)); refine box_event ?hg (N := 1) ?hd (cs := #[.bool false, .slice none 0 0, .int .i64 0]) (t := 25) ?hr ?_; (case hd => rfl); (case hg => rfl); (case hr => first | (go_simp; done) | (go_simp; rfl) | (go_simp; simp only [x_u32u8, x_u8, x_u32, x_u64, x_mm]; first | done | rfl)); intro gb219 hg w26 hbox hb; have n0_ := Aside0.mk (Kd.R_below (by (with_reducible repeat (first | apply Kd.R_alloc | apply Kd.R_drewN | apply Kd.R_drew)); exact HO216.out) hb); have n1_ := Aside0.mk (below_step (by repeat (first | (with_reducible first | exact HB.out | apply below_alloc | apply pw_below_drewN | apply below_drew1) | exact HB.out)) hb); have n2_ := Aside0.mk (hbox); have n3_ := Aside0.mk ((by rw [hg]; exact (below_size (by repeat (first | (with_reducible first | exact HB.out | apply below_alloc | apply pw_below_drewN | apply below_drew1) | exact HB.out))) : w.heap.size ≤ gb219)); have n4_ := Aside0.mk ((by rw [hg]; exact (below_size (by repeat (first | (with_reducible first | exact HB.out | apply below_alloc | apply pw_below_drewN | apply below_drew1) | exact HB.out))) : w.heap.size ≤ gb219)); clear HO216; clear HB; have HO216 := n0_; have HB := n1_; have BK219 := n2_; have GW219 := n3_; have GE219 := n4_; clear n0_ n1_ n2_ n3_ n4_; clear hb hbox hg; have hcz27_0 : w26.cell? ⟨gb219, 0, none⟩ = some (.bool false) := (blk_cell BK219.out 0).trans rfl; have hcz27_1 : w26.cell? ⟨gb219, 1, none⟩ = some (.slice none 0 0) := (blk_cell BK219.out 1).trans rfl; have hcz27_2 : w26.cell? ⟨gb219, 2, none⟩ = some (.int .i64 0) := (blk_cell BK219.out 2).trans rfl; have hfz27_0 := blk_frozen BK219.out 0; have hfz27_1 := blk_frozen BK219.out 1; have hfz27_2 := blk_frozen BK219.out 2; obtain ⟨Ao28, co28, eo28⟩ := Kd.R_slice HO216.out; subst eo28))
    go_ret
    exact ⟨by first | rfl | (simp [errW_none, errW_some] <;> rfl) | (simp [*, errW_none, errW_some] <;> rfl), by repeat (first | (with_reducible first | exact HB.out | apply below_alloc | apply pw_below_drewN | apply below_drew1 | refine below_set ?_ GE219.out) | exact HB.out)⟩

end Go.Proofs.YtmkdcokdilllcaaDoor.X
/- The first sentence holds; and so does the law of texts. -/
namespace Go.Proofs.YtmkdcokdilllcaaDoor.X
open Go.RowKit Go.Proofs.YtmkdcokdilllcaaDoorW.PrintWords Go.Proofs.YtmkdcokdilllcaaDoorW.PrintMore
set_option linter.unusedVariables false
set_option linter.unusedSimpArgs false
theorem same_limbs (l : List Int) (hl : l.length ≤ 1099511627776) : Ev (fun k => erratumlaw00_SameLimbs.f k l l) true := by
  have h : ∀ d i : Nat, i + d = l.length → Ev (fun k => erratumlaw00_SameLimbs.l0 k l l (i : Int)) true := by
    intro d
    induction d with
    | zero =>
      intro i hi
      have c0 : ¬ (i : Int) < (l.length : Int) := by omega
      exact Ev.step (f := fun _ => some true) (fun k => by simp only [erratumlaw00_SameLimbs.l0, c0, if_false]) (Ev.now _)
    | succ d ih =>
      intro i hi
      have c0 : (i : Int) < (l.length : Int) := by omega
      have c1 : (0 : Int) ≤ (i : Int) := by omega
      have hw : wrap64 ((i : Int) + 1) = ((i + 1 : Nat) : Int) := by rw [wrap64_ok (by omega) (by omega)]; omega
      exact Ev.step (f := fun k => erratumlaw00_SameLimbs.l0 k l l ((i + 1 : Nat) : Int)) (fun k => by simp only [erratumlaw00_SameLimbs.l0, c0, c1, if_true, hw]) (ih (i + 1) (by omega))
  exact Ev.congr (fun k => by unfold erratumlaw00_SameLimbs.f; rw [if_pos rfl]; rfl) (h l.length 0 (by omega))
theorem same_num (a : Bool) (l : List Int) (e : Int) (hl : l.length ≤ 1099511627776) : Ev (fun k => erratumlaw00_SameNum.f k a l e a l e) true := by
  refine Ev.congr (f := fun k => (erratumlaw00_SameLimbs.f k l l).bind fun t => some t) (fun k => ?_) (Ev.bind (same_limbs l hl) (Ev.now _))
  unfold erratumlaw00_SameNum.f
  rw [if_pos (by cases a <;> rfl), if_pos rfl]
theorem tz15 : tz 15 = (15, 0) := tz_self (by decide)
theorem tz150 : tz 150 = (15, 1) := by rw [tz_ten (by decide) (by decide), show 150 / 10 = 15 from rfl, tz15]
theorem lim15 : lim 15 = [15] := by rw [lim_pos (by decide), show 15 / 4294967296 = 0 from rfl, lim_zero]; rfl
theorem make150 : makeS false 150 1 = (false, [15], 2, true) := by
  unfold makeS
  rw [tz150]
  simp only [lim15]
  rfl
theorem awake_spec : resS (specL [49, 46, 53, 48, 101, 51]) = (false, [15], 2, 0) := by
  have h : specL [49, 46, 53, 48, 101, 51] = some (false, [49, 53, 48], 2, some (false, [51])) := by decide
  rw [h]
  simp only [resS]
  rw [show dec [49, 53, 48] = 150 from by decide, show expL (some (false, [51])) = 3 from by decide, show ((3 : Int) - ((2 : Nat) : Int)) = 1 from rfl, make150]
  rfl
theorem ok15 : Ok [15] := ok_one (by decide) (by decide)
theorem val15 : val [15] = 15 := by decide
theorem check15 : Ev (fun k => num_Check.f k false [15] 2) true := by
  have h := nat_trim ok15 (by decide)
  rw [val15, tz15] at h
  have hw : wrap64 ((([15] : List Int).length : Int) - 1) = 0 := wrap64_ok (n := 0) (by decide) (by decide)
  refine Ev.congr (f := fun k => (nat_Trim.f k [15]).bind fun bt => some (bt.2 == 0)) (fun k => ?_) (Ev.bind h (Ev.now _))
  unfold num_Check.f
  rw [hw]
  rfl
theorem digits15 : nat_Digits.f [15] = some ⟨#[49, 53]⟩ := by
  unfold nat_Digits.f
  rw [if_pos ⟨ok15, by decide⟩, val15]
  rw [Lib.decDigits, dif_neg (by decide), Lib.decDigits, dif_pos (by decide)]
  rfl
theorem repeat2 : strings_Repeat.f ⟨#[48]⟩ 2 = some ⟨#[48, 48]⟩ := by
  unfold strings_Repeat.f
  rw [if_pos (by decide)]
  rfl
theorem text15 : Ev (fun k => num_Text.f k false [15] 2) ⟨#[49, 53, 48, 48]⟩ := by
  have hof : Ev (fun k => num_of.f k false [15] 2) (false, [15], 2) := Ev.congr (fun k => rfl) (Ev.bind check15 (Ev.congr (fun k => if_pos rfl) (Ev.now _)))
  refine Ev.congr (fun k => rfl) (Ev.bind hof ?_)
  simp only [digits15, Option.bind_some, Bool.false_eq_true, if_false]
  have hw : wrap64 (((ByteArray.mk #[49, 53]).size : Int) + 2) = 4 := wrap64_ok (n := 4) (by decide) (by decide)
  rw [hw]
  refine Ev.step (f := fun k => num_Text.j1 k ⟨#[49, 53]⟩ 4 ⟨#[]⟩ true false [15] 2) (fun k => ?_) ?_
  · simp only [num_Text.j0]
    rfl
  · refine Ev.step (f := fun _ => some ⟨#[49, 53, 48, 48]⟩) (fun k => ?_) (Ev.now _)
    simp only [num_Text.j1, if_true, repeat2, Option.bind_some]
    rfl
theorem awake_true : Ev (fun k => erratumlaw02_awake.f k) true := by
  have h := num_text ⟨#[49, 46, 53, 48, 101, 51]⟩ (by decide)
  rw [show (ByteArray.mk #[49, 46, 53, 48, 101, 51]).data.toList = [49, 46, 53, 48, 101, 51] from rfl, awake_spec] at h
  refine Ev.congr (fun k => rfl) (Ev.bind h ?_)
  refine Ev.congr (f := fun k => (num_Text.f k false [15] 2).bind fun t => some (t.toList == [49, 53, 48, 48])) (fun k => ?_) (Ev.bind text15 ?_)
  · rfl
  · rw [Lib.toList_data]
    exact Ev.now _
end Go.Proofs.YtmkdcokdilllcaaDoor.X
-- A walk, written by a program of this session (xp.py).
namespace Go.Proofs.YtmkdcokdilllcaaDoor.X
open Go.RowKit Go.Proofs.YtmkdcokdilllcaaDoorW.PrintWords Go.Proofs.YtmkdcokdilllcaaDoorW.PrintLast Go.Proofs.YtmkdcokdilllcaaDoorW.PrintMore
attribute [local go_sem] max2_int min2_int max_two min_two max_three min_three max_four min_four
set_option linter.unusedVariables false
set_option linter.unusedSimpArgs false

/-! ### erratumlaw02_NumRooms: function 6 -/
theorem same_zero_calls (k : Nat) (a0_0 : Bool) (A0_1 : Option Addr) (c0_1 : Nat) (l0_1 : List Int) (a0_2 : Int) (r : Bool) (w : World) (hr0_1 : Kd.C (Kd.int .u32) w A0_1 l0_1.length l0_1) (hc0_1 : l0_1.length ≤ c0_1) (h : erratumlaw00_SameNum.f k a0_0 l0_1 a0_2 false ([] : List Int) 0 = some r) :
    Calls Tryd.prog 12 #[.agg #[.bool a0_0, .slice A0_1 l0_1.length c0_1, .int .i64 a0_2], .agg #[.bool false, .slice none 0 0, .int .i64 0]] w fun e w' => e = .returned (.bool r) ∧ Below w.heap.size w w' :=
  erratumlaw00_SameNum.calls k a0_0 A0_1 c0_1 l0_1 a0_2 false none 0 [] 0 r w hr0_1 hc0_1 (Kd.C_nil _ _) (Nat.le_refl _) h
def erratumlaw02_NumRooms.f (k : Nat) (a0 : Int) (a1 : Int) (a2 : Bool) : Option (Bool) := (erratumlaw00_Place.f a0 2401).bind fun t226 => ((erratumlaw00_Place.f a1 5).bind fun t227 => ((num_Make.f k a2 (([7] : List Int)) (wrap64 (t226 - 1200))).bind fun bt231 => ((num_Make.f k a2 (([7] : List Int)) (wrap64 (1201 + t227))).bind fun bt241 => ((num_Make.f k a2 (([7] : List Int)) (wrap64 ((-1201) - t227))).bind fun bt251 => ((num_Make.f k a2 (([70] : List Int)) 1199).bind fun bt261 => ((num_Make.f k a2 (([0, 0] : List Int)) 1125899906842624).bind fun bt271 => ((num_Text.f k bt231.1 bt231.2.1 bt231.2.2.1).bind fun t278 => ((num_Parse.f k t278).bind fun bt279 => (if bt231.2.2.2 = true then ((num_Check.f k bt231.1 bt231.2.1 bt231.2.2.1).bind fun t286 => (if t286 = true then (if bt241.2.2.2 = true then (some false) else (if bt251.2.2.2 = true then (some false) else (if bt261.2.2.2 = true then (if bt261.2.2.1 = 1200 then (if bt271.2.2.2 = true then ((erratumlaw00_SameNum.f k bt271.1 bt271.2.1 bt271.2.2.1 false ([] : List Int) 0).bind fun t287 => (if t287 = true then (if bt279.2.2.2 = 0 then ((erratumlaw00_SameNum.f k bt279.1 bt279.2.1 bt279.2.2.1 bt231.1 bt231.2.1 bt231.2.2.1).bind fun t288 => (if t288 = true then ((erratumlaw02_awake.f k).bind fun t289 => (some t289)) else (some false))) else (some false)) else (some false))) else (some false)) else (some false)) else (some false)))) else (some false))) else (some false))))))))))
set_option maxHeartbeats 8000000 in
set_option maxRecDepth 100000 in
theorem erratumlaw02_NumRooms.calls (k : Nat) (a0 : Int) (a1 : Int) (a2 : Bool) (r : Bool) (w : World) (hT : r = true) (hL : Laid w) (h : erratumlaw02_NumRooms.f k a0 a1 a2 = some r) :
    Calls Tryd.prog 6 #[.int .i64 a0, .int .i64 a1, .bool a2] w fun e w' => e = .returned (.bool r) ∧ Below w.heap.size w w' := by
  replace hL := Aside0.mk hL
  have hu25 := Tryd.underlying25
  have HB := Aside0.mk (Below.refl w.heap.size w)
  have H : ((erratumlaw00_Place.f a0 2401).bind fun t226 => ((erratumlaw00_Place.f a1 5).bind fun t227 => ((num_Make.f k a2 (([7] : List Int)) (wrap64 (t226 - 1200))).bind fun bt231 => ((num_Make.f k a2 (([7] : List Int)) (wrap64 (1201 + t227))).bind fun bt241 => ((num_Make.f k a2 (([7] : List Int)) (wrap64 ((-1201) - t227))).bind fun bt251 => ((num_Make.f k a2 (([70] : List Int)) 1199).bind fun bt261 => ((num_Make.f k a2 (([0, 0] : List Int)) 1125899906842624).bind fun bt271 => ((num_Text.f k bt231.1 bt231.2.1 bt231.2.2.1).bind fun t278 => ((num_Parse.f k t278).bind fun bt279 => (if bt231.2.2.2 = true then ((num_Check.f k bt231.1 bt231.2.1 bt231.2.2.1).bind fun t286 => (if t286 = true then (if bt241.2.2.2 = true then (some false) else (if bt251.2.2.2 = true then (some false) else (if bt261.2.2.2 = true then (if bt261.2.2.1 = 1200 then (if bt271.2.2.2 = true then ((erratumlaw00_SameNum.f k bt271.1 bt271.2.1 bt271.2.2.1 false ([] : List Int) 0).bind fun t287 => (if t287 = true then (if bt279.2.2.2 = 0 then ((erratumlaw00_SameNum.f k bt279.1 bt279.2.1 bt279.2.2.1 bt231.1 bt231.2.1 bt231.2.2.1).bind fun t288 => (if t288 = true then ((erratumlaw02_awake.f k).bind fun t289 => (some t289)) else (some false))) else (some false)) else (some false))) else (some false)) else (some false)) else (some false)))) else (some false))) else (some false))))))))))) = some r := h
  clear h
  replace H := Option.bind_eq_some_iff.mp H
  obtain ⟨t226, A40, H⟩ := H
  replace H : ((erratumlaw00_Place.f a1 5).bind fun t227 => ((num_Make.f k a2 (([7] : List Int)) (wrap64 (t226 - 1200))).bind fun bt231 => ((num_Make.f k a2 (([7] : List Int)) (wrap64 (1201 + t227))).bind fun bt241 => ((num_Make.f k a2 (([7] : List Int)) (wrap64 ((-1201) - t227))).bind fun bt251 => ((num_Make.f k a2 (([70] : List Int)) 1199).bind fun bt261 => ((num_Make.f k a2 (([0, 0] : List Int)) 1125899906842624).bind fun bt271 => ((num_Text.f k bt231.1 bt231.2.1 bt231.2.2.1).bind fun t278 => ((num_Parse.f k t278).bind fun bt279 => (if bt231.2.2.2 = true then ((num_Check.f k bt231.1 bt231.2.1 bt231.2.2.1).bind fun t286 => (if t286 = true then (if bt241.2.2.2 = true then (some false) else (if bt251.2.2.2 = true then (some false) else (if bt261.2.2.2 = true then (if bt261.2.2.1 = 1200 then (if bt271.2.2.2 = true then ((erratumlaw00_SameNum.f k bt271.1 bt271.2.1 bt271.2.2.1 false ([] : List Int) 0).bind fun t287 => (if t287 = true then (if bt279.2.2.2 = 0 then ((erratumlaw00_SameNum.f k bt279.1 bt279.2.1 bt279.2.2.1 bt231.1 bt231.2.1 bt231.2.2.1).bind fun t288 => (if t288 = true then ((erratumlaw02_awake.f k).bind fun t289 => (some t289)) else (some false))) else (some false)) else (some false))) else (some false)) else (some false)) else (some false)))) else (some false))) else (some false)))))))))) = some r := H
  have A4 := Aside0.mk A40
  clear A40
  replace H := Option.bind_eq_some_iff.mp H
  obtain ⟨t227, A50, H⟩ := H
  replace H : ((num_Make.f k a2 (([7] : List Int)) (wrap64 (t226 - 1200))).bind fun bt231 => ((num_Make.f k a2 (([7] : List Int)) (wrap64 (1201 + t227))).bind fun bt241 => ((num_Make.f k a2 (([7] : List Int)) (wrap64 ((-1201) - t227))).bind fun bt251 => ((num_Make.f k a2 (([70] : List Int)) 1199).bind fun bt261 => ((num_Make.f k a2 (([0, 0] : List Int)) 1125899906842624).bind fun bt271 => ((num_Text.f k bt231.1 bt231.2.1 bt231.2.2.1).bind fun t278 => ((num_Parse.f k t278).bind fun bt279 => (if bt231.2.2.2 = true then ((num_Check.f k bt231.1 bt231.2.1 bt231.2.2.1).bind fun t286 => (if t286 = true then (if bt241.2.2.2 = true then (some false) else (if bt251.2.2.2 = true then (some false) else (if bt261.2.2.2 = true then (if bt261.2.2.1 = 1200 then (if bt271.2.2.2 = true then ((erratumlaw00_SameNum.f k bt271.1 bt271.2.1 bt271.2.2.1 false ([] : List Int) 0).bind fun t287 => (if t287 = true then (if bt279.2.2.2 = 0 then ((erratumlaw00_SameNum.f k bt279.1 bt279.2.1 bt279.2.2.1 bt231.1 bt231.2.1 bt231.2.2.1).bind fun t288 => (if t288 = true then ((erratumlaw02_awake.f k).bind fun t289 => (some t289)) else (some false))) else (some false)) else (some false))) else (some false)) else (some false)) else (some false)))) else (some false))) else (some false))))))))) = some r := H
  have A5 := Aside0.mk A50
  clear A50
  obtain ⟨y228, hy228⟩ : ∃ y_ : List Int, y_ = (([7] : List Int)) := ⟨_, rfl⟩
  replace H : ((num_Make.f k a2 y228 (wrap64 (t226 - 1200))).bind fun bt231 => ((num_Make.f k a2 (([7] : List Int)) (wrap64 (1201 + t227))).bind fun bt241 => ((num_Make.f k a2 (([7] : List Int)) (wrap64 ((-1201) - t227))).bind fun bt251 => ((num_Make.f k a2 (([70] : List Int)) 1199).bind fun bt261 => ((num_Make.f k a2 (([0, 0] : List Int)) 1125899906842624).bind fun bt271 => ((num_Text.f k bt231.1 bt231.2.1 bt231.2.2.1).bind fun t278 => ((num_Parse.f k t278).bind fun bt279 => (if bt231.2.2.2 = true then ((num_Check.f k bt231.1 bt231.2.1 bt231.2.2.1).bind fun t286 => (if t286 = true then (if bt241.2.2.2 = true then (some false) else (if bt251.2.2.2 = true then (some false) else (if bt261.2.2.2 = true then (if bt261.2.2.1 = 1200 then (if bt271.2.2.2 = true then ((erratumlaw00_SameNum.f k bt271.1 bt271.2.1 bt271.2.2.1 false ([] : List Int) 0).bind fun t287 => (if t287 = true then (if bt279.2.2.2 = 0 then ((erratumlaw00_SameNum.f k bt279.1 bt279.2.1 bt279.2.2.1 bt231.1 bt231.2.1 bt231.2.2.1).bind fun t288 => (if t288 = true then ((erratumlaw02_awake.f k).bind fun t289 => (some t289)) else (some false))) else (some false)) else (some false))) else (some false)) else (some false)) else (some false)))) else (some false))) else (some false))))))))) = some r := by first | (rw [hy228]; with_reducible exact H) | (have H2_ := (Option.bind_some _ _).symm.trans H; rw [hy228]; with_reducible exact H2_) | (have H2_ := (Option.bind_some _ _).symm.trans H; with_reducible exact H2_) | with_reducible exact H | (rw [hy228]; exact H) | exact H
  have Ny228 := Aside0.mk hy228
  clear hy228
  replace H := Option.bind_eq_some_iff.mp H
  obtain ⟨⟨t231, t232, t235, t236⟩, A60, H⟩ := H
  replace H : ((num_Make.f k a2 (([7] : List Int)) (wrap64 (1201 + t227))).bind fun bt241 => ((num_Make.f k a2 (([7] : List Int)) (wrap64 ((-1201) - t227))).bind fun bt251 => ((num_Make.f k a2 (([70] : List Int)) 1199).bind fun bt261 => ((num_Make.f k a2 (([0, 0] : List Int)) 1125899906842624).bind fun bt271 => ((num_Text.f k t231 t232 t235).bind fun t278 => ((num_Parse.f k t278).bind fun bt279 => (if t236 = true then ((num_Check.f k t231 t232 t235).bind fun t286 => (if t286 = true then (if bt241.2.2.2 = true then (some false) else (if bt251.2.2.2 = true then (some false) else (if bt261.2.2.2 = true then (if bt261.2.2.1 = 1200 then (if bt271.2.2.2 = true then ((erratumlaw00_SameNum.f k bt271.1 bt271.2.1 bt271.2.2.1 false ([] : List Int) 0).bind fun t287 => (if t287 = true then (if bt279.2.2.2 = 0 then ((erratumlaw00_SameNum.f k bt279.1 bt279.2.1 bt279.2.2.1 t231 t232 t235).bind fun t288 => (if t288 = true then ((erratumlaw02_awake.f k).bind fun t289 => (some t289)) else (some false))) else (some false)) else (some false))) else (some false)) else (some false)) else (some false)))) else (some false))) else (some false)))))))) = some r := H
  have A6 := Aside0.mk A60
  clear A60
  obtain ⟨y238, hy238⟩ : ∃ y_ : List Int, y_ = (([7] : List Int)) := ⟨_, rfl⟩
  replace H : ((num_Make.f k a2 y238 (wrap64 (1201 + t227))).bind fun bt241 => ((num_Make.f k a2 (([7] : List Int)) (wrap64 ((-1201) - t227))).bind fun bt251 => ((num_Make.f k a2 (([70] : List Int)) 1199).bind fun bt261 => ((num_Make.f k a2 (([0, 0] : List Int)) 1125899906842624).bind fun bt271 => ((num_Text.f k t231 t232 t235).bind fun t278 => ((num_Parse.f k t278).bind fun bt279 => (if t236 = true then ((num_Check.f k t231 t232 t235).bind fun t286 => (if t286 = true then (if bt241.2.2.2 = true then (some false) else (if bt251.2.2.2 = true then (some false) else (if bt261.2.2.2 = true then (if bt261.2.2.1 = 1200 then (if bt271.2.2.2 = true then ((erratumlaw00_SameNum.f k bt271.1 bt271.2.1 bt271.2.2.1 false ([] : List Int) 0).bind fun t287 => (if t287 = true then (if bt279.2.2.2 = 0 then ((erratumlaw00_SameNum.f k bt279.1 bt279.2.1 bt279.2.2.1 t231 t232 t235).bind fun t288 => (if t288 = true then ((erratumlaw02_awake.f k).bind fun t289 => (some t289)) else (some false))) else (some false)) else (some false))) else (some false)) else (some false)) else (some false)))) else (some false))) else (some false)))))))) = some r := by first | (rw [hy238]; with_reducible exact H) | (have H2_ := (Option.bind_some _ _).symm.trans H; rw [hy238]; with_reducible exact H2_) | (have H2_ := (Option.bind_some _ _).symm.trans H; with_reducible exact H2_) | with_reducible exact H | (rw [hy238]; exact H) | exact H
  have Ny238 := Aside0.mk hy238
  clear hy238
  replace H := Option.bind_eq_some_iff.mp H
  obtain ⟨⟨t241, t242, t245, t246⟩, A70, H⟩ := H
  replace H : ((num_Make.f k a2 (([7] : List Int)) (wrap64 ((-1201) - t227))).bind fun bt251 => ((num_Make.f k a2 (([70] : List Int)) 1199).bind fun bt261 => ((num_Make.f k a2 (([0, 0] : List Int)) 1125899906842624).bind fun bt271 => ((num_Text.f k t231 t232 t235).bind fun t278 => ((num_Parse.f k t278).bind fun bt279 => (if t236 = true then ((num_Check.f k t231 t232 t235).bind fun t286 => (if t286 = true then (if t246 = true then (some false) else (if bt251.2.2.2 = true then (some false) else (if bt261.2.2.2 = true then (if bt261.2.2.1 = 1200 then (if bt271.2.2.2 = true then ((erratumlaw00_SameNum.f k bt271.1 bt271.2.1 bt271.2.2.1 false ([] : List Int) 0).bind fun t287 => (if t287 = true then (if bt279.2.2.2 = 0 then ((erratumlaw00_SameNum.f k bt279.1 bt279.2.1 bt279.2.2.1 t231 t232 t235).bind fun t288 => (if t288 = true then ((erratumlaw02_awake.f k).bind fun t289 => (some t289)) else (some false))) else (some false)) else (some false))) else (some false)) else (some false)) else (some false)))) else (some false))) else (some false))))))) = some r := H
  have A7 := Aside0.mk A70
  clear A70
  obtain ⟨y248, hy248⟩ : ∃ y_ : List Int, y_ = (([7] : List Int)) := ⟨_, rfl⟩
  replace H : ((num_Make.f k a2 y248 (wrap64 ((-1201) - t227))).bind fun bt251 => ((num_Make.f k a2 (([70] : List Int)) 1199).bind fun bt261 => ((num_Make.f k a2 (([0, 0] : List Int)) 1125899906842624).bind fun bt271 => ((num_Text.f k t231 t232 t235).bind fun t278 => ((num_Parse.f k t278).bind fun bt279 => (if t236 = true then ((num_Check.f k t231 t232 t235).bind fun t286 => (if t286 = true then (if t246 = true then (some false) else (if bt251.2.2.2 = true then (some false) else (if bt261.2.2.2 = true then (if bt261.2.2.1 = 1200 then (if bt271.2.2.2 = true then ((erratumlaw00_SameNum.f k bt271.1 bt271.2.1 bt271.2.2.1 false ([] : List Int) 0).bind fun t287 => (if t287 = true then (if bt279.2.2.2 = 0 then ((erratumlaw00_SameNum.f k bt279.1 bt279.2.1 bt279.2.2.1 t231 t232 t235).bind fun t288 => (if t288 = true then ((erratumlaw02_awake.f k).bind fun t289 => (some t289)) else (some false))) else (some false)) else (some false))) else (some false)) else (some false)) else (some false)))) else (some false))) else (some false))))))) = some r := by first | (rw [hy248]; with_reducible exact H) | (have H2_ := (Option.bind_some _ _).symm.trans H; rw [hy248]; with_reducible exact H2_) | (have H2_ := (Option.bind_some _ _).symm.trans H; with_reducible exact H2_) | with_reducible exact H | (rw [hy248]; exact H) | exact H
  have Ny248 := Aside0.mk hy248
  clear hy248
  replace H := Option.bind_eq_some_iff.mp H
  obtain ⟨⟨t251, t252, t255, t256⟩, A80, H⟩ := H
  replace H : ((num_Make.f k a2 (([70] : List Int)) 1199).bind fun bt261 => ((num_Make.f k a2 (([0, 0] : List Int)) 1125899906842624).bind fun bt271 => ((num_Text.f k t231 t232 t235).bind fun t278 => ((num_Parse.f k t278).bind fun bt279 => (if t236 = true then ((num_Check.f k t231 t232 t235).bind fun t286 => (if t286 = true then (if t246 = true then (some false) else (if t256 = true then (some false) else (if bt261.2.2.2 = true then (if bt261.2.2.1 = 1200 then (if bt271.2.2.2 = true then ((erratumlaw00_SameNum.f k bt271.1 bt271.2.1 bt271.2.2.1 false ([] : List Int) 0).bind fun t287 => (if t287 = true then (if bt279.2.2.2 = 0 then ((erratumlaw00_SameNum.f k bt279.1 bt279.2.1 bt279.2.2.1 t231 t232 t235).bind fun t288 => (if t288 = true then ((erratumlaw02_awake.f k).bind fun t289 => (some t289)) else (some false))) else (some false)) else (some false))) else (some false)) else (some false)) else (some false)))) else (some false))) else (some false)))))) = some r := H
  have A8 := Aside0.mk A80
  clear A80
  obtain ⟨y258, hy258⟩ : ∃ y_ : List Int, y_ = (([70] : List Int)) := ⟨_, rfl⟩
  replace H : ((num_Make.f k a2 y258 1199).bind fun bt261 => ((num_Make.f k a2 (([0, 0] : List Int)) 1125899906842624).bind fun bt271 => ((num_Text.f k t231 t232 t235).bind fun t278 => ((num_Parse.f k t278).bind fun bt279 => (if t236 = true then ((num_Check.f k t231 t232 t235).bind fun t286 => (if t286 = true then (if t246 = true then (some false) else (if t256 = true then (some false) else (if bt261.2.2.2 = true then (if bt261.2.2.1 = 1200 then (if bt271.2.2.2 = true then ((erratumlaw00_SameNum.f k bt271.1 bt271.2.1 bt271.2.2.1 false ([] : List Int) 0).bind fun t287 => (if t287 = true then (if bt279.2.2.2 = 0 then ((erratumlaw00_SameNum.f k bt279.1 bt279.2.1 bt279.2.2.1 t231 t232 t235).bind fun t288 => (if t288 = true then ((erratumlaw02_awake.f k).bind fun t289 => (some t289)) else (some false))) else (some false)) else (some false))) else (some false)) else (some false)) else (some false)))) else (some false))) else (some false)))))) = some r := by first | (rw [hy258]; with_reducible exact H) | (have H2_ := (Option.bind_some _ _).symm.trans H; rw [hy258]; with_reducible exact H2_) | (have H2_ := (Option.bind_some _ _).symm.trans H; with_reducible exact H2_) | with_reducible exact H | (rw [hy258]; exact H) | exact H
  have Ny258 := Aside0.mk hy258
  clear hy258
  replace H := Option.bind_eq_some_iff.mp H
  obtain ⟨⟨t261, t262, t265, t266⟩, A90, H⟩ := H
  replace H : ((num_Make.f k a2 (([0, 0] : List Int)) 1125899906842624).bind fun bt271 => ((num_Text.f k t231 t232 t235).bind fun t278 => ((num_Parse.f k t278).bind fun bt279 => (if t236 = true then ((num_Check.f k t231 t232 t235).bind fun t286 => (if t286 = true then (if t246 = true then (some false) else (if t256 = true then (some false) else (if t266 = true then (if t265 = 1200 then (if bt271.2.2.2 = true then ((erratumlaw00_SameNum.f k bt271.1 bt271.2.1 bt271.2.2.1 false ([] : List Int) 0).bind fun t287 => (if t287 = true then (if bt279.2.2.2 = 0 then ((erratumlaw00_SameNum.f k bt279.1 bt279.2.1 bt279.2.2.1 t231 t232 t235).bind fun t288 => (if t288 = true then ((erratumlaw02_awake.f k).bind fun t289 => (some t289)) else (some false))) else (some false)) else (some false))) else (some false)) else (some false)) else (some false)))) else (some false))) else (some false))))) = some r := H
  have A9 := Aside0.mk A90
  clear A90
  obtain ⟨y268, hy268⟩ : ∃ y_ : List Int, y_ = (([0, 0] : List Int)) := ⟨_, rfl⟩
  replace H : ((num_Make.f k a2 y268 1125899906842624).bind fun bt271 => ((num_Text.f k t231 t232 t235).bind fun t278 => ((num_Parse.f k t278).bind fun bt279 => (if t236 = true then ((num_Check.f k t231 t232 t235).bind fun t286 => (if t286 = true then (if t246 = true then (some false) else (if t256 = true then (some false) else (if t266 = true then (if t265 = 1200 then (if bt271.2.2.2 = true then ((erratumlaw00_SameNum.f k bt271.1 bt271.2.1 bt271.2.2.1 false ([] : List Int) 0).bind fun t287 => (if t287 = true then (if bt279.2.2.2 = 0 then ((erratumlaw00_SameNum.f k bt279.1 bt279.2.1 bt279.2.2.1 t231 t232 t235).bind fun t288 => (if t288 = true then ((erratumlaw02_awake.f k).bind fun t289 => (some t289)) else (some false))) else (some false)) else (some false))) else (some false)) else (some false)) else (some false)))) else (some false))) else (some false))))) = some r := by first | (rw [hy268]; with_reducible exact H) | (have H2_ := (Option.bind_some _ _).symm.trans H; rw [hy268]; with_reducible exact H2_) | (have H2_ := (Option.bind_some _ _).symm.trans H; with_reducible exact H2_) | with_reducible exact H | (rw [hy268]; exact H) | exact H
  have Ny268 := Aside0.mk hy268
  clear hy268
  replace H := Option.bind_eq_some_iff.mp H
  obtain ⟨⟨t271, t272, t275, t276⟩, A100, H⟩ := H
  replace H : ((num_Text.f k t231 t232 t235).bind fun t278 => ((num_Parse.f k t278).bind fun bt279 => (if t236 = true then ((num_Check.f k t231 t232 t235).bind fun t286 => (if t286 = true then (if t246 = true then (some false) else (if t256 = true then (some false) else (if t266 = true then (if t265 = 1200 then (if t276 = true then ((erratumlaw00_SameNum.f k t271 t272 t275 false ([] : List Int) 0).bind fun t287 => (if t287 = true then (if bt279.2.2.2 = 0 then ((erratumlaw00_SameNum.f k bt279.1 bt279.2.1 bt279.2.2.1 t231 t232 t235).bind fun t288 => (if t288 = true then ((erratumlaw02_awake.f k).bind fun t289 => (some t289)) else (some false))) else (some false)) else (some false))) else (some false)) else (some false)) else (some false)))) else (some false))) else (some false)))) = some r := H
  have A10 := Aside0.mk A100
  clear A100
  replace H := Option.bind_eq_some_iff.mp H
  obtain ⟨t278, A110, H⟩ := H
  replace H : ((num_Parse.f k t278).bind fun bt279 => (if t236 = true then ((num_Check.f k t231 t232 t235).bind fun t286 => (if t286 = true then (if t246 = true then (some false) else (if t256 = true then (some false) else (if t266 = true then (if t265 = 1200 then (if t276 = true then ((erratumlaw00_SameNum.f k t271 t272 t275 false ([] : List Int) 0).bind fun t287 => (if t287 = true then (if bt279.2.2.2 = 0 then ((erratumlaw00_SameNum.f k bt279.1 bt279.2.1 bt279.2.2.1 t231 t232 t235).bind fun t288 => (if t288 = true then ((erratumlaw02_awake.f k).bind fun t289 => (some t289)) else (some false))) else (some false)) else (some false))) else (some false)) else (some false)) else (some false)))) else (some false))) else (some false))) = some r := H
  have A11 := Aside0.mk A110
  clear A110
  replace H := Option.bind_eq_some_iff.mp H
  obtain ⟨⟨t279, t280, t283, t284⟩, A120, H⟩ := H
  replace H : (if t236 = true then ((num_Check.f k t231 t232 t235).bind fun t286 => (if t286 = true then (if t246 = true then (some false) else (if t256 = true then (some false) else (if t266 = true then (if t265 = 1200 then (if t276 = true then ((erratumlaw00_SameNum.f k t271 t272 t275 false ([] : List Int) 0).bind fun t287 => (if t287 = true then (if t284 = 0 then ((erratumlaw00_SameNum.f k t279 t280 t283 t231 t232 t235).bind fun t288 => (if t288 = true then ((erratumlaw02_awake.f k).bind fun t289 => (some t289)) else (some false))) else (some false)) else (some false))) else (some false)) else (some false)) else (some false)))) else (some false))) else (some false)) = some r := H
  have A12 := Aside0.mk A120
  clear A120
  by_cases c13 : t236 = true
  · subst c13
    have H1 : ((num_Check.f k t231 t232 t235).bind fun t286 => (if t286 = true then (if t246 = true then (some false) else (if t256 = true then (some false) else (if t266 = true then (if t265 = 1200 then (if t276 = true then ((erratumlaw00_SameNum.f k t271 t272 t275 false ([] : List Int) 0).bind fun t287 => (if t287 = true then (if t284 = 0 then ((erratumlaw00_SameNum.f k t279 t280 t283 t231 t232 t235).bind fun t288 => (if t288 = true then ((erratumlaw02_awake.f k).bind fun t289 => (some t289)) else (some false))) else (some false)) else (some false))) else (some false)) else (some false)) else (some false)))) else (some false))) = some r := by rw [if_pos rfl] at H; exact H
    clear H
    have H := H1
    clear H1
    replace H := Option.bind_eq_some_iff.mp H
    obtain ⟨t286, A140, H⟩ := H
    replace H : (if t286 = true then (if t246 = true then (some false) else (if t256 = true then (some false) else (if t266 = true then (if t265 = 1200 then (if t276 = true then ((erratumlaw00_SameNum.f k t271 t272 t275 false ([] : List Int) 0).bind fun t287 => (if t287 = true then (if t284 = 0 then ((erratumlaw00_SameNum.f k t279 t280 t283 t231 t232 t235).bind fun t288 => (if t288 = true then ((erratumlaw02_awake.f k).bind fun t289 => (some t289)) else (some false))) else (some false)) else (some false))) else (some false)) else (some false)) else (some false)))) else (some false)) = some r := H
    have A14 := Aside0.mk A140
    clear A140
    by_cases c15 : t286 = true
    · subst c15
      have H1 : (if t246 = true then (some false) else (if t256 = true then (some false) else (if t266 = true then (if t265 = 1200 then (if t276 = true then ((erratumlaw00_SameNum.f k t271 t272 t275 false ([] : List Int) 0).bind fun t287 => (if t287 = true then (if t284 = 0 then ((erratumlaw00_SameNum.f k t279 t280 t283 t231 t232 t235).bind fun t288 => (if t288 = true then ((erratumlaw02_awake.f k).bind fun t289 => (some t289)) else (some false))) else (some false)) else (some false))) else (some false)) else (some false)) else (some false)))) = some r := by rw [if_pos rfl] at H; exact H
      clear H
      have H := H1
      clear H1
      by_cases c16 : t246 = true
      · subst c16
        have H1 : (some false) = some r := by rw [if_pos rfl] at H; exact H
        clear H
        have H := H1
        clear H1
        exact absurd ((Option.some.inj H).trans hT) (by decide)
      · replace c16 := Bool.eq_false_iff.mpr c16
        subst c16
        have H1 : (if t256 = true then (some false) else (if t266 = true then (if t265 = 1200 then (if t276 = true then ((erratumlaw00_SameNum.f k t271 t272 t275 false ([] : List Int) 0).bind fun t287 => (if t287 = true then (if t284 = 0 then ((erratumlaw00_SameNum.f k t279 t280 t283 t231 t232 t235).bind fun t288 => (if t288 = true then ((erratumlaw02_awake.f k).bind fun t289 => (some t289)) else (some false))) else (some false)) else (some false))) else (some false)) else (some false)) else (some false))) = some r := by rw [if_neg (show ¬ (false = true) by decide)] at H; exact H
        clear H
        have H := H1
        clear H1
        by_cases c75 : t256 = true
        · subst c75
          have H1 : (some false) = some r := by rw [if_pos rfl] at H; exact H
          clear H
          have H := H1
          clear H1
          exact absurd ((Option.some.inj H).trans hT) (by decide)
        · replace c75 := Bool.eq_false_iff.mpr c75
          subst c75
          have H1 : (if t266 = true then (if t265 = 1200 then (if t276 = true then ((erratumlaw00_SameNum.f k t271 t272 t275 false ([] : List Int) 0).bind fun t287 => (if t287 = true then (if t284 = 0 then ((erratumlaw00_SameNum.f k t279 t280 t283 t231 t232 t235).bind fun t288 => (if t288 = true then ((erratumlaw02_awake.f k).bind fun t289 => (some t289)) else (some false))) else (some false)) else (some false))) else (some false)) else (some false)) else (some false)) = some r := by rw [if_neg (show ¬ (false = true) by decide)] at H; exact H
          clear H
          have H := H1
          clear H1
          by_cases c134 : t266 = true
          · subst c134
            have H1 : (if t265 = 1200 then (if t276 = true then ((erratumlaw00_SameNum.f k t271 t272 t275 false ([] : List Int) 0).bind fun t287 => (if t287 = true then (if t284 = 0 then ((erratumlaw00_SameNum.f k t279 t280 t283 t231 t232 t235).bind fun t288 => (if t288 = true then ((erratumlaw02_awake.f k).bind fun t289 => (some t289)) else (some false))) else (some false)) else (some false))) else (some false)) else (some false)) = some r := by rw [if_pos rfl] at H; exact H
            clear H
            have H := H1
            clear H1
            by_cases c135 : t265 = 1200
            · rw [if_pos c135] at H
              have c135b0 : (t265 == 1200) = true := beq_iff_eq.mpr c135
              have c135b1 : (t265 != 1200) = false := bne_eq_false_iff_eq.mpr c135
              clear c135
              by_cases c136 : t276 = true
              · subst c136
                have H1 : ((erratumlaw00_SameNum.f k t271 t272 t275 false ([] : List Int) 0).bind fun t287 => (if t287 = true then (if t284 = 0 then ((erratumlaw00_SameNum.f k t279 t280 t283 t231 t232 t235).bind fun t288 => (if t288 = true then ((erratumlaw02_awake.f k).bind fun t289 => (some t289)) else (some false))) else (some false)) else (some false))) = some r := by rw [if_pos rfl] at H; exact H
                clear H
                have H := H1
                clear H1
                replace H := Option.bind_eq_some_iff.mp H
                obtain ⟨t287, A1370, H⟩ := H
                replace H : (if t287 = true then (if t284 = 0 then ((erratumlaw00_SameNum.f k t279 t280 t283 t231 t232 t235).bind fun t288 => (if t288 = true then ((erratumlaw02_awake.f k).bind fun t289 => (some t289)) else (some false))) else (some false)) else (some false)) = some r := H
                have A137 := Aside0.mk A1370
                clear A1370
                by_cases c138 : t287 = true
                · subst c138
                  have H1 : (if t284 = 0 then ((erratumlaw00_SameNum.f k t279 t280 t283 t231 t232 t235).bind fun t288 => (if t288 = true then ((erratumlaw02_awake.f k).bind fun t289 => (some t289)) else (some false))) else (some false)) = some r := by rw [if_pos rfl] at H; exact H
                  clear H
                  have H := H1
                  clear H1
                  by_cases c139 : t284 = 0
                  · rw [if_pos c139] at H
                    have c139b0 : (t284 == 0) = true := beq_iff_eq.mpr c139
                    have c139b1 : (t284 != 0) = false := bne_eq_false_iff_eq.mpr c139
                    clear c139
                    replace H := Option.bind_eq_some_iff.mp H
                    obtain ⟨t288, A1400, H⟩ := H
                    replace H : (if t288 = true then ((erratumlaw02_awake.f k).bind fun t289 => (some t289)) else (some false)) = some r := H
                    have A140 := Aside0.mk A1400
                    clear A1400
                    by_cases c141 : t288 = true
                    · subst c141
                      have H1 : ((erratumlaw02_awake.f k).bind fun t289 => (some t289)) = some r := by rw [if_pos rfl] at H; exact H
                      clear H
                      have H := H1
                      clear H1
                      replace H := Option.bind_eq_some_iff.mp H
                      obtain ⟨t289, A1420, H⟩ := H
                      replace H : (some t289) = some r := H
                      have A142 := Aside0.mk A1420
                      clear A1420
                      obtain rfl := Option.some.inj H
                      have HW := HB
                      have HS := HB
                      clear HB
                      go_enter Tryd.func6, Tryd.ntmps6
                      go_upto_region 4 with (first | ((with_reducible refine gate_callee (f := 15) rfl ?_); refine goesL_ (some 22) rfl rfl Tryd.func15 (by kernel_rfl) rfl #[.int .i64 a0, .int .i64 2401] rfl (by (try simp only [List.map_toArray, List.map_cons, List.map_nil]); first | done | rfl | (simp only [List.length_drop, List.length_take]; rfl)) ?_; (with_reducible refine (erratumlaw00_Place.calls a0 2401 t226 _ A4.out).mono ?_); rintro e w' ⟨rfl, ⟨nd, rfl⟩⟩; refine ⟨_, rfl, ?_⟩) | ((with_reducible refine gate_callee (f := 15) rfl ?_); refine goesL_ (some 25) rfl rfl Tryd.func15 (by kernel_rfl) rfl #[.int .i64 a1, .int .i64 5] rfl (by (try simp only [List.map_toArray, List.map_cons, List.map_nil]); first | done | rfl | (simp only [List.length_drop, List.length_take]; rfl)) ?_; (with_reducible refine (erratumlaw00_Place.calls a1 5 t227 _ A5.out).mono ?_); rintro e w' ⟨rfl, ⟨nd, rfl⟩⟩; refine ⟨_, rfl, ?_⟩) | ((with_reducible refine gate_dst (N := 28) rfl ?_); refine Kd.R_lit (Kd.int .u32) _ 40 ?hg (N := 28) ?hd (xs := ([7] : List Int)) (inner := [.int .u32 7]) (ok := fun _ => True) (okp := fun _ => True) ?hr ?hp (fun _ hk => hk) trivial (Below.refl _ _) (Nat.le_refl _) (by simp) ?_; (case hd => rfl); (case hg => rfl); (case hr => first | (go_simp; done) | (go_simp; rfl) | (go_simp; simp only [x_u32u8, x_u8, x_u32, x_u64, x_mm]; first | done | rfl)); (case hp => exact (Reps.one (show Kd.M (Kd.int .u32) _ _ _ 7 [.int .u32 7] from rfl) (Reps.none _ _))); intro v905 w901 ho hb hg_ hnew_; clear hg_ hnew_; (first | rw [← Ny228.out] at ho | (simp only [Int.reduceToNat] at ho; rw [← Ny228.out] at ho)); have hT := below_step (by repeat (first | (with_reducible first | exact HS.out | apply below_alloc | apply pw_below_drewN | apply below_drew1) | exact HS.out)) hb; have nW_ := Aside0.mk (HW.out.trans (Below.mono hT HW.out.size)); have nS_ := Aside0.mk (Below.refl w901.heap.size w901); clear HW; clear HS; have HW := nW_; have HS := nS_; clear nW_ nS_ hT; obtain ⟨Ao902, co903, eo904⟩ := Kd.R_slice ho; subst eo904; have Cy228 := Aside0.mk (Kd.R_reads' ho).2.2; have Ly228 := Aside0.mk (Kd.R_reads' ho).2.1; clear ho hb) | ((with_reducible refine gate_callee (f := 18) rfl ?_); refine goesL_ (some 30) rfl rfl Tryd.func18 (by kernel_rfl) rfl #[.bool a2, .slice Ao902 y228.length co903, .int .i64 (wrap64 (t226 - 1200))] rfl (by (try simp only [List.map_toArray, List.map_cons, List.map_nil]); first | done | rfl | (simp only [List.length_drop, List.length_take]; rfl)) ?_; (with_reducible refine (num_Make.calls k a2 _ _ y228 (wrap64 (t226 - 1200)) t231 t232 t235 true _ ?s1 ?s2 A6.out).mono ?_); (case s1 => exact Kd.C_below Cy228.out (by repeat (first | (with_reducible first | exact HS.out | apply below_alloc | apply pw_below_drewN | apply below_drew1) | exact HS.out))); (case s2 => exact Ly228.out); rintro e w906 ⟨v910, rfl, ho, hb⟩; refine ⟨_, rfl, ?_⟩; have hT := below_step (by repeat (first | (with_reducible first | exact HS.out | apply below_alloc | apply pw_below_drewN | apply below_drew1) | exact HS.out)) hb; have nW_ := Aside0.mk (HW.out.trans (Below.mono hT HW.out.size)); have nS_ := Aside0.mk (Below.refl w906.heap.size w906); (try clear Cy228); clear HW; clear HS; have HW := nW_; have HS := nS_; clear nW_ nS_ hT; obtain ⟨Ao907, co908, eo909⟩ := Kd.R_slice ho; subst eo909; have Ct232 := Aside0.mk (Kd.R_reads' ho).2.2; have Lt232 := Aside0.mk (Kd.R_reads' ho).2.1; clear ho hb) | ((with_reducible refine gate_dst (N := 9) rfl ?_); refine box_event ?hg (N := 9) ?hd (cs := #[.bool false, .slice none 0 0, .int .i64 0]) (t := 25) ?hr ?_; (case hd => rfl); (case hg => rfl); (case hr => first | (go_simp; done) | (go_simp; rfl) | (go_simp; simp only [x_u32u8, x_u8, x_u32, x_u64, x_mm]; first | done | rfl)); intro g912 hg w911 hbox hb; have nS_ := Aside0.mk (below_step (by repeat (first | (with_reducible first | exact HS.out | apply below_alloc | apply pw_below_drewN | apply below_drew1) | exact HS.out)) hb); have GEg912 := Aside0.mk (show _ ≤ g912 by rw [hg]; exact below_size (by repeat (first | (with_reducible first | exact HS.out | apply below_alloc | apply pw_below_drewN | apply below_drew1) | exact HS.out))); clear HS; have HS := nS_; have BKg912 := Aside0.mk hbox; clear nS_ hb hbox hg; have hcz913_0 : w911.cell? ⟨g912, 0, none⟩ = some (.bool false) := (blk_cell BKg912.out 0).trans rfl; have hcz913_1 : w911.cell? ⟨g912, 1, none⟩ = some (.slice none 0 0) := (blk_cell BKg912.out 1).trans rfl; have hcz913_2 : w911.cell? ⟨g912, 2, none⟩ = some (.int .i64 0) := (blk_cell BKg912.out 2).trans rfl; have hfz913_0 := blk_frozen BKg912.out 0; have hfz913_1 := blk_frozen BKg912.out 1; have hfz913_2 := blk_frozen BKg912.out 2))
                      go_upto_region 5 with (first | ((with_reducible refine gate_dst (N := 35) rfl ?_); refine Kd.R_lit (Kd.int .u32) _ 40 ?hg (N := 35) ?hd (xs := ([7] : List Int)) (inner := [.int .u32 7]) (ok := fun _ => True) (okp := fun _ => True) ?hr ?hp (fun _ hk => hk) trivial (Below.refl _ _) (Nat.le_refl _) (by simp) ?_; (case hd => rfl); (case hg => rfl); (case hr => first | (go_simp; done) | (go_simp; rfl) | (go_simp; simp only [x_u32u8, x_u8, x_u32, x_u64, x_mm]; first | done | rfl)); (case hp => exact (Reps.one (show Kd.M (Kd.int .u32) _ _ _ 7 [.int .u32 7] from rfl) (Reps.none _ _))); intro v918 w914 ho hb hg_ hnew_; clear hg_ hnew_; (first | rw [← Ny238.out] at ho | (simp only [Int.reduceToNat] at ho; rw [← Ny238.out] at ho)); have hT := below_step (by repeat (first | (with_reducible first | exact HS.out | apply below_alloc | apply pw_below_drewN | apply below_drew1 | refine below_set ?_ GEg912.out) | exact HS.out)) hb; have nt232_ := Aside0.mk (Kd.C_below Ct232.out hT); have ng912_ := Aside0.mk (blk_below (g := g912) (o := .cells #[.bool t231, .slice Ao907 t232.length co908, .int .i64 t235] 25 (0, 0)) (by (with_reducible repeat (first | refine blk_drewN ?_ _ | refine blk_drew ?_ | refine blk_alloc ?_ _)); refine blk_put (cs := #[.bool t231, .slice Ao907 t232.length co908, .int .i64 0]) ?_ 2 _ rfl; (with_reducible repeat (first | refine blk_drewN ?_ _ | refine blk_drew ?_ | refine blk_alloc ?_ _)); refine blk_put (cs := #[.bool t231, .slice none 0 0, .int .i64 0]) ?_ 1 _ rfl; (with_reducible repeat (first | refine blk_drewN ?_ _ | refine blk_drew ?_ | refine blk_alloc ?_ _)); refine blk_put (cs := #[.bool false, .slice none 0 0, .int .i64 0]) ?_ 0 _ rfl; (with_reducible repeat (first | refine blk_drewN ?_ _ | refine blk_drew ?_ | refine blk_alloc ?_ _)); exact BKg912.out) hb); have nW_ := Aside0.mk (HW.out.trans (Below.mono hT HW.out.size)); have nS_ := Aside0.mk (Below.refl w914.heap.size w914); clear Ct232; clear BKg912; clear HW; clear HS; have Ct232 := nt232_; have BKg912 := ng912_; have HW := nW_; have HS := nS_; clear nW_ nS_ hT nt232_ ng912_; obtain ⟨Ao915, co916, eo917⟩ := Kd.R_slice ho; subst eo917; have Cy238 := Aside0.mk (Kd.R_reads' ho).2.2; have Ly238 := Aside0.mk (Kd.R_reads' ho).2.1; clear ho hb) | ((with_reducible refine gate_callee (f := 18) rfl ?_); refine goesL_ (some 38) rfl rfl Tryd.func18 (by kernel_rfl) rfl #[.bool a2, .slice Ao915 y238.length co916, .int .i64 (wrap64 (1201 + t227))] rfl (by (try simp only [List.map_toArray, List.map_cons, List.map_nil]); first | done | rfl | (simp only [List.length_drop, List.length_take]; rfl)) ?_; (with_reducible refine (num_Make.calls k a2 _ _ y238 (wrap64 (1201 + t227)) t241 t242 t245 false _ ?s1 ?s2 A7.out).mono ?_); (case s1 => exact Kd.C_below Cy238.out (by repeat (first | (with_reducible first | exact HS.out | apply below_alloc | apply pw_below_drewN | apply below_drew1) | exact HS.out))); (case s2 => exact Ly238.out); rintro e w919 ⟨v923, rfl, ho, hb⟩; refine ⟨_, rfl, ?_⟩; have hT := below_step (by repeat (first | (with_reducible first | exact HS.out | apply below_alloc | apply pw_below_drewN | apply below_drew1) | exact HS.out)) hb; have nt232_ := Aside0.mk (Kd.C_below Ct232.out hT); have ng912_ := Aside0.mk (blk_below (g := g912) (o := .cells #[.bool t231, .slice Ao907 t232.length co908, .int .i64 t235] 25 (0, 0)) BKg912.out hT); have nW_ := Aside0.mk (HW.out.trans (Below.mono hT HW.out.size)); have nS_ := Aside0.mk (Below.refl w919.heap.size w919); clear Ct232; clear BKg912; (try clear Cy238); clear HW; clear HS; have Ct232 := nt232_; have BKg912 := ng912_; have HW := nW_; have HS := nS_; clear nW_ nS_ hT nt232_ ng912_; obtain ⟨Ao920, co921, eo922⟩ := Kd.R_slice ho; subst eo922; have Ct242 := Aside0.mk (Kd.R_reads' ho).2.2; have Lt242 := Aside0.mk (Kd.R_reads' ho).2.1; clear ho hb) | ((with_reducible refine gate_dst (N := 11) rfl ?_); refine box_event ?hg (N := 11) ?hd (cs := #[.bool false, .slice none 0 0, .int .i64 0]) (t := 25) ?hr ?_; (case hd => rfl); (case hg => rfl); (case hr => first | (go_simp; done) | (go_simp; rfl) | (go_simp; simp only [x_u32u8, x_u8, x_u32, x_u64, x_mm]; first | done | rfl)); intro g925 hg w924 hbox hb; have nS_ := Aside0.mk (below_step (by repeat (first | (with_reducible first | exact HS.out | apply below_alloc | apply pw_below_drewN | apply below_drew1) | exact HS.out)) hb); have GEg925 := Aside0.mk (show _ ≤ g925 by rw [hg]; exact below_size (by repeat (first | (with_reducible first | exact HS.out | apply below_alloc | apply pw_below_drewN | apply below_drew1) | exact HS.out))); clear HS; have HS := nS_; have BKg925 := Aside0.mk hbox; clear nS_ hb hbox hg; have hcz926_0 : w924.cell? ⟨g925, 0, none⟩ = some (.bool false) := (blk_cell BKg925.out 0).trans rfl; have hcz926_1 : w924.cell? ⟨g925, 1, none⟩ = some (.slice none 0 0) := (blk_cell BKg925.out 1).trans rfl; have hcz926_2 : w924.cell? ⟨g925, 2, none⟩ = some (.int .i64 0) := (blk_cell BKg925.out 2).trans rfl; have hfz926_0 := blk_frozen BKg925.out 0; have hfz926_1 := blk_frozen BKg925.out 1; have hfz926_2 := blk_frozen BKg925.out 2))
                      (try clear hcz913_0; try clear hcz913_1; try clear hcz913_2; try clear hfz913_0; try clear hfz913_1; try clear hfz913_2)
                      go_upto_region 6 with (first | ((with_reducible refine gate_dst (N := 43) rfl ?_); refine Kd.R_lit (Kd.int .u32) _ 40 ?hg (N := 43) ?hd (xs := ([7] : List Int)) (inner := [.int .u32 7]) (ok := fun _ => True) (okp := fun _ => True) ?hr ?hp (fun _ hk => hk) trivial (Below.refl _ _) (Nat.le_refl _) (by simp) ?_; (case hd => rfl); (case hg => rfl); (case hr => first | (go_simp; done) | (go_simp; rfl) | (go_simp; simp only [x_u32u8, x_u8, x_u32, x_u64, x_mm]; first | done | rfl)); (case hp => exact (Reps.one (show Kd.M (Kd.int .u32) _ _ _ 7 [.int .u32 7] from rfl) (Reps.none _ _))); intro v931 w927 ho hb hg_ hnew_; clear hg_ hnew_; (first | rw [← Ny248.out] at ho | (simp only [Int.reduceToNat] at ho; rw [← Ny248.out] at ho)); have hT := below_step (by repeat (first | (with_reducible first | exact HS.out | apply below_alloc | apply pw_below_drewN | apply below_drew1 | refine below_set ?_ GEg925.out) | exact HS.out)) hb; have nt232_ := Aside0.mk (Kd.C_below Ct232.out hT); have ng912_ := Aside0.mk (blk_below (g := g912) (o := .cells #[.bool t231, .slice Ao907 t232.length co908, .int .i64 t235] 25 (0, 0)) BKg912.out hT); have nW_ := Aside0.mk (HW.out.trans (Below.mono hT HW.out.size)); have nS_ := Aside0.mk (Below.refl w927.heap.size w927); clear Ct232; clear BKg912; (try clear Ct242); (try clear BKg925); clear HW; clear HS; have Ct232 := nt232_; have BKg912 := ng912_; have HW := nW_; have HS := nS_; clear nW_ nS_ hT nt232_ ng912_; obtain ⟨Ao928, co929, eo930⟩ := Kd.R_slice ho; subst eo930; have Cy248 := Aside0.mk (Kd.R_reads' ho).2.2; have Ly248 := Aside0.mk (Kd.R_reads' ho).2.1; clear ho hb) | ((with_reducible refine gate_callee (f := 18) rfl ?_); refine goesL_ (some 46) rfl rfl Tryd.func18 (by kernel_rfl) rfl #[.bool a2, .slice Ao928 y248.length co929, .int .i64 (wrap64 ((-1201) - t227))] rfl (by (try simp only [List.map_toArray, List.map_cons, List.map_nil]); first | done | rfl | (simp only [List.length_drop, List.length_take]; rfl)) ?_; (with_reducible refine (num_Make.calls k a2 _ _ y248 (wrap64 ((-1201) - t227)) t251 t252 t255 false _ ?s1 ?s2 A8.out).mono ?_); (case s1 => exact Kd.C_below Cy248.out (by repeat (first | (with_reducible first | exact HS.out | apply below_alloc | apply pw_below_drewN | apply below_drew1) | exact HS.out))); (case s2 => exact Ly248.out); rintro e w932 ⟨v936, rfl, ho, hb⟩; refine ⟨_, rfl, ?_⟩; have hT := below_step (by repeat (first | (with_reducible first | exact HS.out | apply below_alloc | apply pw_below_drewN | apply below_drew1) | exact HS.out)) hb; have nt232_ := Aside0.mk (Kd.C_below Ct232.out hT); have ng912_ := Aside0.mk (blk_below (g := g912) (o := .cells #[.bool t231, .slice Ao907 t232.length co908, .int .i64 t235] 25 (0, 0)) BKg912.out hT); have nW_ := Aside0.mk (HW.out.trans (Below.mono hT HW.out.size)); have nS_ := Aside0.mk (Below.refl w932.heap.size w932); clear Ct232; clear BKg912; (try clear Cy248); clear HW; clear HS; have Ct232 := nt232_; have BKg912 := ng912_; have HW := nW_; have HS := nS_; clear nW_ nS_ hT nt232_ ng912_; obtain ⟨Ao933, co934, eo935⟩ := Kd.R_slice ho; subst eo935; have Ct252 := Aside0.mk (Kd.R_reads' ho).2.2; have Lt252 := Aside0.mk (Kd.R_reads' ho).2.1; clear ho hb) | ((with_reducible refine gate_dst (N := 13) rfl ?_); refine box_event ?hg (N := 13) ?hd (cs := #[.bool false, .slice none 0 0, .int .i64 0]) (t := 25) ?hr ?_; (case hd => rfl); (case hg => rfl); (case hr => first | (go_simp; done) | (go_simp; rfl) | (go_simp; simp only [x_u32u8, x_u8, x_u32, x_u64, x_mm]; first | done | rfl)); intro g938 hg w937 hbox hb; have nS_ := Aside0.mk (below_step (by repeat (first | (with_reducible first | exact HS.out | apply below_alloc | apply pw_below_drewN | apply below_drew1) | exact HS.out)) hb); have GEg938 := Aside0.mk (show _ ≤ g938 by rw [hg]; exact below_size (by repeat (first | (with_reducible first | exact HS.out | apply below_alloc | apply pw_below_drewN | apply below_drew1) | exact HS.out))); clear HS; have HS := nS_; have BKg938 := Aside0.mk hbox; clear nS_ hb hbox hg; have hcz939_0 : w937.cell? ⟨g938, 0, none⟩ = some (.bool false) := (blk_cell BKg938.out 0).trans rfl; have hcz939_1 : w937.cell? ⟨g938, 1, none⟩ = some (.slice none 0 0) := (blk_cell BKg938.out 1).trans rfl; have hcz939_2 : w937.cell? ⟨g938, 2, none⟩ = some (.int .i64 0) := (blk_cell BKg938.out 2).trans rfl; have hfz939_0 := blk_frozen BKg938.out 0; have hfz939_1 := blk_frozen BKg938.out 1; have hfz939_2 := blk_frozen BKg938.out 2))
                      (try clear hcz926_0; try clear hcz926_1; try clear hcz926_2; try clear hfz926_0; try clear hfz926_1; try clear hfz926_2)
                      go_upto_region 7 with (first | ((with_reducible refine gate_dst (N := 51) rfl ?_); refine Kd.R_lit (Kd.int .u32) _ 40 ?hg (N := 51) ?hd (xs := ([70] : List Int)) (inner := [.int .u32 70]) (ok := fun _ => True) (okp := fun _ => True) ?hr ?hp (fun _ hk => hk) trivial (Below.refl _ _) (Nat.le_refl _) (by simp) ?_; (case hd => rfl); (case hg => rfl); (case hr => first | (go_simp; done) | (go_simp; rfl) | (go_simp; simp only [x_u32u8, x_u8, x_u32, x_u64, x_mm]; first | done | rfl)); (case hp => exact (Reps.one (show Kd.M (Kd.int .u32) _ _ _ 70 [.int .u32 70] from rfl) (Reps.none _ _))); intro v944 w940 ho hb hg_ hnew_; clear hg_ hnew_; (first | rw [← Ny258.out] at ho | (simp only [Int.reduceToNat] at ho; rw [← Ny258.out] at ho)); have hT := below_step (by repeat (first | (with_reducible first | exact HS.out | apply below_alloc | apply pw_below_drewN | apply below_drew1 | refine below_set ?_ GEg938.out) | exact HS.out)) hb; have nt232_ := Aside0.mk (Kd.C_below Ct232.out hT); have ng912_ := Aside0.mk (blk_below (g := g912) (o := .cells #[.bool t231, .slice Ao907 t232.length co908, .int .i64 t235] 25 (0, 0)) BKg912.out hT); have nW_ := Aside0.mk (HW.out.trans (Below.mono hT HW.out.size)); have nS_ := Aside0.mk (Below.refl w940.heap.size w940); clear Ct232; clear BKg912; (try clear Ct252); (try clear BKg938); clear HW; clear HS; have Ct232 := nt232_; have BKg912 := ng912_; have HW := nW_; have HS := nS_; clear nW_ nS_ hT nt232_ ng912_; obtain ⟨Ao941, co942, eo943⟩ := Kd.R_slice ho; subst eo943; have Cy258 := Aside0.mk (Kd.R_reads' ho).2.2; have Ly258 := Aside0.mk (Kd.R_reads' ho).2.1; clear ho hb) | ((with_reducible refine gate_callee (f := 18) rfl ?_); refine goesL_ (some 52) rfl rfl Tryd.func18 (by kernel_rfl) rfl #[.bool a2, .slice Ao941 y258.length co942, .int .i64 1199] rfl (by (try simp only [List.map_toArray, List.map_cons, List.map_nil]); first | done | rfl | (simp only [List.length_drop, List.length_take]; rfl)) ?_; (with_reducible refine (num_Make.calls k a2 _ _ y258 1199 t261 t262 t265 true _ ?s1 ?s2 A9.out).mono ?_); (case s1 => exact Kd.C_below Cy258.out (by repeat (first | (with_reducible first | exact HS.out | apply below_alloc | apply pw_below_drewN | apply below_drew1) | exact HS.out))); (case s2 => exact Ly258.out); rintro e w945 ⟨v949, rfl, ho, hb⟩; refine ⟨_, rfl, ?_⟩; have hT := below_step (by repeat (first | (with_reducible first | exact HS.out | apply below_alloc | apply pw_below_drewN | apply below_drew1) | exact HS.out)) hb; have nt232_ := Aside0.mk (Kd.C_below Ct232.out hT); have ng912_ := Aside0.mk (blk_below (g := g912) (o := .cells #[.bool t231, .slice Ao907 t232.length co908, .int .i64 t235] 25 (0, 0)) BKg912.out hT); have nW_ := Aside0.mk (HW.out.trans (Below.mono hT HW.out.size)); have nS_ := Aside0.mk (Below.refl w945.heap.size w945); clear Ct232; clear BKg912; (try clear Cy258); clear HW; clear HS; have Ct232 := nt232_; have BKg912 := ng912_; have HW := nW_; have HS := nS_; clear nW_ nS_ hT nt232_ ng912_; obtain ⟨Ao946, co947, eo948⟩ := Kd.R_slice ho; subst eo948; have Ct262 := Aside0.mk (Kd.R_reads' ho).2.2; have Lt262 := Aside0.mk (Kd.R_reads' ho).2.1; clear ho hb) | ((with_reducible refine gate_dst (N := 15) rfl ?_); refine box_event ?hg (N := 15) ?hd (cs := #[.bool false, .slice none 0 0, .int .i64 0]) (t := 25) ?hr ?_; (case hd => rfl); (case hg => rfl); (case hr => first | (go_simp; done) | (go_simp; rfl) | (go_simp; simp only [x_u32u8, x_u8, x_u32, x_u64, x_mm]; first | done | rfl)); intro g951 hg w950 hbox hb; have nS_ := Aside0.mk (below_step (by repeat (first | (with_reducible first | exact HS.out | apply below_alloc | apply pw_below_drewN | apply below_drew1) | exact HS.out)) hb); have GEg951 := Aside0.mk (show _ ≤ g951 by rw [hg]; exact below_size (by repeat (first | (with_reducible first | exact HS.out | apply below_alloc | apply pw_below_drewN | apply below_drew1) | exact HS.out))); clear HS; have HS := nS_; have BKg951 := Aside0.mk hbox; clear nS_ hb hbox hg; have hcz952_0 : w950.cell? ⟨g951, 0, none⟩ = some (.bool false) := (blk_cell BKg951.out 0).trans rfl; have hcz952_1 : w950.cell? ⟨g951, 1, none⟩ = some (.slice none 0 0) := (blk_cell BKg951.out 1).trans rfl; have hcz952_2 : w950.cell? ⟨g951, 2, none⟩ = some (.int .i64 0) := (blk_cell BKg951.out 2).trans rfl; have hfz952_0 := blk_frozen BKg951.out 0; have hfz952_1 := blk_frozen BKg951.out 1; have hfz952_2 := blk_frozen BKg951.out 2))
                      (try clear hcz939_0; try clear hcz939_1; try clear hcz939_2; try clear hfz939_0; try clear hfz939_1; try clear hfz939_2)
                      go_upto_region 8 with (first | ((with_reducible refine gate_dst (N := 57) rfl ?_); refine Kd.R_lit (Kd.int .u32) _ 40 ?hg (N := 57) ?hd (xs := ([0, 0] : List Int)) (inner := [.int .u32 0, .int .u32 0]) (ok := fun _ => True) (okp := fun _ => True) ?hr ?hp (fun _ hk => hk) trivial (Below.refl _ _) (Nat.le_refl _) (by simp) ?_; (case hd => rfl); (case hg => rfl); (case hr => first | (go_simp; done) | (go_simp; rfl) | (go_simp; simp only [x_u32u8, x_u8, x_u32, x_u64, x_mm]; first | done | rfl)); (case hp => exact (Reps.one (show Kd.M (Kd.int .u32) _ _ _ 0 [.int .u32 0] from rfl) (Reps.one (show Kd.M (Kd.int .u32) _ _ _ 0 [.int .u32 0] from rfl) (Reps.none _ _)))); intro v957 w953 ho hb hg_ hnew_; clear hg_ hnew_; (first | rw [← Ny268.out] at ho | (simp only [Int.reduceToNat] at ho; rw [← Ny268.out] at ho)); have hT := below_step (by repeat (first | (with_reducible first | exact HS.out | apply below_alloc | apply pw_below_drewN | apply below_drew1 | refine below_set ?_ GEg951.out) | exact HS.out)) hb; have nt232_ := Aside0.mk (Kd.C_below Ct232.out hT); have ng912_ := Aside0.mk (blk_below (g := g912) (o := .cells #[.bool t231, .slice Ao907 t232.length co908, .int .i64 t235] 25 (0, 0)) BKg912.out hT); have ng951_ := Aside0.mk (blk_below (g := g951) (o := .cells #[.bool t261, .slice Ao946 t262.length co947, .int .i64 t265] 25 (0, 0)) (by (with_reducible repeat (first | refine blk_drewN ?_ _ | refine blk_drew ?_ | refine blk_alloc ?_ _)); refine blk_put (cs := #[.bool t261, .slice Ao946 t262.length co947, .int .i64 0]) ?_ 2 _ rfl; (with_reducible repeat (first | refine blk_drewN ?_ _ | refine blk_drew ?_ | refine blk_alloc ?_ _)); refine blk_put (cs := #[.bool t261, .slice none 0 0, .int .i64 0]) ?_ 1 _ rfl; (with_reducible repeat (first | refine blk_drewN ?_ _ | refine blk_drew ?_ | refine blk_alloc ?_ _)); refine blk_put (cs := #[.bool false, .slice none 0 0, .int .i64 0]) ?_ 0 _ rfl; (with_reducible repeat (first | refine blk_drewN ?_ _ | refine blk_drew ?_ | refine blk_alloc ?_ _)); exact BKg951.out) hb); have nW_ := Aside0.mk (HW.out.trans (Below.mono hT HW.out.size)); have nS_ := Aside0.mk (Below.refl w953.heap.size w953); clear Ct232; clear BKg912; clear BKg951; (try clear Ct262); clear HW; clear HS; have Ct232 := nt232_; have BKg912 := ng912_; have BKg951 := ng951_; have HW := nW_; have HS := nS_; clear nW_ nS_ hT nt232_ ng912_ ng951_; obtain ⟨Ao954, co955, eo956⟩ := Kd.R_slice ho; subst eo956; have Cy268 := Aside0.mk (Kd.R_reads' ho).2.2; have Ly268 := Aside0.mk (Kd.R_reads' ho).2.1; clear ho hb) | ((with_reducible refine gate_callee (f := 18) rfl ?_); refine goesL_ (some 58) rfl rfl Tryd.func18 (by kernel_rfl) rfl #[.bool a2, .slice Ao954 y268.length co955, .int .i64 1125899906842624] rfl (by (try simp only [List.map_toArray, List.map_cons, List.map_nil]); first | done | rfl | (simp only [List.length_drop, List.length_take]; rfl)) ?_; (with_reducible refine (num_Make.calls k a2 _ _ y268 1125899906842624 t271 t272 t275 true _ ?s1 ?s2 A10.out).mono ?_); (case s1 => exact Kd.C_below Cy268.out (by repeat (first | (with_reducible first | exact HS.out | apply below_alloc | apply pw_below_drewN | apply below_drew1) | exact HS.out))); (case s2 => exact Ly268.out); rintro e w958 ⟨v962, rfl, ho, hb⟩; refine ⟨_, rfl, ?_⟩; have hT := below_step (by repeat (first | (with_reducible first | exact HS.out | apply below_alloc | apply pw_below_drewN | apply below_drew1) | exact HS.out)) hb; have nt232_ := Aside0.mk (Kd.C_below Ct232.out hT); have ng912_ := Aside0.mk (blk_below (g := g912) (o := .cells #[.bool t231, .slice Ao907 t232.length co908, .int .i64 t235] 25 (0, 0)) BKg912.out hT); have ng951_ := Aside0.mk (blk_below (g := g951) (o := .cells #[.bool t261, .slice Ao946 t262.length co947, .int .i64 t265] 25 (0, 0)) BKg951.out hT); have nW_ := Aside0.mk (HW.out.trans (Below.mono hT HW.out.size)); have nS_ := Aside0.mk (Below.refl w958.heap.size w958); clear Ct232; clear BKg912; clear BKg951; (try clear Cy268); clear HW; clear HS; have Ct232 := nt232_; have BKg912 := ng912_; have BKg951 := ng951_; have HW := nW_; have HS := nS_; clear nW_ nS_ hT nt232_ ng912_ ng951_; obtain ⟨Ao959, co960, eo961⟩ := Kd.R_slice ho; subst eo961; have Ct272 := Aside0.mk (Kd.R_reads' ho).2.2; have Lt272 := Aside0.mk (Kd.R_reads' ho).2.1; clear ho hb) | ((with_reducible refine gate_dst (N := 17) rfl ?_); refine box_event ?hg (N := 17) ?hd (cs := #[.bool false, .slice none 0 0, .int .i64 0]) (t := 25) ?hr ?_; (case hd => rfl); (case hg => rfl); (case hr => first | (go_simp; done) | (go_simp; rfl) | (go_simp; simp only [x_u32u8, x_u8, x_u32, x_u64, x_mm]; first | done | rfl)); intro g964 hg w963 hbox hb; have nS_ := Aside0.mk (below_step (by repeat (first | (with_reducible first | exact HS.out | apply below_alloc | apply pw_below_drewN | apply below_drew1) | exact HS.out)) hb); have ng912_ := Aside0.mk (blk_below (g := g912) (o := .cells #[.bool t231, .slice Ao907 t232.length co908, .int .i64 t235] 25 (0, 0)) BKg912.out nS_.out); have hnb965 : g912 ≠ g964 := (by rw [hg]; exact Nat.ne_of_lt (blk_lt (g := g912) (o := .cells #[.bool t231, .slice Ao907 t232.length co908, .int .i64 t235] 25 (0, 0)) (by (with_reducible repeat (first | refine blk_drewN ?_ _ | refine blk_drew ?_ | refine blk_alloc ?_ _)); exact BKg912.out))); have hnc965 : g964 ≠ g912 := (by rw [hg]; exact Nat.ne_of_gt (blk_lt (g := g912) (o := .cells #[.bool t231, .slice Ao907 t232.length co908, .int .i64 t235] 25 (0, 0)) (by (with_reducible repeat (first | refine blk_drewN ?_ _ | refine blk_drew ?_ | refine blk_alloc ?_ _)); exact BKg912.out))); have GEg964 := Aside0.mk (show _ ≤ g964 by rw [hg]; exact below_size (by repeat (first | (with_reducible first | exact HS.out | apply below_alloc | apply pw_below_drewN | apply below_drew1) | exact HS.out))); clear HS; have HS := nS_; have BKg964 := Aside0.mk hbox; clear nS_ hb hbox hg; have hcz966_0 : w963.cell? ⟨g964, 0, none⟩ = some (.bool false) := (blk_cell BKg964.out 0).trans rfl; have hcz966_1 : w963.cell? ⟨g964, 1, none⟩ = some (.slice none 0 0) := (blk_cell BKg964.out 1).trans rfl; have hcz966_2 : w963.cell? ⟨g964, 2, none⟩ = some (.int .i64 0) := (blk_cell BKg964.out 2).trans rfl; have hfz966_0 := blk_frozen BKg964.out 0; have hfz966_1 := blk_frozen BKg964.out 1; have hfz966_2 := blk_frozen BKg964.out 2; have hcz967_0 : w963.cell? ⟨g912, 0, none⟩ = some (.bool t231) := (blk_cell ng912_.out 0).trans rfl; have hcz967_1 : w963.cell? ⟨g912, 1, none⟩ = some (.slice Ao907 t232.length co908) := (blk_cell ng912_.out 1).trans rfl; have hcz967_2 : w963.cell? ⟨g912, 2, none⟩ = some (.int .i64 t235) := (blk_cell ng912_.out 2).trans rfl; have hfz967_0 := blk_frozen ng912_.out 0; have hfz967_1 := blk_frozen ng912_.out 1; have hfz967_2 := blk_frozen ng912_.out 2; clear ng912_))
                      (try clear hcz952_0; try clear hcz952_1; try clear hcz952_2; try clear hfz952_0; try clear hfz952_1; try clear hfz952_2)
                      go_upto_region 9 with (first | ((with_reducible refine gate_callee (f := 14) rfl ?_); refine goesL_ (some 63) rfl rfl Tryd.func14 (by kernel_rfl) rfl #[.agg #[.bool t231, .slice Ao907 t232.length co908, .int .i64 t235]] rfl (by (try simp only [List.map_toArray, List.map_cons, List.map_nil]); first | done | rfl | (simp only [List.length_drop, List.length_take]; rfl)) ?_; (with_reducible refine (num_Text.calls k t231 _ _ t232 t235 t278 _ ?s1 ?s2 ?s3 A11.out).mono ?_); (case s1 => exact hL.out.below (HW.out.trans (Below.mono (by repeat (first | (with_reducible first | exact HS.out | apply below_alloc | apply pw_below_drewN | apply below_drew1 | refine below_set ?_ GEg964.out) | exact HS.out)) HW.out.size))); (case s2 => exact Kd.C_below Ct232.out (by repeat (first | (with_reducible first | exact HS.out | apply below_alloc | apply pw_below_drewN | apply below_drew1 | refine below_set ?_ GEg964.out) | exact HS.out))); (case s3 => exact Lt232.out); rintro e w968 ⟨rfl, hb⟩; refine ⟨_, rfl, ?_⟩; have hT := below_step (by repeat (first | (with_reducible first | exact HS.out | apply below_alloc | apply pw_below_drewN | apply below_drew1 | refine below_set ?_ GEg964.out) | exact HS.out)) hb; have nt232_ := Aside0.mk (Kd.C_below Ct232.out hT); have nt272_ := Aside0.mk (Kd.C_below Ct272.out hT); have ng912_ := Aside0.mk (blk_below (g := g912) (o := .cells #[.bool t231, .slice Ao907 t232.length co908, .int .i64 t235] 25 (0, 0)) BKg912.out hT); have ng951_ := Aside0.mk (blk_below (g := g951) (o := .cells #[.bool t261, .slice Ao946 t262.length co947, .int .i64 t265] 25 (0, 0)) BKg951.out hT); have ng964_ := Aside0.mk (blk_below (g := g964) (o := .cells #[.bool t271, .slice Ao959 t272.length co960, .int .i64 t275] 25 (0, 0)) (by (with_reducible repeat (first | refine blk_drewN ?_ _ | refine blk_drew ?_ | refine blk_alloc ?_ _)); refine blk_put (cs := #[.bool t271, .slice Ao959 t272.length co960, .int .i64 0]) ?_ 2 _ rfl; (with_reducible repeat (first | refine blk_drewN ?_ _ | refine blk_drew ?_ | refine blk_alloc ?_ _)); refine blk_put (cs := #[.bool t271, .slice none 0 0, .int .i64 0]) ?_ 1 _ rfl; (with_reducible repeat (first | refine blk_drewN ?_ _ | refine blk_drew ?_ | refine blk_alloc ?_ _)); refine blk_put (cs := #[.bool false, .slice none 0 0, .int .i64 0]) ?_ 0 _ rfl; (with_reducible repeat (first | refine blk_drewN ?_ _ | refine blk_drew ?_ | refine blk_alloc ?_ _)); exact BKg964.out) hb); have nW_ := Aside0.mk (HW.out.trans (Below.mono hT HW.out.size)); have nS_ := Aside0.mk (Below.refl w968.heap.size w968); clear Ct232; clear Ct272; clear BKg912; clear BKg951; clear BKg964; clear HW; clear HS; have Ct232 := nt232_; have Ct272 := nt272_; have BKg912 := ng912_; have BKg951 := ng951_; have BKg964 := ng964_; have HW := nW_; have HS := nS_; clear nW_ nS_ hT nt232_ nt272_ ng912_ ng951_ ng964_; (try clear hb)) | ((with_reducible refine gate_callee (f := 10) rfl ?_); refine goesL_ (some 64) rfl rfl Tryd.func10 (by kernel_rfl) rfl #[.string t278] rfl (by (try simp only [List.map_toArray, List.map_cons, List.map_nil]); first | done | rfl | (simp only [List.length_drop, List.length_take]; rfl)) ?_; (with_reducible refine (num_Parse.calls k t278 t279 t280 t283 t284 _ ?s1 A12.out).mono ?_); (case s1 => exact hL.out.below (HW.out.trans (Below.mono (by repeat (first | (with_reducible first | exact HS.out | apply below_alloc | apply pw_below_drewN | apply below_drew1) | exact HS.out)) HW.out.size))); rintro e w969 ⟨v973, rfl, ho, hb⟩; refine ⟨_, rfl, ?_⟩; have hT := below_step (by repeat (first | (with_reducible first | exact HS.out | apply below_alloc | apply pw_below_drewN | apply below_drew1) | exact HS.out)) hb; have nt232_ := Aside0.mk (Kd.C_below Ct232.out hT); have nt272_ := Aside0.mk (Kd.C_below Ct272.out hT); have ng912_ := Aside0.mk (blk_below (g := g912) (o := .cells #[.bool t231, .slice Ao907 t232.length co908, .int .i64 t235] 25 (0, 0)) BKg912.out hT); have ng951_ := Aside0.mk (blk_below (g := g951) (o := .cells #[.bool t261, .slice Ao946 t262.length co947, .int .i64 t265] 25 (0, 0)) BKg951.out hT); have ng964_ := Aside0.mk (blk_below (g := g964) (o := .cells #[.bool t271, .slice Ao959 t272.length co960, .int .i64 t275] 25 (0, 0)) BKg964.out hT); have nW_ := Aside0.mk (HW.out.trans (Below.mono hT HW.out.size)); have nS_ := Aside0.mk (Below.refl w969.heap.size w969); clear Ct232; clear Ct272; clear BKg912; clear BKg951; clear BKg964; clear HW; clear HS; have Ct232 := nt232_; have Ct272 := nt272_; have BKg912 := ng912_; have BKg951 := ng951_; have BKg964 := ng964_; have HW := nW_; have HS := nS_; clear nW_ nS_ hT nt232_ nt272_ ng912_ ng951_ ng964_; obtain ⟨Ao970, co971, eo972⟩ := Kd.R_slice ho; subst eo972; have Ct280 := Aside0.mk (Kd.R_reads' ho).2.2; have Lt280 := Aside0.mk (Kd.R_reads' ho).2.1; clear ho hb) | ((with_reducible refine gate_dst (N := 19) rfl ?_); refine box_event ?hg (N := 19) ?hd (cs := #[.bool false, .slice none 0 0, .int .i64 0]) (t := 25) ?hr ?_; (case hd => rfl); (case hg => rfl); (case hr => first | (go_simp; done) | (go_simp; rfl) | (go_simp; simp only [x_u32u8, x_u8, x_u32, x_u64, x_mm]; first | done | rfl)); intro g975 hg w974 hbox hb; have nS_ := Aside0.mk (below_step (by repeat (first | (with_reducible first | exact HS.out | apply below_alloc | apply pw_below_drewN | apply below_drew1) | exact HS.out)) hb); have ng912_ := Aside0.mk (blk_below (g := g912) (o := .cells #[.bool t231, .slice Ao907 t232.length co908, .int .i64 t235] 25 (0, 0)) BKg912.out nS_.out); have hnb976 : g912 ≠ g975 := (by rw [hg]; exact Nat.ne_of_lt (blk_lt (g := g912) (o := .cells #[.bool t231, .slice Ao907 t232.length co908, .int .i64 t235] 25 (0, 0)) (by (with_reducible repeat (first | refine blk_drewN ?_ _ | refine blk_drew ?_ | refine blk_alloc ?_ _)); exact BKg912.out))); have hnc976 : g975 ≠ g912 := (by rw [hg]; exact Nat.ne_of_gt (blk_lt (g := g912) (o := .cells #[.bool t231, .slice Ao907 t232.length co908, .int .i64 t235] 25 (0, 0)) (by (with_reducible repeat (first | refine blk_drewN ?_ _ | refine blk_drew ?_ | refine blk_alloc ?_ _)); exact BKg912.out))); have GEg975 := Aside0.mk (show _ ≤ g975 by rw [hg]; exact below_size (by repeat (first | (with_reducible first | exact HS.out | apply below_alloc | apply pw_below_drewN | apply below_drew1) | exact HS.out))); clear HS; have HS := nS_; have BKg975 := Aside0.mk hbox; clear nS_ hb hbox hg; have hcz977_0 : w974.cell? ⟨g975, 0, none⟩ = some (.bool false) := (blk_cell BKg975.out 0).trans rfl; have hcz977_1 : w974.cell? ⟨g975, 1, none⟩ = some (.slice none 0 0) := (blk_cell BKg975.out 1).trans rfl; have hcz977_2 : w974.cell? ⟨g975, 2, none⟩ = some (.int .i64 0) := (blk_cell BKg975.out 2).trans rfl; have hfz977_0 := blk_frozen BKg975.out 0; have hfz977_1 := blk_frozen BKg975.out 1; have hfz977_2 := blk_frozen BKg975.out 2; have hcz978_0 : w974.cell? ⟨g912, 0, none⟩ = some (.bool t231) := (blk_cell ng912_.out 0).trans rfl; have hcz978_1 : w974.cell? ⟨g912, 1, none⟩ = some (.slice Ao907 t232.length co908) := (blk_cell ng912_.out 1).trans rfl; have hcz978_2 : w974.cell? ⟨g912, 2, none⟩ = some (.int .i64 t235) := (blk_cell ng912_.out 2).trans rfl; have hfz978_0 := blk_frozen ng912_.out 0; have hfz978_1 := blk_frozen ng912_.out 1; have hfz978_2 := blk_frozen ng912_.out 2; clear ng912_))
                      (try clear hnb965; try clear hnc965; try clear hcz966_0; try clear hcz966_1; try clear hcz966_2; try clear hfz966_0; try clear hfz966_1; try clear hfz966_2; try clear hcz967_0; try clear hcz967_1; try clear hcz967_2; try clear hfz967_0; try clear hfz967_1; try clear hfz967_2)
                      go_wp2_with (first | (go_at_call 19; (with_reducible refine (num_Check.calls k t231 _ _ t232 t235 true _ ?s1 ?s2 A14.out).mono ?_); (case s1 => exact Kd.C_below Ct232.out (by repeat (first | (with_reducible first | exact HS.out | apply below_alloc | apply pw_below_drewN | apply below_drew1 | refine below_set ?_ GEg975.out) | exact HS.out))); (case s2 => exact Lt232.out); rintro e w979 ⟨rfl, hb⟩; have hT := below_step (by repeat (first | (with_reducible first | exact HS.out | apply below_alloc | apply pw_below_drewN | apply below_drew1 | refine below_set ?_ GEg975.out) | exact HS.out)) hb; have nt232_ := Aside0.mk (Kd.C_below Ct232.out hT); have nt272_ := Aside0.mk (Kd.C_below Ct272.out hT); have nt280_ := Aside0.mk (Kd.C_below Ct280.out hT); have ng912_ := Aside0.mk (blk_below (g := g912) (o := .cells #[.bool t231, .slice Ao907 t232.length co908, .int .i64 t235] 25 (0, 0)) BKg912.out hT); have ng951_ := Aside0.mk (blk_below (g := g951) (o := .cells #[.bool t261, .slice Ao946 t262.length co947, .int .i64 t265] 25 (0, 0)) BKg951.out hT); have ng964_ := Aside0.mk (blk_below (g := g964) (o := .cells #[.bool t271, .slice Ao959 t272.length co960, .int .i64 t275] 25 (0, 0)) BKg964.out hT); have ng975_ := Aside0.mk (blk_below (g := g975) (o := .cells #[.bool t279, .slice Ao970 t280.length co971, .int .i64 t283] 25 (0, 0)) (by (with_reducible repeat (first | refine blk_drewN ?_ _ | refine blk_drew ?_ | refine blk_alloc ?_ _)); refine blk_put (cs := #[.bool t279, .slice Ao970 t280.length co971, .int .i64 0]) ?_ 2 _ rfl; (with_reducible repeat (first | refine blk_drewN ?_ _ | refine blk_drew ?_ | refine blk_alloc ?_ _)); refine blk_put (cs := #[.bool t279, .slice none 0 0, .int .i64 0]) ?_ 1 _ rfl; (with_reducible repeat (first | refine blk_drewN ?_ _ | refine blk_drew ?_ | refine blk_alloc ?_ _)); refine blk_put (cs := #[.bool false, .slice none 0 0, .int .i64 0]) ?_ 0 _ rfl; (with_reducible repeat (first | refine blk_drewN ?_ _ | refine blk_drew ?_ | refine blk_alloc ?_ _)); exact BKg975.out) hb); have nW_ := Aside0.mk (HW.out.trans (Below.mono hT HW.out.size)); have nS_ := Aside0.mk (Below.refl w979.heap.size w979); clear Ct232; clear Ct272; clear Ct280; clear BKg912; clear BKg951; clear BKg964; clear BKg975; clear HW; clear HS; have Ct232 := nt232_; have Ct272 := nt272_; have Ct280 := nt280_; have BKg912 := ng912_; have BKg951 := ng951_; have BKg964 := ng964_; have BKg975 := ng975_; have HW := nW_; have HS := nS_; clear nW_ nS_ hT nt232_ nt272_ nt280_ ng912_ ng951_ ng964_ ng975_; (try clear hb); have hcz980_0 : w979.cell? ⟨g951, 0, none⟩ = some (.bool t261) := (blk_cell BKg951.out 0).trans rfl; have hcz980_1 : w979.cell? ⟨g951, 1, none⟩ = some (.slice Ao946 t262.length co947) := (blk_cell BKg951.out 1).trans rfl; have hcz980_2 : w979.cell? ⟨g951, 2, none⟩ = some (.int .i64 t265) := (blk_cell BKg951.out 2).trans rfl; have hfz980_0 := blk_frozen BKg951.out 0; have hfz980_1 := blk_frozen BKg951.out 1; have hfz980_2 := blk_frozen BKg951.out 2; have hcz981_0 : w979.cell? ⟨g964, 0, none⟩ = some (.bool t271) := (blk_cell BKg964.out 0).trans rfl; have hcz981_1 : w979.cell? ⟨g964, 1, none⟩ = some (.slice Ao959 t272.length co960) := (blk_cell BKg964.out 1).trans rfl; have hcz981_2 : w979.cell? ⟨g964, 2, none⟩ = some (.int .i64 t275) := (blk_cell BKg964.out 2).trans rfl; have hfz981_0 := blk_frozen BKg964.out 0; have hfz981_1 := blk_frozen BKg964.out 1; have hfz981_2 := blk_frozen BKg964.out 2) | (go_at_call 12; (with_reducible refine (same_zero_calls k t271 _ _ t272 t275 true _ ?s1 ?s2 A137.out).mono ?_); (case s1 => exact Kd.C_below Ct272.out (by repeat (first | (with_reducible first | exact HS.out | apply below_alloc | apply pw_below_drewN | apply below_drew1) | exact HS.out))); (case s2 => exact Lt272.out); rintro e w982 ⟨rfl, hb⟩; have hT := below_step (by repeat (first | (with_reducible first | exact HS.out | apply below_alloc | apply pw_below_drewN | apply below_drew1) | exact HS.out)) hb; have nt232_ := Aside0.mk (Kd.C_below Ct232.out hT); have nt280_ := Aside0.mk (Kd.C_below Ct280.out hT); have ng912_ := Aside0.mk (blk_below (g := g912) (o := .cells #[.bool t231, .slice Ao907 t232.length co908, .int .i64 t235] 25 (0, 0)) BKg912.out hT); have ng975_ := Aside0.mk (blk_below (g := g975) (o := .cells #[.bool t279, .slice Ao970 t280.length co971, .int .i64 t283] 25 (0, 0)) BKg975.out hT); have nW_ := Aside0.mk (HW.out.trans (Below.mono hT HW.out.size)); have nS_ := Aside0.mk (Below.refl w982.heap.size w982); clear Ct232; clear Ct280; clear BKg912; clear BKg975; (try clear Ct272); (try clear BKg951); (try clear BKg964); clear HW; clear HS; have Ct232 := nt232_; have Ct280 := nt280_; have BKg912 := ng912_; have BKg975 := ng975_; have HW := nW_; have HS := nS_; clear nW_ nS_ hT nt232_ nt280_ ng912_ ng975_; (try clear hb); have hcz983_0 : w982.cell? ⟨g975, 0, none⟩ = some (.bool t279) := (blk_cell BKg975.out 0).trans rfl; have hcz983_1 : w982.cell? ⟨g975, 1, none⟩ = some (.slice Ao970 t280.length co971) := (blk_cell BKg975.out 1).trans rfl; have hcz983_2 : w982.cell? ⟨g975, 2, none⟩ = some (.int .i64 t283) := (blk_cell BKg975.out 2).trans rfl; have hfz983_0 := blk_frozen BKg975.out 0; have hfz983_1 := blk_frozen BKg975.out 1; have hfz983_2 := blk_frozen BKg975.out 2; have hcz984_0 : w982.cell? ⟨g912, 0, none⟩ = some (.bool t231) := (blk_cell BKg912.out 0).trans rfl; have hcz984_1 : w982.cell? ⟨g912, 1, none⟩ = some (.slice Ao907 t232.length co908) := (blk_cell BKg912.out 1).trans rfl; have hcz984_2 : w982.cell? ⟨g912, 2, none⟩ = some (.int .i64 t235) := (blk_cell BKg912.out 2).trans rfl; have hfz984_0 := blk_frozen BKg912.out 0; have hfz984_1 := blk_frozen BKg912.out 1; have hfz984_2 := blk_frozen BKg912.out 2) | (go_at_call 12; (with_reducible refine (erratumlaw00_SameNum.calls k t279 _ _ t280 t283 t231 _ _ t232 t235 true _ ?s1 ?s2 ?s3 ?s4 A140.out).mono ?_); (case s1 => exact Kd.C_below Ct280.out (by repeat (first | (with_reducible first | exact HS.out | apply below_alloc | apply pw_below_drewN | apply below_drew1) | exact HS.out))); (case s2 => exact Lt280.out); (case s3 => exact Kd.C_below Ct232.out (by repeat (first | (with_reducible first | exact HS.out | apply below_alloc | apply pw_below_drewN | apply below_drew1) | exact HS.out))); (case s4 => exact Lt232.out); rintro e w985 ⟨rfl, hb⟩; have hT := below_step (by repeat (first | (with_reducible first | exact HS.out | apply below_alloc | apply pw_below_drewN | apply below_drew1) | exact HS.out)) hb; have nW_ := Aside0.mk (HW.out.trans (Below.mono hT HW.out.size)); have nS_ := Aside0.mk (Below.refl w985.heap.size w985); (try clear Ct232); (try clear Ct280); (try clear BKg912); (try clear BKg975); clear HW; clear HS; have HW := nW_; have HS := nS_; clear nW_ nS_ hT; (try clear hb)) | (go_at_call 9; (with_reducible refine (erratumlaw02_awake.calls k t289 _ ?s1 A142.out).mono ?_); (case s1 => exact hL.out.below (HW.out.trans (Below.mono (by repeat (first | (with_reducible first | exact HS.out | apply below_alloc | apply pw_below_drewN | apply below_drew1) | exact HS.out)) HW.out.size))); rintro e w986 ⟨rfl, hb⟩; have hT := below_step (by repeat (first | (with_reducible first | exact HS.out | apply below_alloc | apply pw_below_drewN | apply below_drew1) | exact HS.out)) hb; have nW_ := Aside0.mk (HW.out.trans (Below.mono hT HW.out.size)); have nS_ := Aside0.mk (Below.refl w986.heap.size w986); clear HW; clear HS; have HW := nW_; have HS := nS_; clear nW_ nS_ hT; (try clear hb)))
                      go_ret
                      exact ⟨by first | rfl | (simp [errW_none, errW_some] <;> rfl) | (simp [*, errW_none, errW_some] <;> rfl), (HW.out.trans (Below.mono (by repeat (first | (with_reducible first | exact HS.out | apply below_alloc | apply pw_below_drewN | apply below_drew1) | exact HS.out)) HW.out.size))⟩
                    · replace c141 := Bool.eq_false_iff.mpr c141
                      subst c141
                      have H1 : (some false) = some r := by rw [if_neg (show ¬ (false = true) by decide)] at H; exact H
                      clear H
                      have H := H1
                      clear H1
                      exact absurd ((Option.some.inj H).trans hT) (by decide)
                  · rw [if_neg c139] at H
                    have c139b0 : (t284 == 0) = false := beq_eq_false_iff_ne.mpr c139
                    have c139b1 : (t284 != 0) = true := bne_iff_ne.mpr c139
                    exact absurd ((Option.some.inj H).trans hT) (by decide)
                · replace c138 := Bool.eq_false_iff.mpr c138
                  subst c138
                  have H1 : (some false) = some r := by rw [if_neg (show ¬ (false = true) by decide)] at H; exact H
                  clear H
                  have H := H1
                  clear H1
                  exact absurd ((Option.some.inj H).trans hT) (by decide)
              · replace c136 := Bool.eq_false_iff.mpr c136
                subst c136
                have H1 : (some false) = some r := by rw [if_neg (show ¬ (false = true) by decide)] at H; exact H
                clear H
                have H := H1
                clear H1
                exact absurd ((Option.some.inj H).trans hT) (by decide)
            · rw [if_neg c135] at H
              have c135b0 : (t265 == 1200) = false := beq_eq_false_iff_ne.mpr c135
              have c135b1 : (t265 != 1200) = true := bne_iff_ne.mpr c135
              exact absurd ((Option.some.inj H).trans hT) (by decide)
          · replace c134 := Bool.eq_false_iff.mpr c134
            subst c134
            have H1 : (some false) = some r := by rw [if_neg (show ¬ (false = true) by decide)] at H; exact H
            clear H
            have H := H1
            clear H1
            exact absurd ((Option.some.inj H).trans hT) (by decide)
    · replace c15 := Bool.eq_false_iff.mpr c15
      subst c15
      have H1 : (some false) = some r := by rw [if_neg (show ¬ (false = true) by decide)] at H; exact H
      clear H
      have H := H1
      clear H1
      exact absurd ((Option.some.inj H).trans hT) (by decide)
  · replace c13 := Bool.eq_false_iff.mpr c13
    subst c13
    have H1 : (some false) = some r := by rw [if_neg (show ¬ (false = true) by decide)] at H; exact H
    clear H
    have H := H1
    clear H1
    exact absurd ((Option.some.inj H).trans hT) (by decide)
end Go.Proofs.YtmkdcokdilllcaaDoor.X
/- The law of rooms holds. -/
namespace Go.Proofs.YtmkdcokdilllcaaDoor.X
open Go.RowKit Go.Proofs.YtmkdcokdilllcaaDoorW.PrintWords Go.Proofs.YtmkdcokdilllcaaDoorW.PrintMore
set_option linter.unusedVariables false
set_option linter.unusedSimpArgs false
/-- THE LAW OF ROOMS. -/
theorem numRooms_true (n more : Int) (n0 : -9223372036854775808 ≤ n) (n1 : n ≤ 9223372036854775807) (m0 : -9223372036854775808 ≤ more) (m1 : more ≤ 9223372036854775807) (neg : Bool) :
    Ev (fun k => erratumlaw02_NumRooms.f k n more neg) true := by
  obtain ⟨e, he, e0, e1⟩ := place_of (v := n) (n := 2401) (by decide) (by decide)
  obtain ⟨d, hd, d0, d1⟩ := place_of (v := more) (n := 5) (by decide) (by decide)
  have ok7 : Ok [7] := ok_one (by decide) (by decide)
  have v7 : val [7] = 7 := rfl
  have ok70 : Ok [70] := ok_one (by decide) (by decide)
  have v70 : val [70] = 70 := rfl
  have ok00 : Ok [0, 0] := Ok.cons (by decide) (by decide) (ok_one (by decide) (by decide))
  have v00 : val [0, 0] = 0 := rfl
  have l7 : lim 7 = [7] := lim_small (by decide) (by decide)
  have g7 : ∀ E : Int, -1200 ≤ E → E ≤ 1200 → GoodNum neg 7 E := fun E a b => ⟨(fun h => absurd h (by decide)), (fun _ => by decide), (by rw [l7]; decide), a, b⟩
  have m7 : ∀ E : Int, -1200 ≤ E → E ≤ 1200 → makeS neg 7 E = (neg, [7], E, true) := fun E a b => by
    have := make_good (g7 E a b) (by decide) 0
    rw [l7] at this
    simpa using this
  have w1 : wrap64 (e - 1200) = e - 1200 := wrap64_ok (by omega) (by omega)
  have w2 : wrap64 (1201 + d) = 1201 + d := wrap64_ok (by omega) (by omega)
  have w3 : wrap64 (-1201 - d) = -1201 - d := wrap64_ok (by omega) (by omega)
  have t7 : tz 7 = (7, 0) := tz_self (by decide)
  have a1 := num_make ok7 (by decide) neg (e - 1200) (by omega) (by omega)
  rw [v7, m7 _ (by omega) (by omega)] at a1
  have a2 := num_make ok7 (by decide) neg (1201 + d) (by omega) (by omega)
  have a3 := num_make ok7 (by decide) neg (-1201 - d) (by omega) (by omega)
  have b2 : makeS neg 7 (1201 + d) = (false, [], 0, false) := by
    unfold makeS
    rw [t7]
    simp only
    rw [if_neg (by decide), if_neg (by rw [l7]; decide), if_pos (by omega)]
  have b3 : makeS neg 7 (-1201 - d) = (false, [], 0, false) := by
    unfold makeS
    rw [t7]
    simp only
    rw [if_neg (by decide), if_neg (by rw [l7]; decide), if_neg (by omega), if_pos (by omega)]
  rw [v7, b2] at a2
  rw [v7, b3] at a3
  have a4 := num_make ok70 (by decide) neg 1199 (by decide) (by decide)
  have b4 : makeS neg 70 1199 = (neg, [7], 1200, true) := by
    have := make_good (g7 1200 (by decide) (by decide)) (by decide) 1
    rw [l7] at this
    simpa using this
  rw [v70, b4] at a4
  have a5 := num_make ok00 (by decide) neg 1125899906842624 (by decide) (by decide)
  rw [v00, make_zero] at a5
  have hg := g7 (e - 1200) (by omega) (by omega)
  have tx := num_text_good hg
  have px := parse_text hg
  have ck := num_check (lim_ok 7) (by rw [l7]; decide) neg (e - 1200)
  rw [good_check hg] at ck
  rw [l7] at tx px ck
  unfold erratumlaw02_NumRooms.f
  simp only [he, hd, Option.bind_some, w1, w2, w3]
  refine Ev.bind a1 (Ev.bind a2 (Ev.bind a3 (Ev.bind a4 (Ev.bind a5 (Ev.bind tx (Ev.bind px ?_))))))
  simp only [if_true]
  refine Ev.bind ck ?_
  simp only [if_true, Bool.false_eq_true, if_false]
  refine Ev.bind (same_num false [] 0 (by decide)) ?_
  simp only [if_true]
  refine Ev.bind (same_num neg [7] (e - 1200) (by decide)) ?_
  simp only [if_true]
  exact Ev.bind awake_true (Ev.now _)
end Go.Proofs.YtmkdcokdilllcaaDoor.X
/- The row and the card of NumRooms. -/
namespace Go.Proofs.YtmkdcokdilllcaaDoor.X
open Go.ChangeShapes Go.WideShapes Go.ChangeAt Go.RowKit
set_option maxRecDepth 100000 in
theorem contractNumRooms (H : Type) (enc : TypeId × Value → H) (W : World) (base : Nat) (args : Array Value) (ds gs : List (DataW H)) (before : List MemPlace)
    (hval : ∀ (j : Nat) t v, Tryd.f6.params[j]? = some t → args[j]? = some v → Value.okWide Tryd.prog W .any base t v)
    (hW : DataW.Whole enc Tryd.prog Tryd.f6.params.toList Rows.numRoomsSpec.vars false W args.toList ds gs before) (hL : laidMetH Tryd.prog Rows.numRoomsRow.laid W) :
    Calls Tryd.prog 6 args W fun e W' => ∃ v, e = .returned v ∧ Rows.numRoomsSpec.post enc Tryd.prog Tryd.f6 false true false false W args v W' := by
  have hW' := hW
  obtain ⟨p, q, hA0, hV, rfl, hfz, hnd⟩ := hW
  have hA : DataW.TrodAll enc Tryd.prog W 0 (fun _ => true) true Tryd.f6.params.toList args.toList ds p := hA0
  rw [Tryd.params6] at hA hval
  obtain ⟨v0, vs0, d0, ds0, p0, q0, hargs, rfl, rfl, h0, r0⟩ := trodAll_cons hA
  obtain ⟨v1, vs1, d1, ds1, p1, q1, rfl, rfl, rfl, h1, r1⟩ := trodAll_cons r0
  obtain ⟨v2, vs2, d2, ds2, p2, q2, rfl, rfl, rfl, h2, r2⟩ := trodAll_cons r1
  obtain ⟨rfl, rfl, rfl⟩ := trodAll_nil r2
  obtain rfl : args = #[v0, v1, v2] := by cases args; simp_all
  obtain ⟨rfl, rfl⟩ := trodVars_none hV
  obtain ⟨a0, rfl, rfl, rfl, w0⟩ := open_int Tryd.underlying3 (hval 0 3 v0 rfl rfl) h0
  have b0 := int_bounds w0
  obtain ⟨a1, rfl, rfl, rfl, w1⟩ := open_int Tryd.underlying3 (hval 1 3 v1 rfl rfl) h1
  have b1 := int_bounds w1
  obtain ⟨a2, rfl, rfl, rfl⟩ := open_bool Tryd.underlying4 (hval 2 4 v2 rfl rfl) h2
  clear hA0
  obtain ⟨k, hk⟩ := (numRooms_true a0 a1 b0.1 b0.2 b1.1 b1.2 a2).rounds
  refine (erratumlaw02_NumRooms.calls k a0 a1 a2 true W rfl (laid_of (show laidMetH Tryd.prog Rows.numTextsRow.laid W from hL)) hk).mono fun e W' ⟨he, bel⟩ => ?_
  subst he
  exact ⟨_, rfl, _, _, _, [], _, [], hW', trodAll_mk1 (shut_bool Tryd.underlying4 _), (trodAll_cons_mk (shut_int Tryd.underlying3 w0) (trodAll_cons_mk (shut_int Tryd.underlying3 w1) (trodAll_cons_mk (shut_bool Tryd.underlying4 _) trodAll_mk0))), rfl, bel.frame _, fun h => by cases h⟩
theorem readsNumRooms (os : Os) {H : Type} (enc : TypeId × Value → H) : ∃ places, DataW.whole enc Tryd.prog ((laidWorld os).forCall (fun _ _ => 0) ⟨#[], #[.int .i64 0, .int .i64 0, .bool false], []⟩).memory Tryd.f6.params.toList Rows.numRoomsSpec.vars false #[Value.int .i64 0, Value.int .i64 0, Value.bool false].toList 8 = some ([.lit (.int .i64 0), .lit (.int .i64 0), .lit (.bool false)], [], places) :=
  ⟨[], by kernel_rfl⟩
set_option maxRecDepth 100000 in
theorem metNumRooms (os : Os) : laidMet Tryd.prog Rows.numRoomsRow.laid ((laidWorld os).forCall (fun _ _ => 0) ⟨#[], #[.int .i64 0, .int .i64 0, .bool false], []⟩).memory :=
  laidMet_of_run' 8 (by kernel_rfl) (by kernel_rfl)
set_option maxRecDepth 100000 in
theorem liftedNumRooms (os : Os) (started : os.Started) (H : Type) (enc : TypeId × Value → H) (F : Stop.Interp) :
    ReturnsInHanded {} Tryd.checked os 6 .any ((OpenSpec.ofChange Rows.numRoomsSpec).preRow enc Tryd.prog Tryd.f6 Rows.numRoomsRow.domain false Rows.numRoomsRow.laid) (((OpenSpec.ofChange Rows.numRoomsSpec).at F).post enc Tryd.prog Tryd.f6 false true false false) := by
  obtain ⟨places, hx⟩ := readsNumRooms os enc
  refine returnsInHanded_of_row (C := Tryd.checked) (s := OpenSpec.ofChange Rows.numRoomsSpec) own started (by kernel_rfl) Tryd.func6
    (witness_row_at (enc := enc) (C := Tryd.checked) false (laidWorld os) #[.int .i64 0, .int .i64 0, .bool false] rfl (by kernel_rfl) (by kernel_rfl) (by kernel_rfl)
      (OpenSpec.preRow_of_cond 8 hx (by kernel_rfl) (fun k hk => by cases hk) (by kernel_rfl) (metNumRooms os))) ?_
  intro W base args ds gs before hval hW _ _ _ hL _ _
  exact contractNumRooms H enc W base args ds gs before hval hW hL
theorem saidNumRooms : Rows.NumRoomsSaid :=
  OpenClaim.holds_of_cond 6 Tryd.f6 rfl rfl rfl rfl rfl rfl rfl ⟨rfl, rfl, rfl, rfl, rfl⟩ rfl rfl rfl rfl rfl (by kernel_rfl) Tryd.func6 (by kernel_rfl)
    (of_decide_eq_true (by kernel_rfl)) (by unfold Func.isWrapper; first | (rw [if_pos (by decide +kernel)]; kernel_rfl) | (rw [if_neg (by decide +kernel)]; exact ⟨rfl, rfl⟩))
    (fun os started H enc _ F => by rw [OpenClaim.pre_eq_preRow]; exact liftedNumRooms os started H enc F)
theorem plainNumRooms (f : FuncId) (fn : Func) (hf : Tryd.pinned.checked.prog.funcNamed "erratum/erratumlaw02.NumRooms" = some f) (hfn : Tryd.pinned.checked.prog.funcs[f]? = some fn) :
    true = Tryd.pinned.checked.prog.looks [] ∧ ∀ (j : Nat) t, fn.params[j]? = some t → Tryd.pinned.checked.prog.wantsStandIn t = false := by
  obtain rfl : f = 6 := Option.some.inj ((show Tryd.prog.funcNamed "erratum/erratumlaw02.NumRooms" = some 6 by kernel_rfl).symm.trans hf) |>.symm
  obtain rfl : fn = Tryd.f6 := (Option.some.inj (Tryd.func6.symm.trans hfn)).symm
  refine ⟨by kernel_rfl, fun j t ht => ?_⟩
  rw [Tryd.params6] at ht
  have hm : t = 3 ∨ t = 3 ∨ t = 4 := by simpa using Array.mem_of_getElem? ht
  rcases hm with rfl | rfl | rfl
  · exact (show Tryd.prog.wantsStandIn 3 = false by kernel_rfl)
  · exact (show Tryd.prog.wantsStandIn 3 = false by kernel_rfl)
  · exact (show Tryd.prog.wantsStandIn 4 = false by kernel_rfl)
theorem cardNumRooms : Rows.NumRoomsCardSaid :=
  Claim7.holds_tied_plain_at .later [] _ _ _ _ saidNumRooms (fun _ h => by cases h) (by kernel_rfl) (fun _ h => by cases h) numRooms_row_tie rfl ⟨rfl, rfl⟩ (by kernel_rfl) rfl plainNumRooms (by kernel_rfl)
end Go.Proofs.YtmkdcokdilllcaaDoor.X
