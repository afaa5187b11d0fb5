import Derived.Test.YtmkdcokdilllcaaDoorMt3
import Derived.Test.YtmkdcokdilllcaaDoorMt5
import Derived.Test.YtmkdcokdilllcaaDoorMt6
import Derived.Test.YtmkdcokdilllcaaDoorMt7
-- A walk, written by a program of this session (xp.py).
namespace Go.Proofs.YtmkdcokdilllcaaDoor.X
open Go.RowKit Go.Proofs.YtmkdcokdilllcaaDoorW.PrintWords Go.Proofs.YtmkdcokdilllcaaDoorW.PrintLast Go.Proofs.YtmkdcokdilllcaaDoorW.PrintMore
attribute [local go_sem] max2_int min2_int max_two min_two max_three min_three max_four min_four
set_option linter.unusedVariables false
set_option linter.unusedSimpArgs false

/-! ### erratumref02_Parse: function 11 -/
mutual
def erratumref02_Parse.j0 : Nat → ByteArray → Bool → Option (Bool × List Int × Int × Int)
  | 0, _, _ => none
  | k + 1, x0, x4 => if x4 = true then (erratumref02_Parse.j1 k x0 x4 1) else (erratumref02_Parse.j1 k x0 x4 0)
def erratumref02_Parse.j1 : Nat → ByteArray → Bool → Int → Option (Bool × List Int × Int × Int)
  | 0, _, _, _ => none
  | k + 1, x0, x4, x5 => (erratumref02_run.f k x0 x5).bind fun bt283 => (if bt283.1.toList = ([] : List UInt8) then (erratumref02_Parse.j2 k x0 x4 bt283.2 bt283.1 true) else (if (bt283.1.size : Int) > 1 then (if 0 < (bt283.1.size : Int) then (erratumref02_Parse.j2 k x0 x4 bt283.2 bt283.1 ((bt bt283.1 0) == 48)) else (none)) else (erratumref02_Parse.j2 k x0 x4 bt283.2 bt283.1 false)))
def erratumref02_Parse.j2 : Nat → ByteArray → Bool → Int → ByteArray → Bool → Option (Bool × List Int × Int × Int)
  | 0, _, _, _, _, _ => none
  | k + 1, x0, x4, x5, x6, x46 => if x46 = true then (some (false, ([] : List Int), 0, 2)) else (if x5 < (x0.size : Int) then (if 0 ≤ x5 then (erratumref02_Parse.j3 k x0 x4 x5 x6 (⟨#[]⟩ : ByteArray) ((bt x0 x5) == 46)) else (none)) else (erratumref02_Parse.j3 k x0 x4 x5 x6 (⟨#[]⟩ : ByteArray) false))
def erratumref02_Parse.j3 : Nat → ByteArray → Bool → Int → ByteArray → ByteArray → Bool → Option (Bool × List Int × Int × Int)
  | 0, _, _, _, _, _, _ => none
  | k + 1, x0, x4, x5, x6, x7, x57 => if x57 = true then ((erratumref02_run.f k x0 (wrap64 (x5 + 1))).bind fun bt285 => (if bt285.1.toList = ([] : List UInt8) then (some (false, ([] : List Int), 0, 2)) else (erratumref02_Parse.j4 k x0 x4 bt285.2 x6 bt285.1))) else (erratumref02_Parse.j4 k x0 x4 x5 x6 x7)
def erratumref02_Parse.j4 : Nat → ByteArray → Bool → Int → ByteArray → ByteArray → Option (Bool × List Int × Int × Int)
  | 0, _, _, _, _, _ => none
  | k + 1, x0, x4, x5, x6, x7 => if x5 < (x0.size : Int) then (if 0 ≤ x5 then (if (bt x0 x5) = 101 then (erratumref02_Parse.j5 k x0 x4 x5 x6 x7 (⟨#[]⟩ : ByteArray) false true) else (erratumref02_Parse.j5 k x0 x4 x5 x6 x7 (⟨#[]⟩ : ByteArray) false ((bt x0 x5) == 69))) else (none)) else (erratumref02_Parse.j5 k x0 x4 x5 x6 x7 (⟨#[]⟩ : ByteArray) false false)
def erratumref02_Parse.j5 : Nat → ByteArray → Bool → Int → ByteArray → ByteArray → ByteArray → Bool → Bool → Option (Bool × List Int × Int × Int)
  | 0, _, _, _, _, _, _, _, _ => none
  | k + 1, x0, x4, x5, x6, x7, x8, x9, x83 => if x83 = true then (if (wrap64 (x5 + 1)) < (x0.size : Int) then (if 0 ≤ (wrap64 (x5 + 1)) then (if (bt x0 (wrap64 (x5 + 1))) = 43 then (erratumref02_Parse.j6 k x0 x4 (wrap64 (x5 + 1)) x6 x7 x9 true) else (erratumref02_Parse.j6 k x0 x4 (wrap64 (x5 + 1)) x6 x7 x9 ((bt x0 (wrap64 (x5 + 1))) == 45))) else (none)) else (erratumref02_Parse.j6 k x0 x4 (wrap64 (x5 + 1)) x6 x7 x9 false)) else (erratumref02_Parse.j7 k x0 x4 x5 x6 x7 x8 x9)
def erratumref02_Parse.j7 : Nat → ByteArray → Bool → Int → ByteArray → ByteArray → ByteArray → Bool → Option (Bool × List Int × Int × Int)
  | 0, _, _, _, _, _, _, _ => none
  | k + 1, x0, x4, x5, x6, x7, x8, x9 => if x5 < (x0.size : Int) then (some (false, ([] : List Int), 0, 2)) else (if x6.size + x7.size ≤ 9223372036854775807 then ((erratumref01_Parse.f k (x6 ++ x7)).bind fun bt291 => (if (bt291.1.length : Int) = 0 then (some (false, ([] : List Int), 0, 0)) else ((erratumref02_exponent.f k x8 x9).bind fun bt295 => ((erratumref02_Make.f k x4 bt291.1 (wrap64 (bt295.1 - (x7.size : Int)))).bind fun bt297 => (if bt295.2 = true then (if bt297.2.2.2 = true then (some (bt297.1, bt297.2.1, bt297.2.2.1, 0)) else (some (false, ([] : List Int), 0, 4))) else (some (false, ([] : List Int), 0, 4))))))) else (none))
def erratumref02_Parse.j6 : Nat → ByteArray → Bool → Int → ByteArray → ByteArray → Bool → Bool → Option (Bool × List Int × Int × Int)
  | 0, _, _, _, _, _, _, _ => none
  | k + 1, x0, x4, x5, x6, x7, x9, x101 => if x101 = true then (if 0 ≤ x5 then (if x5 < (x0.size : Int) then ((erratumref02_run.f k x0 (wrap64 (x5 + 1))).bind fun bt287 => (if bt287.1.toList = ([] : List UInt8) then (some (false, ([] : List Int), 0, 2)) else (erratumref02_Parse.j7 k x0 x4 bt287.2 x6 x7 bt287.1 ((bt x0 x5) == 45)))) else (none)) else (none)) else ((erratumref02_run.f k x0 x5).bind fun bt289 => (if bt289.1.toList = ([] : List UInt8) then (some (false, ([] : List Int), 0, 2)) else (erratumref02_Parse.j7 k x0 x4 bt289.2 x6 x7 bt289.1 x9)))
end
def erratumref02_Parse.f (k : Nat) (a0 : ByteArray) : Option (Bool × List Int × Int × Int) := if (a0.size : Int) > 2000 then (some (false, ([] : List Int), 0, 4)) else (if (a0.size : Int) > 0 then (if 0 < (a0.size : Int) then (erratumref02_Parse.j0 k a0 ((bt a0 0) == 45)) else (none)) else (erratumref02_Parse.j0 k a0 false))
set_option maxHeartbeats 8000000 in
set_option maxRecDepth 100000 in
theorem erratumref02_Parse.calls (k : Nat) (a0 : ByteArray) (r1 : Bool) (r2 : List Int) (r3 : Int) (r4 : Int) (w : World) (h : erratumref02_Parse.f k a0 = some (r1, r2, r3, r4)) :
    Calls Tryd.prog 11 #[.string a0] w fun e w' => ∃ v1_ : Value, e = .returned (.tuple #[.agg #[.bool r1, v1_, .int .i64 r3], .int .i64 r4]) ∧ Kd.R (Kd.int .u32) 40 w' w.heap.size (fun _ => True) v1_ r2 ∧ Below w.heap.size w w' := by
  have hu25 := Tryd.underlying25
  have HB := Aside0.mk (Below.refl w.heap.size w)
  have H : (if (a0.size : Int) > 2000 then (some (false, ([] : List Int), 0, 4)) else (if (a0.size : Int) > 0 then (if 0 < (a0.size : Int) then (erratumref02_Parse.j0 k a0 ((bt a0 0) == 45)) else (none)) else (erratumref02_Parse.j0 k a0 false))) = some (r1, r2, r3, r4) := h
  clear h
  by_cases c2 : (a0.size : Int) > 2000
  · rw [if_pos c2] at H
    have c2b0 : decide (2000 < (a0.size : Int)) = true := decide_eq_true c2
    have c2b1 : decide (2000 < a0.size) = true := decide_eq_true (by omega)
    clear c2
    simp only [Option.some.injEq, Prod.mk.injEq] at H
    obtain ⟨rfl, rfl, rfl, rfl⟩ := H
    go_enter Tryd.func11, Tryd.ntmps11
    go_wp2_with (first | ((with_reducible refine gate_dst (N := 2) rfl ?_); (try (refine gate_guard (by rfl) ?_; dsimp only)); refine box_event ?hg (N := 2) ?hd (cs := #[.bool false, .slice none 0 0, .int .i64 0]) (t := 25) ?hr ?_; (case hd => rfl); (case hg => rfl); (case hr => first | (go_simp; done) | (go_simp; rfl) | (go_simp; simp only [x_u32u8, x_u8, x_u32, x_u64, x_mm]; first | done | rfl)); intro gb282 hg w3 hbox hb; have n0_ := Aside0.mk (below_step (by repeat (first | (with_reducible first | exact HB.out | apply below_alloc | apply pw_below_drewN | apply below_drew1) | exact HB.out)) hb); have n1_ := Aside0.mk (hbox); have n2_ := Aside0.mk ((by rw [hg]; exact (below_size (by repeat (first | (with_reducible first | exact HB.out | apply below_alloc | apply pw_below_drewN | apply below_drew1) | exact HB.out))) : w.heap.size ≤ gb282)); have n3_ := Aside0.mk ((by rw [hg]; exact (below_size (by repeat (first | (with_reducible first | exact HB.out | apply below_alloc | apply pw_below_drewN | apply below_drew1) | exact HB.out))) : w.heap.size ≤ gb282)); clear HB; have HB := n0_; have BK282 := n1_; have GW282 := n2_; have GE282 := n3_; clear n0_ n1_ n2_ n3_; clear hb hbox hg; have hcz4_0 : w3.cell? ⟨gb282, 0, none⟩ = some (.bool false) := (blk_cell BK282.out 0).trans rfl; have hcz4_1 : w3.cell? ⟨gb282, 1, none⟩ = some (.slice none 0 0) := (blk_cell BK282.out 1).trans rfl; have hcz4_2 : w3.cell? ⟨gb282, 2, none⟩ = some (.int .i64 0) := (blk_cell BK282.out 2).trans rfl; have hfz4_0 := blk_frozen BK282.out 0; have hfz4_1 := blk_frozen BK282.out 1; have hfz4_2 := blk_frozen BK282.out 2))
    try (any_goals (with_reducible refine halt_absurd ?_; (try simp only [ByteArray.size_extract, ByteArray.size_append, ba_size_mk, List.size_toArray, List.length_cons, List.length_nil] at *) <;> omega))
    refine bodyPost_ret (results_ct rfl _ _ gb282 25 #[.bool false, .slice none 0 0, .int .i64 0] (0, 0) _ rfl (by (with_reducible repeat (first | refine blk_drewN ?_ _ | refine blk_drew ?_ | refine blk_alloc ?_ _)); refine blk_put (cs := #[.bool false, .slice none 0 0, .int .i64 0]) ?_ 2 _ rfl; (with_reducible repeat (first | refine blk_drewN ?_ _ | refine blk_drew ?_ | refine blk_alloc ?_ _)); refine blk_put (cs := #[.bool false, .slice none 0 0, .int .i64 0]) ?_ 1 _ rfl; (with_reducible repeat (first | refine blk_drewN ?_ _ | refine blk_drew ?_ | refine blk_alloc ?_ _)); refine blk_put (cs := #[.bool false, .slice none 0 0, .int .i64 0]) ?_ 0 _ rfl; (with_reducible repeat (first | refine blk_drewN ?_ _ | refine blk_drew ?_ | refine blk_alloc ?_ _)); exact BK282.out) Tryd.underlying25 rfl (by kernel_rfl)) rfl ?_
    exact ⟨_, by first | rfl | (simp [errW_none, errW_some] <;> rfl) | (simp [*, errW_none, errW_some] <;> rfl), by first | exact Kd.R_nil _ _ _ _ _ | exact Kd.N_nil _ _ _ _ _ | exact Kd.V_nil _ _ _ _ _ | exact Kd.Q_nil _ _ _ _ _ | exact Kd.S_nil _ _ _ _ _, by repeat (first | (with_reducible first | exact HB.out | apply below_alloc | apply pw_below_drewN | apply below_drew1 | refine below_set ?_ GE282.out) | exact HB.out)⟩
  · rw [if_neg c2] at H
    have c2b0 : decide (2000 < (a0.size : Int)) = false := decide_eq_false c2
    have c2b1 : decide (2000 < a0.size) = false := decide_eq_false (by omega)
    clear c2
    have HC5 := Aside0.mk H
    clear H
    go_enter Tryd.func11, Tryd.ntmps11
    go_upto_region 3 with (first | ((with_reducible refine gate_dst (N := 2) rfl ?_); (try (refine gate_guard (by rfl) ?_; dsimp only)); refine box_event ?hg (N := 2) ?hd (cs := #[.bool false, .slice none 0 0, .int .i64 0]) (t := 25) ?hr ?_; (case hd => rfl); (case hg => rfl); (case hr => first | (go_simp; done) | (go_simp; rfl) | (go_simp; simp only [x_u32u8, x_u8, x_u32, x_u64, x_mm]; first | done | rfl)); intro gb282 hg w6 hbox hb; have n0_ := Aside0.mk (below_step (by repeat (first | (with_reducible first | exact HB.out | apply below_alloc | apply pw_below_drewN | apply below_drew1) | exact HB.out)) hb); have n1_ := Aside0.mk (hbox); have n2_ := Aside0.mk ((by rw [hg]; exact (below_size (by repeat (first | (with_reducible first | exact HB.out | apply below_alloc | apply pw_below_drewN | apply below_drew1) | exact HB.out))) : w.heap.size ≤ gb282)); have n3_ := Aside0.mk ((by rw [hg]; exact (below_size (by repeat (first | (with_reducible first | exact HB.out | apply below_alloc | apply pw_below_drewN | apply below_drew1) | exact HB.out))) : w.heap.size ≤ gb282)); clear HB; have HB := n0_; have BK282 := n1_; have GW282 := n2_; have GE282 := n3_; clear n0_ n1_ n2_ n3_; clear hb hbox hg))
    (try simp only [Act.put, List.setIfInBounds_toArray, List.set_cons_zero, List.set_cons_succ])
    go_cut [4] (fun v4 wc => ∃ (kq : Nat) (x4_4 : Bool), v4 = .bool x4_4 ∧ Aside0 (erratumref02_Parse.j0 kq a0 x4_4 = some (r1, r2, r3, r4)) ∧ Aside0 (kq ≤ k) ∧ Aside0 (wc.heap[gb282]? = some (.cells #[.bool false, (.slice none 0 0), .int .i64 0] 25 (0, 0))) ∧ Aside0 (Below w.heap.size w wc))
    case first =>
      have H := HC5.out
      clear HC5
      by_cases c7 : (a0.size : Int) > 0
      · rw [if_pos c7] at H
        have c7b0 : decide (0 < (a0.size : Int)) = true := decide_eq_true c7
        have c7b1 : decide (0 < a0.size) = true := decide_eq_true (by omega)
        clear c7
        (first | rw [c7b0] | (simp only [i64_w, i32_w]; rw [c7b0]) | skip)
        by_cases c8 : 0 < (a0.size : Int)
        · rw [if_pos c8] at H
          have c8b0 : decide (0 < (a0.size : Int)) = true := decide_eq_true c8
          have c8b1 : decide (0 < a0.size) = true := decide_eq_true (by omega)
          clear c8
          have H' := Aside0.mk H
          clear H
          have p9 : 0 ≤ (0 : Int) := (by omega)
          have q9 : 0 < a0.size := (by have : (0 : Int) < (a0.size : Int) := of_decide_eq_true (by first | (with_reducible assumption) | assumption); omega)
          have hx9 : ∀ h : 0 < a0.size, ((a0[0]'h).toNat : Int) = bt a0 0 := bt_at a0 0
          clear p9
          have qi9 : (0 < (a0.size : Int)) = True := eq_true (of_decide_eq_true (by first | (with_reducible assumption) | assumption))
          replace q9 := eq_true q9
          go_wp2
          try (any_goals (with_reducible refine halt_absurd ?_; (try simp only [ByteArray.size_extract, ByteArray.size_append, ba_size_mk, List.size_toArray, List.length_cons, List.length_nil] at *) <;> omega))
          go_meet
          case rel => exact ⟨_, (((bt a0 0) == 45)), (by first | rfl | (simp; done) | (simp [*]; done)), H', ⟨by first | omega | exact Nat.le_refl _⟩, ⟨by (with_reducible repeat (first | refine blk_drewN ?_ _ | refine blk_drew ?_ | refine blk_alloc ?_ _)); exact BK282.out⟩, ⟨by repeat (first | (with_reducible first | exact HB.out | apply below_alloc | apply pw_below_drewN | apply below_drew1 | refine below_set ?_ GE282.out) | exact HB.out)⟩⟩
        · rw [if_neg c8] at H
          exact absurd H (by simp)
      · rw [if_neg c7] at H
        have c7b0 : decide (0 < (a0.size : Int)) = false := decide_eq_false c7
        have c7b1 : decide (0 < a0.size) = false := decide_eq_false (by omega)
        clear c7
        (first | rw [c7b0] | (simp only [i64_w, i32_w]; rw [c7b0]) | skip)
        have H' := Aside0.mk H
        clear H
        go_wp2
        try (any_goals (with_reducible refine halt_absurd ?_; (try simp only [ByteArray.size_extract, ByteArray.size_append, ba_size_mk, List.size_toArray, List.length_cons, List.length_nil] at *) <;> omega))
        go_meet
        case rel => exact ⟨_, (false), (by first | rfl | (simp; done) | (simp [*]; done)), H', ⟨by first | omega | exact Nat.le_refl _⟩, ⟨by (with_reducible repeat (first | refine blk_drewN ?_ _ | refine blk_drew ?_ | refine blk_alloc ?_ _)); exact BK282.out⟩, ⟨by repeat (first | (with_reducible first | exact HB.out | apply below_alloc | apply pw_below_drewN | apply below_drew1 | refine below_set ?_ GE282.out) | exact HB.out)⟩⟩
    case rest =>
      clear HC5
      try clear c1
      try clear c2
      try clear c2b0
      try clear c2b1
      try clear p2
      try clear c7
      try clear c7b0
      try clear c7b1
      try clear c8
      try clear c8b0
      try clear c8b1
      try clear p9
      try clear q9
      try clear hx9
      try clear qi9
      try clear hcz4_0
      try clear hcz4_1
      try clear hcz4_2
      try clear hfz4_0
      try clear hfz4_1
      try clear hfz4_2
      try clear p9
      try clear q9
      obtain ⟨kq, x4_4, rfl, HA, HJ4, BK282, HB⟩ := hcut
      cases kq with
      | zero => exact absurd HA.out (by simp [erratumref02_Parse.j0])
      | succ kj4 =>
        have H := HA.out
        clear HA
        simp only [erratumref02_Parse.j0] at H
        have HC10 := Aside0.mk H
        clear H
        go_upto_if 28 with (fail)
        go_cut [5] (fun v5 wc => ∃ (kq : Nat) (x5_9 : Int), v5 = .int .i64 x5_9 ∧ Aside0 (erratumref02_Parse.j1 kq a0 x4_4 x5_9 = some (r1, r2, r3, r4)) ∧ Aside0 (kq ≤ kj4) ∧ Aside0 (wc.heap[gb282]? = some (.cells #[.bool false, (.slice none 0 0), .int .i64 0] 25 (0, 0))) ∧ Aside0 (Below w.heap.size w wc))
        case first =>
          have H := HC10.out
          clear HC10
          by_cases c11 : x4_4 = true
          · subst c11
            have H1 : (erratumref02_Parse.j1 kj4 a0 true 1) = some (r1, r2, r3, r4) := by rw [if_pos rfl] at H; exact H
            clear H
            have H := H1
            clear H1
            have H' := Aside0.mk H
            clear H
            go_wp2
            try (any_goals (with_reducible refine halt_absurd ?_; (try simp only [ByteArray.size_extract, ByteArray.size_append, ba_size_mk, List.size_toArray, List.length_cons, List.length_nil] at *) <;> omega))
            go_meet
            case rel => exact ⟨_, (1), (by first | rfl | (simp; done) | (simp [*]; done)), H', ⟨by have := HJ4.out; first | omega | exact Nat.le_refl _⟩, ⟨by (with_reducible repeat (first | refine blk_drewN ?_ _ | refine blk_drew ?_ | refine blk_alloc ?_ _)); exact BK282.out⟩, ⟨by repeat (first | (with_reducible first | exact HB.out | apply below_alloc | apply pw_below_drewN | apply below_drew1 | refine below_set ?_ GE282.out) | exact HB.out)⟩⟩
          · replace c11 := Bool.eq_false_iff.mpr c11
            subst c11
            have H1 : (erratumref02_Parse.j1 kj4 a0 false 0) = some (r1, r2, r3, r4) := by rw [if_neg (show ¬ (false = true) by decide)] at H; exact H
            clear H
            have H := H1
            clear H1
            have H' := Aside0.mk H
            clear H
            go_wp2
            try (any_goals (with_reducible refine halt_absurd ?_; (try simp only [ByteArray.size_extract, ByteArray.size_append, ba_size_mk, List.size_toArray, List.length_cons, List.length_nil] at *) <;> omega))
            go_meet
            case rel => exact ⟨_, (0), (by first | rfl | (simp; done) | (simp [*]; done)), H', ⟨by have := HJ4.out; first | omega | exact Nat.le_refl _⟩, ⟨by (with_reducible repeat (first | refine blk_drewN ?_ _ | refine blk_drew ?_ | refine blk_alloc ?_ _)); exact BK282.out⟩, ⟨by repeat (first | (with_reducible first | exact HB.out | apply below_alloc | apply pw_below_drewN | apply below_drew1 | refine below_set ?_ GE282.out) | exact HB.out)⟩⟩
        case rest =>
          clear HC10
          try clear c1
          try clear c2
          try clear c2b0
          try clear c2b1
          try clear p2
          try clear c7
          try clear c7b0
          try clear c7b1
          try clear c8
          try clear c8b0
          try clear c8b1
          try clear p9
          try clear q9
          try clear hx9
          try clear qi9
          try clear c11
          try clear hcz4_0
          try clear hcz4_1
          try clear hcz4_2
          try clear hfz4_0
          try clear hfz4_1
          try clear hfz4_2
          try clear p2
          try clear p9
          try clear q9
          obtain ⟨kq, x5_9, rfl, HA, HJ9, BK282, HB⟩ := hcut
          cases kq with
          | zero => exact absurd HA.out (by simp [erratumref02_Parse.j1])
          | succ kj9 =>
            have H := HA.out
            clear HA
            simp only [erratumref02_Parse.j1] at H
            replace H := Option.bind_eq_some_iff.mp H
            obtain ⟨⟨t283, t284⟩, A120, H⟩ := H
            replace H : (if t283.toList = ([] : List UInt8) then (erratumref02_Parse.j2 kj9 a0 x4_4 t284 t283 true) else (if (t283.size : Int) > 1 then (if 0 < (t283.size : Int) then (erratumref02_Parse.j2 kj9 a0 x4_4 t284 t283 ((bt t283 0) == 48)) else (none)) else (erratumref02_Parse.j2 kj9 a0 x4_4 t284 t283 false))) = some (r1, r2, r3, r4) := H
            have A12 := Aside0.mk A120
            clear A120
            have HC13 := Aside0.mk H
            clear H
            go_upto_region 8 with (first | ((with_reducible refine gate_callee (f := 27) rfl ?_); refine goesL_ (some 32) rfl rfl Tryd.func27 (by kernel_rfl) rfl #[.string a0, .int .i64 x5_9] rfl (by (try simp only [List.map_toArray, List.map_cons, List.map_nil]); first | done | rfl | (simp only [List.length_drop, List.length_take]; rfl)) ?_; (with_reducible refine (erratumref02_run.calls kj9 a0 x5_9 t283 t284 _ A12.out).mono ?_); rintro e w' ⟨rfl, ⟨nd, rfl⟩⟩; refine ⟨_, rfl, ?_⟩))
            (try simp only [Act.put, List.setIfInBounds_toArray, List.set_cons_zero, List.set_cons_succ])
            go_cut [46] (fun v46 wc => ∃ (kq : Nat) (x46_12 : Bool), v46 = .bool x46_12 ∧ Aside0 (erratumref02_Parse.j2 kq a0 x4_4 t284 t283 x46_12 = some (r1, r2, r3, r4)) ∧ Aside0 (kq ≤ kj9) ∧ Aside0 (wc.heap[gb282]? = some (.cells #[.bool false, (.slice none 0 0), .int .i64 0] 25 (0, 0))) ∧ Aside0 (Below w.heap.size w wc))
            case first =>
              have H := HC13.out
              clear HC13
              by_cases c14 : t283.toList = ([] : List UInt8)
              · rw [if_pos c14] at H
                have c14b0 : (t283.toList == ([] : List UInt8)) = true := beq_iff_eq.mpr c14
                have c14b1 : (t283.toList != ([] : List UInt8)) = false := bne_eq_false_iff_eq.mpr c14
                clear c14
                (first | rw [c14b0] | (simp only [i64_w, i32_w]; rw [c14b0]) | skip)
                have H' := Aside0.mk H
                clear H
                go_wp2
                try (any_goals (with_reducible refine halt_absurd ?_; (try simp only [ByteArray.size_extract, ByteArray.size_append, ba_size_mk, List.size_toArray, List.length_cons, List.length_nil] at *) <;> omega))
                go_meet
                case rel => exact ⟨_, (true), (by first | rfl | (simp; done) | (simp [*]; done)), H', ⟨by have := HJ4.out; have := HJ9.out; first | omega | exact Nat.le_refl _⟩, ⟨by (with_reducible repeat (first | refine blk_drewN ?_ _ | refine blk_drew ?_ | refine blk_alloc ?_ _)); exact BK282.out⟩, ⟨by repeat (first | (with_reducible first | exact HB.out | apply below_alloc | apply pw_below_drewN | apply below_drew1 | refine below_set ?_ GE282.out) | exact HB.out)⟩⟩
              · rw [if_neg c14] at H
                have c14b0 : (t283.toList == ([] : List UInt8)) = false := beq_eq_false_iff_ne.mpr c14
                have c14b1 : (t283.toList != ([] : List UInt8)) = true := bne_iff_ne.mpr c14
                (first | rw [c14b0] | (simp only [i64_w, i32_w]; rw [c14b0]) | skip)
                by_cases c15 : (t283.size : Int) > 1
                · rw [if_pos c15] at H
                  have c15b0 : decide (1 < (t283.size : Int)) = true := decide_eq_true c15
                  have c15b1 : decide (1 < t283.size) = true := decide_eq_true (by omega)
                  clear c15
                  by_cases c16 : 0 < (t283.size : Int)
                  · rw [if_pos c16] at H
                    have c16b0 : decide (0 < (t283.size : Int)) = true := decide_eq_true c16
                    have c16b1 : decide (0 < t283.size) = true := decide_eq_true (by omega)
                    clear c16
                    have H' := Aside0.mk H
                    clear H
                    have p17 : 0 ≤ (0 : Int) := (by omega)
                    have q17 : 0 < t283.size := (by have : (0 : Int) < (t283.size : Int) := of_decide_eq_true (by first | (with_reducible assumption) | assumption); omega)
                    have hx17 : ∀ h : 0 < t283.size, ((t283[0]'h).toNat : Int) = bt t283 0 := bt_at t283 0
                    clear p17
                    have qi17 : (0 < (t283.size : Int)) = True := eq_true (of_decide_eq_true (by first | (with_reducible assumption) | assumption))
                    replace q17 := eq_true q17
                    go_wp2
                    try (any_goals (with_reducible refine halt_absurd ?_; (try simp only [ByteArray.size_extract, ByteArray.size_append, ba_size_mk, List.size_toArray, List.length_cons, List.length_nil] at *) <;> omega))
                    go_meet
                    case rel => exact ⟨_, (((bt t283 0) == 48)), (by first | rfl | (simp; done) | (simp [*]; done)), H', ⟨by have := HJ4.out; have := HJ9.out; first | omega | exact Nat.le_refl _⟩, ⟨by (with_reducible repeat (first | refine blk_drewN ?_ _ | refine blk_drew ?_ | refine blk_alloc ?_ _)); exact BK282.out⟩, ⟨by repeat (first | (with_reducible first | exact HB.out | apply below_alloc | apply pw_below_drewN | apply below_drew1 | refine below_set ?_ GE282.out) | exact HB.out)⟩⟩
                  · rw [if_neg c16] at H
                    exact absurd H (by simp)
                · rw [if_neg c15] at H
                  have c15b0 : decide (1 < (t283.size : Int)) = false := decide_eq_false c15
                  have c15b1 : decide (1 < t283.size) = false := decide_eq_false (by omega)
                  clear c15
                  have H' := Aside0.mk H
                  clear H
                  go_wp2
                  try (any_goals (with_reducible refine halt_absurd ?_; (try simp only [ByteArray.size_extract, ByteArray.size_append, ba_size_mk, List.size_toArray, List.length_cons, List.length_nil] at *) <;> omega))
                  go_meet
                  case rel => exact ⟨_, (false), (by first | rfl | (simp; done) | (simp [*]; done)), H', ⟨by have := HJ4.out; have := HJ9.out; first | omega | exact Nat.le_refl _⟩, ⟨by (with_reducible repeat (first | refine blk_drewN ?_ _ | refine blk_drew ?_ | refine blk_alloc ?_ _)); exact BK282.out⟩, ⟨by repeat (first | (with_reducible first | exact HB.out | apply below_alloc | apply pw_below_drewN | apply below_drew1 | refine below_set ?_ GE282.out) | exact HB.out)⟩⟩
            case rest =>
              clear HC13
              try clear c1
              try clear p1
              try clear q1
              try clear hx1
              try clear qi1
              try clear c2
              try clear c2b0
              try clear c2b1
              try clear p2
              try clear c7
              try clear c7b0
              try clear c7b1
              try clear c8
              try clear c8b0
              try clear c8b1
              try clear p9
              try clear q9
              try clear hx9
              try clear qi9
              try clear c11
              try clear c14
              try clear c14b0
              try clear c14b1
              try clear c15
              try clear c15b0
              try clear c15b1
              try clear c16
              try clear c16b0
              try clear c16b1
              try clear p17
              try clear q17
              try clear hx17
              try clear qi17
              try clear hcz4_0
              try clear hcz4_1
              try clear hcz4_2
              try clear hfz4_0
              try clear hfz4_1
              try clear hfz4_2
              try clear p17
              try clear p2
              try clear p9
              try clear q17
              try clear q9
              obtain ⟨kq, x46_12, rfl, HA, HJ12, BK282, HB⟩ := hcut
              cases kq with
              | zero => exact absurd HA.out (by simp [erratumref02_Parse.j2])
              | succ kj12 =>
                have H := HA.out
                clear HA
                simp only [erratumref02_Parse.j2] at H
                by_cases c18 : x46_12 = true
                · subst c18
                  have H1 : (some (false, ([] : List Int), 0, 2)) = some (r1, r2, r3, r4) := by rw [if_pos rfl] at H; exact H
                  clear H
                  have H := H1
                  clear H1
                  simp only [Option.some.injEq, Prod.mk.injEq] at H
                  obtain ⟨rfl, rfl, rfl, rfl⟩ := H
                  have hcz19_0 : wc.cell? ⟨gb282, 0, none⟩ = some (.bool false) := (blk_cell BK282.out 0).trans rfl
                  have hcz19_1 : wc.cell? ⟨gb282, 1, none⟩ = some (.slice none 0 0) := (blk_cell BK282.out 1).trans rfl
                  have hcz19_2 : wc.cell? ⟨gb282, 2, none⟩ = some (.int .i64 0) := (blk_cell BK282.out 2).trans rfl
                  have hfz19_0 := blk_frozen BK282.out 0
                  have hfz19_1 := blk_frozen BK282.out 1
                  have hfz19_2 := blk_frozen BK282.out 2
                  go_wp2
                  try (any_goals (with_reducible refine halt_absurd ?_; (try simp only [ByteArray.size_extract, ByteArray.size_append, ba_size_mk, List.size_toArray, List.length_cons, List.length_nil] at *) <;> omega))
                  refine bodyPost_ret (results_ct rfl _ _ gb282 25 #[.bool false, .slice none 0 0, .int .i64 0] (0, 0) _ rfl (by (with_reducible repeat (first | refine blk_drewN ?_ _ | refine blk_drew ?_ | refine blk_alloc ?_ _)); refine blk_put (cs := #[.bool false, .slice none 0 0, .int .i64 0]) ?_ 2 _ rfl; (with_reducible repeat (first | refine blk_drewN ?_ _ | refine blk_drew ?_ | refine blk_alloc ?_ _)); refine blk_put (cs := #[.bool false, .slice none 0 0, .int .i64 0]) ?_ 1 _ rfl; (with_reducible repeat (first | refine blk_drewN ?_ _ | refine blk_drew ?_ | refine blk_alloc ?_ _)); refine blk_put (cs := #[.bool false, .slice none 0 0, .int .i64 0]) ?_ 0 _ rfl; (with_reducible repeat (first | refine blk_drewN ?_ _ | refine blk_drew ?_ | refine blk_alloc ?_ _)); exact BK282.out) Tryd.underlying25 rfl (by kernel_rfl)) rfl ?_
                  exact ⟨_, by first | rfl | (simp [errW_none, errW_some] <;> rfl) | (simp [*, errW_none, errW_some] <;> rfl), by first | exact Kd.R_nil _ _ _ _ _ | exact Kd.N_nil _ _ _ _ _ | exact Kd.V_nil _ _ _ _ _ | exact Kd.Q_nil _ _ _ _ _ | exact Kd.S_nil _ _ _ _ _, by repeat (first | (with_reducible first | exact HB.out | apply below_alloc | apply pw_below_drewN | apply below_drew1 | refine below_set ?_ GE282.out) | exact HB.out)⟩
                · replace c18 := Bool.eq_false_iff.mpr c18
                  subst c18
                  have H1 : (if t284 < (a0.size : Int) then (if 0 ≤ t284 then (erratumref02_Parse.j3 kj12 a0 x4_4 t284 t283 (⟨#[]⟩ : ByteArray) ((bt a0 t284) == 46)) else (none)) else (erratumref02_Parse.j3 kj12 a0 x4_4 t284 t283 (⟨#[]⟩ : ByteArray) false)) = some (r1, r2, r3, r4) := by rw [if_neg (show ¬ (false = true) by decide)] at H; exact H
                  clear H
                  have H := H1
                  clear H1
                  have HC20 := Aside0.mk H
                  clear H
                  go_upto_region 11 with (fail)
                  go_cut [57] (fun v57 wc => ∃ (kq : Nat) (x57_19 : Bool), v57 = .bool x57_19 ∧ Aside0 (erratumref02_Parse.j3 kq a0 x4_4 t284 t283 (⟨#[]⟩ : ByteArray) x57_19 = some (r1, r2, r3, r4)) ∧ Aside0 (kq ≤ kj12) ∧ Aside0 (wc.heap[gb282]? = some (.cells #[.bool false, (.slice none 0 0), .int .i64 0] 25 (0, 0))) ∧ Aside0 (Below w.heap.size w wc))
                  case first =>
                    have H := HC20.out
                    clear HC20
                    by_cases c21 : t284 < (a0.size : Int)
                    · rw [if_pos c21] at H
                      have c21b0 : decide (t284 < (a0.size : Int)) = true := decide_eq_true c21
                      clear c21
                      (first | rw [c21b0] | (simp only [i64_w, i32_w]; rw [c21b0]) | skip)
                      by_cases c22 : 0 ≤ t284
                      · rw [if_pos c22] at H
                        have c22b0 : decide (0 ≤ t284) = true := decide_eq_true c22
                        clear c22
                        have H' := Aside0.mk H
                        clear H
                        have p23 : 0 ≤ (t284 : Int) := of_decide_eq_true (by first | (with_reducible assumption) | assumption)
                        have q23 : t284 < (a0.size : Int) := of_decide_eq_true (by first | (with_reducible assumption) | assumption)
                        have hx23 := bt_at a0 t284
                        replace p23 := eq_true p23
                        replace q23 := eq_true q23
                        go_wp2
                        try (any_goals (with_reducible refine halt_absurd ?_; (try simp only [ByteArray.size_extract, ByteArray.size_append, ba_size_mk, List.size_toArray, List.length_cons, List.length_nil] at *) <;> omega))
                        go_meet
                        case rel => exact ⟨_, (((bt a0 t284) == 46)), (by first | rfl | (simp; done) | (simp [*]; done)), H', ⟨by have := HJ4.out; have := HJ9.out; have := HJ12.out; first | omega | exact Nat.le_refl _⟩, ⟨by (with_reducible repeat (first | refine blk_drewN ?_ _ | refine blk_drew ?_ | refine blk_alloc ?_ _)); exact BK282.out⟩, ⟨by repeat (first | (with_reducible first | exact HB.out | apply below_alloc | apply pw_below_drewN | apply below_drew1 | refine below_set ?_ GE282.out) | exact HB.out)⟩⟩
                      · rw [if_neg c22] at H
                        exact absurd H (by simp)
                    · rw [if_neg c21] at H
                      have c21b0 : decide (t284 < (a0.size : Int)) = false := decide_eq_false c21
                      clear c21
                      (first | rw [c21b0] | (simp only [i64_w, i32_w]; rw [c21b0]) | skip)
                      have H' := Aside0.mk H
                      clear H
                      go_wp2
                      try (any_goals (with_reducible refine halt_absurd ?_; (try simp only [ByteArray.size_extract, ByteArray.size_append, ba_size_mk, List.size_toArray, List.length_cons, List.length_nil] at *) <;> omega))
                      go_meet
                      case rel => exact ⟨_, (false), (by first | rfl | (simp; done) | (simp [*]; done)), H', ⟨by have := HJ4.out; have := HJ9.out; have := HJ12.out; first | omega | exact Nat.le_refl _⟩, ⟨by (with_reducible repeat (first | refine blk_drewN ?_ _ | refine blk_drew ?_ | refine blk_alloc ?_ _)); exact BK282.out⟩, ⟨by repeat (first | (with_reducible first | exact HB.out | apply below_alloc | apply pw_below_drewN | apply below_drew1 | refine below_set ?_ GE282.out) | exact HB.out)⟩⟩
                  case rest =>
                    clear HC20
                    try clear c1
                    try clear p1
                    try clear q1
                    try clear hx1
                    try clear qi1
                    try clear c2
                    try clear c2b0
                    try clear c2b1
                    try clear p2
                    try clear q2
                    try clear hx2
                    try clear c7
                    try clear c7b0
                    try clear c7b1
                    try clear c8
                    try clear c8b0
                    try clear c8b1
                    try clear p9
                    try clear q9
                    try clear hx9
                    try clear qi9
                    try clear c11
                    try clear c14
                    try clear c14b0
                    try clear c14b1
                    try clear c15
                    try clear c15b0
                    try clear c15b1
                    try clear c16
                    try clear c16b0
                    try clear c16b1
                    try clear p17
                    try clear q17
                    try clear hx17
                    try clear qi17
                    try clear c18
                    try clear c21
                    try clear c21b0
                    try clear c22
                    try clear c22b0
                    try clear p23
                    try clear q23
                    try clear hx23
                    try clear hcz19_0
                    try clear hcz19_1
                    try clear hcz19_2
                    try clear hcz4_0
                    try clear hcz4_1
                    try clear hcz4_2
                    try clear hfz19_0
                    try clear hfz19_1
                    try clear hfz19_2
                    try clear hfz4_0
                    try clear hfz4_1
                    try clear hfz4_2
                    try clear p1
                    try clear p17
                    try clear p2
                    try clear p23
                    try clear p9
                    try clear q1
                    try clear q17
                    try clear q23
                    try clear q9
                    obtain ⟨kq, x57_19, rfl, HA, HJ19, BK282, HB⟩ := hcut
                    cases kq with
                    | zero => exact absurd HA.out (by simp [erratumref02_Parse.j3])
                    | succ kj19 =>
                      have H := HA.out
                      clear HA
                      simp only [erratumref02_Parse.j3] at H
                      have HC24 := Aside0.mk H
                      clear H
                      go_upto_if 57 with (fail)
                      go_cut [5, 7] (fun v5 v7 wc => ∃ (kq : Nat) (x5_23 : Int) (x7_23 : ByteArray) (x283000_23 : Bool) (x283002_23 : Int), v5 = .int .i64 x5_23 ∧ v7 = .string x7_23 ∧ Aside0 (erratumref02_Parse.j4 kq a0 x4_4 x5_23 t283 x7_23 = some (r1, r2, r3, r4)) ∧ Aside0 (kq ≤ kj19) ∧ Aside0 (wc.heap[gb282]? = some (.cells #[.bool x283000_23, (.slice none 0 0), .int .i64 x283002_23] 25 (0, 0))) ∧ Aside0 (Below w.heap.size w wc))
                      case first =>
                        have H := HC24.out
                        clear HC24
                        by_cases c25 : x57_19 = true
                        · subst c25
                          have H1 : ((erratumref02_run.f kj19 a0 (wrap64 (t284 + 1))).bind fun bt285 => (if bt285.1.toList = ([] : List UInt8) then (some (false, ([] : List Int), 0, 2)) else (erratumref02_Parse.j4 kj19 a0 x4_4 bt285.2 t283 bt285.1))) = some (r1, r2, r3, r4) := by rw [if_pos rfl] at H; exact H
                          clear H
                          have H := H1
                          clear H1
                          replace H := Option.bind_eq_some_iff.mp H
                          obtain ⟨⟨t285, t286⟩, A260, H⟩ := H
                          replace H : (if t285.toList = ([] : List UInt8) then (some (false, ([] : List Int), 0, 2)) else (erratumref02_Parse.j4 kj19 a0 x4_4 t286 t283 t285)) = some (r1, r2, r3, r4) := H
                          have A26 := Aside0.mk A260
                          clear A260
                          by_cases c27 : t285.toList = ([] : List UInt8)
                          · rw [if_pos c27] at H
                            have c27b0 : (t285.toList == ([] : List UInt8)) = true := beq_iff_eq.mpr c27
                            have c27b1 : (t285.toList != ([] : List UInt8)) = false := bne_eq_false_iff_eq.mpr c27
                            clear c27
                            (first | rw [c27b0] | (simp only [i64_w, i32_w]; rw [c27b0]) | skip)
                            simp only [Option.some.injEq, Prod.mk.injEq] at H
                            obtain ⟨rfl, rfl, rfl, rfl⟩ := H
                            go_wp2_with (first | ((with_reducible refine gate_callee (f := 27) rfl ?_); refine goesL_ (some 62) rfl rfl Tryd.func27 (by kernel_rfl) rfl #[.string a0, .int .i64 (wrap64 (t284 + 1))] rfl (by (try simp only [List.map_toArray, List.map_cons, List.map_nil]); first | done | rfl | (simp only [List.length_drop, List.length_take]; rfl)) ?_; (with_reducible refine (erratumref02_run.calls kj19 a0 (wrap64 (t284 + 1)) t285 t286 _ A26.out).mono ?_); rintro e w' ⟨rfl, ⟨nd, rfl⟩⟩; refine ⟨_, rfl, ?_⟩; (try (rw [drewN_self wc]; generalize hq_ : World.drewN wc _ = wc; have n0_ : Aside0 (wc.heap[gb282]? = some (.cells #[.bool false, .slice none 0 0, .int .i64 0] 25 (0, 0))) := ⟨by rw [← hq_]; exact (by (with_reducible repeat (first | refine blk_drewN ?_ _ | refine blk_drew ?_ | refine blk_alloc ?_ _)); exact BK282.out)⟩; have n1_ : Aside0 (Below w.heap.size w wc) := ⟨by rw [← hq_]; exact (by repeat (first | (with_reducible first | exact HB.out | apply below_alloc | apply pw_below_drewN | apply below_drew1 | refine below_set ?_ GE282.out) | exact HB.out))⟩; clear BK282 HB hq_; have BK282 := n0_; have HB := n1_; clear n0_ n1_)); have hcz28_0 : wc.cell? ⟨gb282, 0, none⟩ = some (.bool false) := (blk_cell BK282.out 0).trans rfl; have hcz28_1 : wc.cell? ⟨gb282, 1, none⟩ = some (.slice none 0 0) := (blk_cell BK282.out 1).trans rfl; have hcz28_2 : wc.cell? ⟨gb282, 2, none⟩ = some (.int .i64 0) := (blk_cell BK282.out 2).trans rfl; have hfz28_0 := blk_frozen BK282.out 0; have hfz28_1 := blk_frozen BK282.out 1; have hfz28_2 := blk_frozen BK282.out 2))
                            try (any_goals (with_reducible refine halt_absurd ?_; (try simp only [ByteArray.size_extract, ByteArray.size_append, ba_size_mk, List.size_toArray, List.length_cons, List.length_nil] at *) <;> omega))
                            refine bodyPost_ret (results_ct rfl _ _ gb282 25 #[.bool false, .slice none 0 0, .int .i64 0] (0, 0) _ rfl (by (with_reducible repeat (first | refine blk_drewN ?_ _ | refine blk_drew ?_ | refine blk_alloc ?_ _)); refine blk_put (cs := #[.bool false, .slice none 0 0, .int .i64 0]) ?_ 2 _ rfl; (with_reducible repeat (first | refine blk_drewN ?_ _ | refine blk_drew ?_ | refine blk_alloc ?_ _)); refine blk_put (cs := #[.bool false, .slice none 0 0, .int .i64 0]) ?_ 1 _ rfl; (with_reducible repeat (first | refine blk_drewN ?_ _ | refine blk_drew ?_ | refine blk_alloc ?_ _)); refine blk_put (cs := #[.bool false, .slice none 0 0, .int .i64 0]) ?_ 0 _ rfl; (with_reducible repeat (first | refine blk_drewN ?_ _ | refine blk_drew ?_ | refine blk_alloc ?_ _)); exact BK282.out) Tryd.underlying25 rfl (by kernel_rfl)) rfl ?_
                            exact ⟨_, by first | rfl | (simp [errW_none, errW_some] <;> rfl) | (simp [*, errW_none, errW_some] <;> rfl), by first | exact Kd.R_nil _ _ _ _ _ | exact Kd.N_nil _ _ _ _ _ | exact Kd.V_nil _ _ _ _ _ | exact Kd.Q_nil _ _ _ _ _ | exact Kd.S_nil _ _ _ _ _, by repeat (first | (with_reducible first | exact HB.out | apply below_alloc | apply pw_below_drewN | apply below_drew1 | refine below_set ?_ GE282.out) | exact HB.out)⟩
                          · rw [if_neg c27] at H
                            have c27b0 : (t285.toList == ([] : List UInt8)) = false := beq_eq_false_iff_ne.mpr c27
                            have c27b1 : (t285.toList != ([] : List UInt8)) = true := bne_iff_ne.mpr c27
                            (first | rw [c27b0] | (simp only [i64_w, i32_w]; rw [c27b0]) | skip)
                            have H' := Aside0.mk H
                            clear H
                            go_wp2_with (first | ((with_reducible refine gate_callee (f := 27) rfl ?_); refine goesL_ (some 62) rfl rfl Tryd.func27 (by kernel_rfl) rfl #[.string a0, .int .i64 (wrap64 (t284 + 1))] rfl (by (try simp only [List.map_toArray, List.map_cons, List.map_nil]); first | done | rfl | (simp only [List.length_drop, List.length_take]; rfl)) ?_; (with_reducible refine (erratumref02_run.calls kj19 a0 (wrap64 (t284 + 1)) t285 t286 _ A26.out).mono ?_); rintro e w' ⟨rfl, ⟨nd, rfl⟩⟩; refine ⟨_, rfl, ?_⟩))
                            try (any_goals (with_reducible refine halt_absurd ?_; (try simp only [ByteArray.size_extract, ByteArray.size_append, ba_size_mk, List.size_toArray, List.length_cons, List.length_nil] at *) <;> omega))
                            go_meet
                            case rel => exact ⟨_, (t286), (t285), (false), (0), (by first | rfl | (simp; done) | (simp [*]; done)), (by first | rfl | (simp; done) | (simp [*]; done)), H', ⟨by have := HJ4.out; have := HJ9.out; have := HJ12.out; have := HJ19.out; first | omega | exact Nat.le_refl _⟩, ⟨by (with_reducible repeat (first | refine blk_drewN ?_ _ | refine blk_drew ?_ | refine blk_alloc ?_ _)); exact BK282.out⟩, ⟨by repeat (first | (with_reducible first | exact HB.out | apply below_alloc | apply pw_below_drewN | apply below_drew1 | refine below_set ?_ GE282.out) | exact HB.out)⟩⟩
                        · replace c25 := Bool.eq_false_iff.mpr c25
                          subst c25
                          have H1 : (erratumref02_Parse.j4 kj19 a0 x4_4 t284 t283 (⟨#[]⟩ : ByteArray)) = some (r1, r2, r3, r4) := by rw [if_neg (show ¬ (false = true) by decide)] at H; exact H
                          clear H
                          have H := H1
                          clear H1
                          have H' := Aside0.mk H
                          clear H
                          go_wp2
                          try (any_goals (with_reducible refine halt_absurd ?_; (try simp only [ByteArray.size_extract, ByteArray.size_append, ba_size_mk, List.size_toArray, List.length_cons, List.length_nil] at *) <;> omega))
                          go_meet
                          case rel => exact ⟨_, (t284), ((⟨#[]⟩ : ByteArray)), (false), (0), (by first | rfl | (simp; done) | (simp [*]; done)), (by first | rfl | (simp; done) | (simp [*]; done)), H', ⟨by have := HJ4.out; have := HJ9.out; have := HJ12.out; have := HJ19.out; first | omega | exact Nat.le_refl _⟩, ⟨by (with_reducible repeat (first | refine blk_drewN ?_ _ | refine blk_drew ?_ | refine blk_alloc ?_ _)); exact BK282.out⟩, ⟨by repeat (first | (with_reducible first | exact HB.out | apply below_alloc | apply pw_below_drewN | apply below_drew1 | refine below_set ?_ GE282.out) | exact HB.out)⟩⟩
                      case rest =>
                        clear HC24
                        try clear c1
                        try clear p1
                        try clear q1
                        try clear hx1
                        try clear qi1
                        try clear c2
                        try clear c2b0
                        try clear c2b1
                        try clear p2
                        try clear q2
                        try clear hx2
                        try clear p6
                        try clear c7
                        try clear c7b0
                        try clear c7b1
                        try clear c8
                        try clear c8b0
                        try clear c8b1
                        try clear p9
                        try clear q9
                        try clear hx9
                        try clear qi9
                        try clear c11
                        try clear c14
                        try clear c14b0
                        try clear c14b1
                        try clear c15
                        try clear c15b0
                        try clear c15b1
                        try clear c16
                        try clear c16b0
                        try clear c16b1
                        try clear p17
                        try clear q17
                        try clear hx17
                        try clear qi17
                        try clear c18
                        try clear c21
                        try clear c21b0
                        try clear c22
                        try clear c22b0
                        try clear p23
                        try clear q23
                        try clear hx23
                        try clear c25
                        try clear c27
                        try clear c27b0
                        try clear c27b1
                        try clear hcz19_0
                        try clear hcz19_1
                        try clear hcz19_2
                        try clear hcz28_0
                        try clear hcz28_1
                        try clear hcz28_2
                        try clear hcz4_0
                        try clear hcz4_1
                        try clear hcz4_2
                        try clear hfz19_0
                        try clear hfz19_1
                        try clear hfz19_2
                        try clear hfz28_0
                        try clear hfz28_1
                        try clear hfz28_2
                        try clear hfz4_0
                        try clear hfz4_1
                        try clear hfz4_2
                        try clear p1
                        try clear p17
                        try clear p2
                        try clear p23
                        try clear p9
                        try clear q1
                        try clear q17
                        try clear q2
                        try clear q23
                        try clear q9
                        obtain ⟨kq, x5_23, x7_23, x283000_23, x283002_23, rfl, rfl, HA, HJ23, BK282, HB⟩ := hcut
                        cases kq with
                        | zero => exact absurd HA.out (by simp [erratumref02_Parse.j4])
                        | succ kj23 =>
                          have H := HA.out
                          clear HA
                          simp only [erratumref02_Parse.j4] at H
                          have HC29 := Aside0.mk H
                          clear H
                          go_upto_region 16 with (fail)
                          go_cut [83] (fun v83 wc => ∃ (kq : Nat) (x83_28 : Bool), v83 = .bool x83_28 ∧ Aside0 (erratumref02_Parse.j5 kq a0 x4_4 x5_23 t283 x7_23 (⟨#[]⟩ : ByteArray) false x83_28 = some (r1, r2, r3, r4)) ∧ Aside0 (kq ≤ kj23) ∧ Aside0 (wc.heap[gb282]? = some (.cells #[.bool x283000_23, (.slice none 0 0), .int .i64 x283002_23] 25 (0, 0))) ∧ Aside0 (Below w.heap.size w wc))
                          case first =>
                            have H := HC29.out
                            clear HC29
                            by_cases c30 : x5_23 < (a0.size : Int)
                            · rw [if_pos c30] at H
                              have c30b0 : decide (x5_23 < (a0.size : Int)) = true := decide_eq_true c30
                              clear c30
                              (first | rw [c30b0] | (simp only [i64_w, i32_w]; rw [c30b0]) | skip)
                              by_cases c31 : 0 ≤ x5_23
                              · rw [if_pos c31] at H
                                have c31b0 : decide (0 ≤ x5_23) = true := decide_eq_true c31
                                clear c31
                                by_cases c33 : (bt a0 x5_23) = 101
                                · rw [if_pos c33] at H
                                  have c33b0 : ((bt a0 x5_23) == 101) = true := beq_iff_eq.mpr c33
                                  have c33b1 : ((bt a0 x5_23) != 101) = false := bne_eq_false_iff_eq.mpr c33
                                  clear c33
                                  have H' := Aside0.mk H
                                  clear H
                                  have p32 : 0 ≤ (x5_23 : Int) := of_decide_eq_true (by first | (with_reducible assumption) | assumption)
                                  have q32 : x5_23 < (a0.size : Int) := of_decide_eq_true (by first | (with_reducible assumption) | assumption)
                                  have hx32 := bt_at a0 x5_23
                                  replace p32 := eq_true p32
                                  replace q32 := eq_true q32
                                  go_wp2
                                  try (any_goals (with_reducible refine halt_absurd ?_; (try simp only [ByteArray.size_extract, ByteArray.size_append, ba_size_mk, List.size_toArray, List.length_cons, List.length_nil] at *) <;> omega))
                                  go_meet
                                  case rel => exact ⟨_, (true), (by first | rfl | (simp; done) | (simp [*]; done)), H', ⟨by have := HJ4.out; have := HJ9.out; have := HJ12.out; have := HJ19.out; have := HJ23.out; first | omega | exact Nat.le_refl _⟩, ⟨by (with_reducible repeat (first | refine blk_drewN ?_ _ | refine blk_drew ?_ | refine blk_alloc ?_ _)); exact BK282.out⟩, ⟨by repeat (first | (with_reducible first | exact HB.out | apply below_alloc | apply pw_below_drewN | apply below_drew1 | refine below_set ?_ GE282.out) | exact HB.out)⟩⟩
                                · rw [if_neg c33] at H
                                  have c33b0 : ((bt a0 x5_23) == 101) = false := beq_eq_false_iff_ne.mpr c33
                                  have c33b1 : ((bt a0 x5_23) != 101) = true := bne_iff_ne.mpr c33
                                  have H' := Aside0.mk H
                                  clear H
                                  have p32 : 0 ≤ (x5_23 : Int) := of_decide_eq_true (by first | (with_reducible assumption) | assumption)
                                  have q32 : x5_23 < (a0.size : Int) := of_decide_eq_true (by first | (with_reducible assumption) | assumption)
                                  have hx32 := bt_at a0 x5_23
                                  replace p32 := eq_true p32
                                  replace q32 := eq_true q32
                                  have p34 : 0 ≤ (x5_23 : Int) := of_decide_eq_true (by first | (with_reducible assumption) | assumption)
                                  have q34 : x5_23 < (a0.size : Int) := of_decide_eq_true (by first | (with_reducible assumption) | assumption)
                                  have hx34 := bt_at a0 x5_23
                                  replace p34 := eq_true p34
                                  replace q34 := eq_true q34
                                  go_wp2
                                  try (any_goals (with_reducible refine halt_absurd ?_; (try simp only [ByteArray.size_extract, ByteArray.size_append, ba_size_mk, List.size_toArray, List.length_cons, List.length_nil] at *) <;> omega))
                                  go_meet
                                  case rel => exact ⟨_, (((bt a0 x5_23) == 69)), (by first | rfl | (simp; done) | (simp [*]; done)), H', ⟨by have := HJ4.out; have := HJ9.out; have := HJ12.out; have := HJ19.out; have := HJ23.out; first | omega | exact Nat.le_refl _⟩, ⟨by (with_reducible repeat (first | refine blk_drewN ?_ _ | refine blk_drew ?_ | refine blk_alloc ?_ _)); exact BK282.out⟩, ⟨by repeat (first | (with_reducible first | exact HB.out | apply below_alloc | apply pw_below_drewN | apply below_drew1 | refine below_set ?_ GE282.out) | exact HB.out)⟩⟩
                              · rw [if_neg c31] at H
                                exact absurd H (by simp)
                            · rw [if_neg c30] at H
                              have c30b0 : decide (x5_23 < (a0.size : Int)) = false := decide_eq_false c30
                              clear c30
                              (first | rw [c30b0] | (simp only [i64_w, i32_w]; rw [c30b0]) | skip)
                              have H' := Aside0.mk H
                              clear H
                              go_wp2
                              try (any_goals (with_reducible refine halt_absurd ?_; (try simp only [ByteArray.size_extract, ByteArray.size_append, ba_size_mk, List.size_toArray, List.length_cons, List.length_nil] at *) <;> omega))
                              go_meet
                              case rel => exact ⟨_, (false), (by first | rfl | (simp; done) | (simp [*]; done)), H', ⟨by have := HJ4.out; have := HJ9.out; have := HJ12.out; have := HJ19.out; have := HJ23.out; first | omega | exact Nat.le_refl _⟩, ⟨by (with_reducible repeat (first | refine blk_drewN ?_ _ | refine blk_drew ?_ | refine blk_alloc ?_ _)); exact BK282.out⟩, ⟨by repeat (first | (with_reducible first | exact HB.out | apply below_alloc | apply pw_below_drewN | apply below_drew1 | refine below_set ?_ GE282.out) | exact HB.out)⟩⟩
                          case rest =>
                            clear HC29
                            try clear c1
                            try clear p1
                            try clear q1
                            try clear hx1
                            try clear qi1
                            try clear c2
                            try clear c2b0
                            try clear c2b1
                            try clear p2
                            try clear q2
                            try clear hx2
                            try clear c3
                            try clear p3
                            try clear q3
                            try clear hx3
                            try clear p6
                            try clear c7
                            try clear c7b0
                            try clear c7b1
                            try clear c8
                            try clear c8b0
                            try clear c8b1
                            try clear p9
                            try clear q9
                            try clear hx9
                            try clear qi9
                            try clear c11
                            try clear c14
                            try clear c14b0
                            try clear c14b1
                            try clear c15
                            try clear c15b0
                            try clear c15b1
                            try clear c16
                            try clear c16b0
                            try clear c16b1
                            try clear p17
                            try clear q17
                            try clear hx17
                            try clear qi17
                            try clear c18
                            try clear c21
                            try clear c21b0
                            try clear c22
                            try clear c22b0
                            try clear p23
                            try clear q23
                            try clear hx23
                            try clear c25
                            try clear c27
                            try clear c27b0
                            try clear c27b1
                            try clear c30
                            try clear c30b0
                            try clear c31
                            try clear c31b0
                            try clear p32
                            try clear q32
                            try clear hx32
                            try clear c33
                            try clear c33b0
                            try clear c33b1
                            try clear p34
                            try clear q34
                            try clear hx34
                            try clear hcz19_0
                            try clear hcz19_1
                            try clear hcz19_2
                            try clear hcz28_0
                            try clear hcz28_1
                            try clear hcz28_2
                            try clear hcz4_0
                            try clear hcz4_1
                            try clear hcz4_2
                            try clear hfz19_0
                            try clear hfz19_1
                            try clear hfz19_2
                            try clear hfz28_0
                            try clear hfz28_1
                            try clear hfz28_2
                            try clear hfz4_0
                            try clear hfz4_1
                            try clear hfz4_2
                            try clear p1
                            try clear p17
                            try clear p2
                            try clear p23
                            try clear p32
                            try clear p34
                            try clear p6
                            try clear p9
                            try clear q1
                            try clear q17
                            try clear q2
                            try clear q23
                            try clear q32
                            try clear q34
                            try clear q9
                            obtain ⟨kq, x83_28, rfl, HA, HJ28, BK282, HB⟩ := hcut
                            cases kq with
                            | zero => exact absurd HA.out (by simp [erratumref02_Parse.j5])
                            | succ kj28 =>
                              have H := HA.out
                              clear HA
                              simp only [erratumref02_Parse.j5] at H
                              have HC35 := Aside0.mk H
                              clear H
                              go_upto_if 83 with (fail)
                              go_cut [5, 8, 9] (fun v5 v8 v9 wc => ∃ (kq : Nat) (x5_34 : Int) (x8_34 : ByteArray) (x9_34 : Bool) (x283000_34 : Bool) (x283002_34 : Int), v5 = .int .i64 x5_34 ∧ v8 = .string x8_34 ∧ v9 = .bool x9_34 ∧ Aside0 (erratumref02_Parse.j7 kq a0 x4_4 x5_34 t283 x7_23 x8_34 x9_34 = some (r1, r2, r3, r4)) ∧ Aside0 (kq ≤ kj28) ∧ Aside0 (wc.heap[gb282]? = some (.cells #[.bool x283000_34, (.slice none 0 0), .int .i64 x283002_34] 25 (0, 0))) ∧ Aside0 (Below w.heap.size w wc))
                              case first =>
                                have H := HC35.out
                                clear HC35
                                by_cases c36 : x83_28 = true
                                · subst c36
                                  have H1 : (if (wrap64 (x5_23 + 1)) < (a0.size : Int) then (if 0 ≤ (wrap64 (x5_23 + 1)) then (if (bt a0 (wrap64 (x5_23 + 1))) = 43 then (erratumref02_Parse.j6 kj28 a0 x4_4 (wrap64 (x5_23 + 1)) t283 x7_23 false true) else (erratumref02_Parse.j6 kj28 a0 x4_4 (wrap64 (x5_23 + 1)) t283 x7_23 false ((bt a0 (wrap64 (x5_23 + 1))) == 45))) else (none)) else (erratumref02_Parse.j6 kj28 a0 x4_4 (wrap64 (x5_23 + 1)) t283 x7_23 false false)) = some (r1, r2, r3, r4) := by rw [if_pos rfl] at H; exact H
                                  clear H
                                  have H := H1
                                  clear H1
                                  have HC37 := Aside0.mk H
                                  clear H
                                  go_upto_region 18 with (fail)
                                  go_cut [101] (fun v101 wc => ∃ (kq : Nat) (x101_36 : Bool), v101 = .bool x101_36 ∧ Aside0 (erratumref02_Parse.j6 kq a0 x4_4 (wrap64 (x5_23 + 1)) t283 x7_23 false x101_36 = some (r1, r2, r3, r4)) ∧ Aside0 (kq ≤ kj28) ∧ Aside0 (wc.heap[gb282]? = some (.cells #[.bool x283000_23, (.slice none 0 0), .int .i64 x283002_23] 25 (0, 0))) ∧ Aside0 (Below w.heap.size w wc))
                                  case first =>
                                    have H := HC37.out
                                    clear HC37
                                    by_cases c38 : (wrap64 (x5_23 + 1)) < (a0.size : Int)
                                    · rw [if_pos c38] at H
                                      have c38b0 : decide ((wrap64 (x5_23 + 1)) < (a0.size : Int)) = true := decide_eq_true c38
                                      clear c38
                                      (first | rw [c38b0] | (simp only [i64_w, i32_w]; rw [c38b0]) | skip)
                                      obtain ⟨ji39, hji39⟩ : ∃ j_ : Int, (wrap64 (x5_23 + 1)) = j_ := ⟨_, rfl⟩
                                      replace H : (if 0 ≤ (ji39) then (if (bt a0 (ji39)) = 43 then (erratumref02_Parse.j6 kj28 a0 x4_4 ji39 t283 x7_23 false true) else (erratumref02_Parse.j6 kj28 a0 x4_4 ji39 t283 x7_23 false ((bt a0 (ji39)) == 45))) else (none)) = some (r1, r2, r3, r4) := by first | (rw [hji39] at H; exact H) | (simp only [hji39] at H ⊢; exact H)
                                      (try rw [hji39] at c38b0)
                                      have hji39w : (IntKind.i64.wrap (x5_23 + 1)) = ji39 := (i64_w _).trans hji39
                                      by_cases c40 : 0 ≤ (ji39)
                                      · rw [if_pos c40] at H
                                        have c40b0 : decide (0 ≤ (ji39)) = true := decide_eq_true c40
                                        clear c40
                                        by_cases c42 : (bt a0 (ji39)) = 43
                                        · rw [if_pos c42] at H
                                          have c42b0 : ((bt a0 (ji39)) == 43) = true := beq_iff_eq.mpr c42
                                          have c42b1 : ((bt a0 (ji39)) != 43) = false := bne_eq_false_iff_eq.mpr c42
                                          clear c42
                                          have H' := Aside0.mk H
                                          clear H
                                          have p41 : 0 ≤ ((ji39) : Int) := of_decide_eq_true (by first | (with_reducible assumption) | assumption)
                                          have q41 : (ji39) < (a0.size : Int) := of_decide_eq_true (by first | (with_reducible assumption) | assumption)
                                          have hx41 := bt_at a0 (ji39)
                                          replace p41 := eq_true p41
                                          replace q41 := eq_true q41
                                          go_wp2
                                          try (any_goals (with_reducible refine halt_absurd ?_; (try simp only [ByteArray.size_extract, ByteArray.size_append, ba_size_mk, List.size_toArray, List.length_cons, List.length_nil] at *) <;> omega))
                                          go_meet
                                          case rel => exact ⟨_, (true), (by first | rfl | (simp; done) | (simp [*]; done)), (by first | exact H' | (simp only [hji39]; exact H')), ⟨by have := HJ4.out; have := HJ9.out; have := HJ12.out; have := HJ19.out; have := HJ23.out; have := HJ28.out; first | omega | exact Nat.le_refl _⟩, ⟨by (with_reducible repeat (first | refine blk_drewN ?_ _ | refine blk_drew ?_ | refine blk_alloc ?_ _)); exact BK282.out⟩, ⟨by repeat (first | (with_reducible first | exact HB.out | apply below_alloc | apply pw_below_drewN | apply below_drew1 | refine below_set ?_ GE282.out) | exact HB.out)⟩⟩
                                        · rw [if_neg c42] at H
                                          have c42b0 : ((bt a0 (ji39)) == 43) = false := beq_eq_false_iff_ne.mpr c42
                                          have c42b1 : ((bt a0 (ji39)) != 43) = true := bne_iff_ne.mpr c42
                                          have H' := Aside0.mk H
                                          clear H
                                          have p41 : 0 ≤ ((ji39) : Int) := of_decide_eq_true (by first | (with_reducible assumption) | assumption)
                                          have q41 : (ji39) < (a0.size : Int) := of_decide_eq_true (by first | (with_reducible assumption) | assumption)
                                          have hx41 := bt_at a0 (ji39)
                                          replace p41 := eq_true p41
                                          replace q41 := eq_true q41
                                          have p43 : 0 ≤ ((ji39) : Int) := of_decide_eq_true (by first | (with_reducible assumption) | assumption)
                                          have q43 : (ji39) < (a0.size : Int) := of_decide_eq_true (by first | (with_reducible assumption) | assumption)
                                          have hx43 := bt_at a0 (ji39)
                                          replace p43 := eq_true p43
                                          replace q43 := eq_true q43
                                          go_wp2
                                          try (any_goals (with_reducible refine halt_absurd ?_; (try simp only [ByteArray.size_extract, ByteArray.size_append, ba_size_mk, List.size_toArray, List.length_cons, List.length_nil] at *) <;> omega))
                                          go_meet
                                          case rel => exact ⟨_, (((bt a0 (ji39)) == 45)), (by first | rfl | (simp; done) | (simp only [← hji39] <;> (first | rfl | simp)) | (simp [*]; done)), (by first | exact H' | (simp only [hji39]; exact H')), ⟨by have := HJ4.out; have := HJ9.out; have := HJ12.out; have := HJ19.out; have := HJ23.out; have := HJ28.out; first | omega | exact Nat.le_refl _⟩, ⟨by (with_reducible repeat (first | refine blk_drewN ?_ _ | refine blk_drew ?_ | refine blk_alloc ?_ _)); exact BK282.out⟩, ⟨by repeat (first | (with_reducible first | exact HB.out | apply below_alloc | apply pw_below_drewN | apply below_drew1 | refine below_set ?_ GE282.out) | exact HB.out)⟩⟩
                                      · rw [if_neg c40] at H
                                        exact absurd H (by simp)
                                    · rw [if_neg c38] at H
                                      have c38b0 : decide ((wrap64 (x5_23 + 1)) < (a0.size : Int)) = false := decide_eq_false c38
                                      clear c38
                                      (first | rw [c38b0] | (simp only [i64_w, i32_w]; rw [c38b0]) | skip)
                                      have H' := Aside0.mk H
                                      clear H
                                      go_wp2
                                      try (any_goals (with_reducible refine halt_absurd ?_; (try simp only [ByteArray.size_extract, ByteArray.size_append, ba_size_mk, List.size_toArray, List.length_cons, List.length_nil] at *) <;> omega))
                                      go_meet
                                      case rel => exact ⟨_, (false), (by first | rfl | (simp; done) | (simp [*]; done)), H', ⟨by have := HJ4.out; have := HJ9.out; have := HJ12.out; have := HJ19.out; have := HJ23.out; have := HJ28.out; first | omega | exact Nat.le_refl _⟩, ⟨by (with_reducible repeat (first | refine blk_drewN ?_ _ | refine blk_drew ?_ | refine blk_alloc ?_ _)); exact BK282.out⟩, ⟨by repeat (first | (with_reducible first | exact HB.out | apply below_alloc | apply pw_below_drewN | apply below_drew1 | refine below_set ?_ GE282.out) | exact HB.out)⟩⟩
                                  case rest =>
                                    clear HC37
                                    try clear c1
                                    try clear p1
                                    try clear q1
                                    try clear hx1
                                    try clear qi1
                                    try clear c2
                                    try clear c2b0
                                    try clear c2b1
                                    try clear p2
                                    try clear q2
                                    try clear hx2
                                    try clear c3
                                    try clear p3
                                    try clear q3
                                    try clear hx3
                                    try clear c4
                                    try clear p4
                                    try clear q4
                                    try clear hx4
                                    try clear p6
                                    try clear c7
                                    try clear c7b0
                                    try clear c7b1
                                    try clear c8
                                    try clear c8b0
                                    try clear c8b1
                                    try clear p9
                                    try clear q9
                                    try clear hx9
                                    try clear qi9
                                    try clear c11
                                    try clear c14
                                    try clear c14b0
                                    try clear c14b1
                                    try clear c15
                                    try clear c15b0
                                    try clear c15b1
                                    try clear c16
                                    try clear c16b0
                                    try clear c16b1
                                    try clear p17
                                    try clear q17
                                    try clear hx17
                                    try clear qi17
                                    try clear c18
                                    try clear c21
                                    try clear c21b0
                                    try clear c22
                                    try clear c22b0
                                    try clear p23
                                    try clear q23
                                    try clear hx23
                                    try clear c25
                                    try clear c27
                                    try clear c27b0
                                    try clear c27b1
                                    try clear c30
                                    try clear c30b0
                                    try clear c31
                                    try clear c31b0
                                    try clear p32
                                    try clear q32
                                    try clear hx32
                                    try clear c33
                                    try clear c33b0
                                    try clear c33b1
                                    try clear p34
                                    try clear q34
                                    try clear hx34
                                    try clear c36
                                    try clear c38
                                    try clear c38b0
                                    try clear c40
                                    try clear c40b0
                                    try clear p41
                                    try clear q41
                                    try clear hx41
                                    try clear c42
                                    try clear c42b0
                                    try clear c42b1
                                    try clear p43
                                    try clear q43
                                    try clear hx43
                                    try clear hcz19_0
                                    try clear hcz19_1
                                    try clear hcz19_2
                                    try clear hcz28_0
                                    try clear hcz28_1
                                    try clear hcz28_2
                                    try clear hcz4_0
                                    try clear hcz4_1
                                    try clear hcz4_2
                                    try clear hfz19_0
                                    try clear hfz19_1
                                    try clear hfz19_2
                                    try clear hfz28_0
                                    try clear hfz28_1
                                    try clear hfz28_2
                                    try clear hfz4_0
                                    try clear hfz4_1
                                    try clear hfz4_2
                                    try clear p1
                                    try clear p17
                                    try clear p2
                                    try clear p23
                                    try clear p3
                                    try clear p32
                                    try clear p34
                                    try clear p41
                                    try clear p43
                                    try clear p6
                                    try clear p9
                                    try clear q1
                                    try clear q17
                                    try clear q2
                                    try clear q23
                                    try clear q3
                                    try clear q32
                                    try clear q34
                                    try clear q41
                                    try clear q43
                                    try clear q9
                                    obtain ⟨kq, x101_36, rfl, HA, HJ36, BK282, HB⟩ := hcut
                                    cases kq with
                                    | zero => exact absurd HA.out (by simp [erratumref02_Parse.j6])
                                    | succ kj36 =>
                                      have H := HA.out
                                      clear HA
                                      simp only [erratumref02_Parse.j6] at H
                                      by_cases c44 : x101_36 = true
                                      · subst c44
                                        have H1 : (if 0 ≤ (wrap64 (x5_23 + 1)) then (if (wrap64 (x5_23 + 1)) < (a0.size : Int) then ((erratumref02_run.f kj36 a0 (wrap64 ((wrap64 (x5_23 + 1)) + 1))).bind fun bt287 => (if bt287.1.toList = ([] : List UInt8) then (some (false, ([] : List Int), 0, 2)) else (erratumref02_Parse.j7 kj36 a0 x4_4 bt287.2 t283 x7_23 bt287.1 ((bt a0 (wrap64 (x5_23 + 1))) == 45)))) else (none)) else (none)) = some (r1, r2, r3, r4) := by rw [if_pos rfl] at H; exact H
                                        clear H
                                        have H := H1
                                        clear H1
                                        obtain ⟨ji45, hji45⟩ : ∃ j_ : Int, (wrap64 (x5_23 + 1)) = j_ := ⟨_, rfl⟩
                                        replace H : (if 0 ≤ (ji45) then (if (ji45) < (a0.size : Int) then ((erratumref02_run.f kj36 a0 (wrap64 ((ji45) + 1))).bind fun bt287 => (if bt287.1.toList = ([] : List UInt8) then (some (false, ([] : List Int), 0, 2)) else (erratumref02_Parse.j7 kj36 a0 x4_4 bt287.2 t283 x7_23 bt287.1 ((bt a0 (ji45)) == 45)))) else (none)) else (none)) = some (r1, r2, r3, r4) := by first | (rw [hji45] at H; exact H) | (simp only [hji45] at H ⊢; exact H)
                                        have hji45w : (IntKind.i64.wrap (x5_23 + 1)) = ji45 := (i64_w _).trans hji45
                                        by_cases c46 : 0 ≤ (ji45)
                                        · rw [if_pos c46] at H
                                          have c46b0 : decide (0 ≤ (ji45)) = true := decide_eq_true c46
                                          clear c46
                                          by_cases c47 : (ji45) < (a0.size : Int)
                                          · rw [if_pos c47] at H
                                            have c47b0 : decide ((ji45) < (a0.size : Int)) = true := decide_eq_true c47
                                            clear c47
                                            replace H := Option.bind_eq_some_iff.mp H
                                            obtain ⟨⟨t287, t288⟩, A490, H⟩ := H
                                            replace H : (if t287.toList = ([] : List UInt8) then (some (false, ([] : List Int), 0, 2)) else (erratumref02_Parse.j7 kj36 a0 x4_4 t288 t283 x7_23 t287 ((bt a0 (ji45)) == 45))) = some (r1, r2, r3, r4) := H
                                            have A49 := Aside0.mk A490
                                            clear A490
                                            by_cases c50 : t287.toList = ([] : List UInt8)
                                            · rw [if_pos c50] at H
                                              have c50b0 : (t287.toList == ([] : List UInt8)) = true := beq_iff_eq.mpr c50
                                              have c50b1 : (t287.toList != ([] : List UInt8)) = false := bne_eq_false_iff_eq.mpr c50
                                              clear c50
                                              simp only [Option.some.injEq, Prod.mk.injEq] at H
                                              obtain ⟨rfl, rfl, rfl, rfl⟩ := H
                                              have p48 : 0 ≤ ((ji45) : Int) := of_decide_eq_true (by first | (with_reducible assumption) | assumption)
                                              have q48 : (ji45) < (a0.size : Int) := of_decide_eq_true (by first | (with_reducible assumption) | assumption)
                                              have hx48 := bt_at a0 (ji45)
                                              replace p48 := eq_true p48
                                              replace q48 := eq_true q48
                                              go_wp2_with (first | ((with_reducible refine gate_callee (f := 27) rfl ?_); refine goesL_ (some 111) rfl rfl Tryd.func27 (by kernel_rfl) rfl #[.string a0, .int .i64 (wrap64 ((ji45) + 1))] rfl (by (try simp only [List.map_toArray, List.map_cons, List.map_nil]); first | done | (simp only [hji45]; rfl) | rfl | (simp only [List.length_drop, List.length_take]; rfl)) ?_; (with_reducible refine (erratumref02_run.calls kj36 a0 (wrap64 ((ji45) + 1)) t287 t288 _ A49.out).mono ?_); rintro e w' ⟨rfl, ⟨nd, rfl⟩⟩; refine ⟨_, rfl, ?_⟩; (try (rw [drewN_self wc]; generalize hq_ : World.drewN wc _ = wc; have n0_ : Aside0 (wc.heap[gb282]? = some (.cells #[.bool x283000_23, .slice none 0 0, .int .i64 x283002_23] 25 (0, 0))) := ⟨by rw [← hq_]; exact (by (with_reducible repeat (first | refine blk_drewN ?_ _ | refine blk_drew ?_ | refine blk_alloc ?_ _)); exact BK282.out)⟩; have n1_ : Aside0 (Below w.heap.size w wc) := ⟨by rw [← hq_]; exact (by repeat (first | (with_reducible first | exact HB.out | apply below_alloc | apply pw_below_drewN | apply below_drew1 | refine below_set ?_ GE282.out) | exact HB.out))⟩; clear BK282 HB hq_; have BK282 := n0_; have HB := n1_; clear n0_ n1_)); have hcz51_0 : wc.cell? ⟨gb282, 0, none⟩ = some (.bool x283000_23) := (blk_cell BK282.out 0).trans rfl; have hcz51_1 : wc.cell? ⟨gb282, 1, none⟩ = some (.slice none 0 0) := (blk_cell BK282.out 1).trans rfl; have hcz51_2 : wc.cell? ⟨gb282, 2, none⟩ = some (.int .i64 x283002_23) := (blk_cell BK282.out 2).trans rfl; have hfz51_0 := blk_frozen BK282.out 0; have hfz51_1 := blk_frozen BK282.out 1; have hfz51_2 := blk_frozen BK282.out 2))
                                              try (any_goals (with_reducible refine halt_absurd ?_; (try simp only [ByteArray.size_extract, ByteArray.size_append, ba_size_mk, List.size_toArray, List.length_cons, List.length_nil] at *) <;> omega))
                                              refine bodyPost_ret (results_ct rfl _ _ gb282 25 #[.bool false, .slice none 0 0, .int .i64 0] (0, 0) _ rfl (by (with_reducible repeat (first | refine blk_drewN ?_ _ | refine blk_drew ?_ | refine blk_alloc ?_ _)); refine blk_put (cs := #[.bool false, .slice none 0 0, .int .i64 x283002_23]) ?_ 2 _ rfl; (with_reducible repeat (first | refine blk_drewN ?_ _ | refine blk_drew ?_ | refine blk_alloc ?_ _)); refine blk_put (cs := #[.bool false, .slice none 0 0, .int .i64 x283002_23]) ?_ 1 _ rfl; (with_reducible repeat (first | refine blk_drewN ?_ _ | refine blk_drew ?_ | refine blk_alloc ?_ _)); refine blk_put (cs := #[.bool x283000_23, .slice none 0 0, .int .i64 x283002_23]) ?_ 0 _ rfl; (with_reducible repeat (first | refine blk_drewN ?_ _ | refine blk_drew ?_ | refine blk_alloc ?_ _)); exact BK282.out) Tryd.underlying25 rfl (by kernel_rfl)) rfl ?_
                                              exact ⟨_, by first | rfl | (simp [errW_none, errW_some] <;> rfl) | (simp only [← hji45]; first | rfl | (simp [errW_none, errW_some] <;> rfl)) | (simp [*, errW_none, errW_some] <;> rfl), by first | exact Kd.R_nil _ _ _ _ _ | exact Kd.N_nil _ _ _ _ _ | exact Kd.V_nil _ _ _ _ _ | exact Kd.Q_nil _ _ _ _ _ | exact Kd.S_nil _ _ _ _ _, by repeat (first | (with_reducible first | exact HB.out | apply below_alloc | apply pw_below_drewN | apply below_drew1 | refine below_set ?_ GE282.out) | exact HB.out)⟩
                                            · rw [if_neg c50] at H
                                              have c50b0 : (t287.toList == ([] : List UInt8)) = false := beq_eq_false_iff_ne.mpr c50
                                              have c50b1 : (t287.toList != ([] : List UInt8)) = true := bne_iff_ne.mpr c50
                                              have H' := Aside0.mk H
                                              clear H
                                              have p48 : 0 ≤ ((ji45) : Int) := of_decide_eq_true (by first | (with_reducible assumption) | assumption)
                                              have q48 : (ji45) < (a0.size : Int) := of_decide_eq_true (by first | (with_reducible assumption) | assumption)
                                              have hx48 := bt_at a0 (ji45)
                                              replace p48 := eq_true p48
                                              replace q48 := eq_true q48
                                              go_wp2_with (first | ((with_reducible refine gate_callee (f := 27) rfl ?_); refine goesL_ (some 111) rfl rfl Tryd.func27 (by kernel_rfl) rfl #[.string a0, .int .i64 (wrap64 ((ji45) + 1))] rfl (by (try simp only [List.map_toArray, List.map_cons, List.map_nil]); first | done | (simp only [hji45]; rfl) | rfl | (simp only [List.length_drop, List.length_take]; rfl)) ?_; (with_reducible refine (erratumref02_run.calls kj36 a0 (wrap64 ((ji45) + 1)) t287 t288 _ A49.out).mono ?_); rintro e w' ⟨rfl, ⟨nd, rfl⟩⟩; refine ⟨_, rfl, ?_⟩))
                                              try (any_goals (with_reducible refine halt_absurd ?_; (try simp only [ByteArray.size_extract, ByteArray.size_append, ba_size_mk, List.size_toArray, List.length_cons, List.length_nil] at *) <;> omega))
                                              go_meet
                                              case rel => exact ⟨_, (t288), (t287), (((bt a0 (ji45)) == 45)), (x283000_23), (x283002_23), (by first | rfl | (simp; done) | (simp [*]; done)), (by first | rfl | (simp; done) | (simp [*]; done)), (by first | rfl | (simp; done) | (simp only [← hji45] <;> (first | rfl | simp)) | (simp [*]; done)), (by first | exact H' | (simp only [hji45]; exact H')), ⟨by have := HJ4.out; have := HJ9.out; have := HJ12.out; have := HJ19.out; have := HJ23.out; have := HJ28.out; have := HJ36.out; first | omega | exact Nat.le_refl _⟩, ⟨by (with_reducible repeat (first | refine blk_drewN ?_ _ | refine blk_drew ?_ | refine blk_alloc ?_ _)); exact BK282.out⟩, ⟨by repeat (first | (with_reducible first | exact HB.out | apply below_alloc | apply pw_below_drewN | apply below_drew1 | refine below_set ?_ GE282.out) | exact HB.out)⟩⟩
                                          · rw [if_neg c47] at H
                                            exact absurd H (by simp)
                                        · rw [if_neg c46] at H
                                          exact absurd H (by simp)
                                      · replace c44 := Bool.eq_false_iff.mpr c44
                                        subst c44
                                        have H1 : ((erratumref02_run.f kj36 a0 (wrap64 (x5_23 + 1))).bind fun bt289 => (if bt289.1.toList = ([] : List UInt8) then (some (false, ([] : List Int), 0, 2)) else (erratumref02_Parse.j7 kj36 a0 x4_4 bt289.2 t283 x7_23 bt289.1 false))) = some (r1, r2, r3, r4) := by rw [if_neg (show ¬ (false = true) by decide)] at H; exact H
                                        clear H
                                        have H := H1
                                        clear H1
                                        replace H := Option.bind_eq_some_iff.mp H
                                        obtain ⟨⟨t289, t290⟩, A520, H⟩ := H
                                        replace H : (if t289.toList = ([] : List UInt8) then (some (false, ([] : List Int), 0, 2)) else (erratumref02_Parse.j7 kj36 a0 x4_4 t290 t283 x7_23 t289 false)) = some (r1, r2, r3, r4) := H
                                        have A52 := Aside0.mk A520
                                        clear A520
                                        by_cases c53 : t289.toList = ([] : List UInt8)
                                        · rw [if_pos c53] at H
                                          have c53b0 : (t289.toList == ([] : List UInt8)) = true := beq_iff_eq.mpr c53
                                          have c53b1 : (t289.toList != ([] : List UInt8)) = false := bne_eq_false_iff_eq.mpr c53
                                          clear c53
                                          simp only [Option.some.injEq, Prod.mk.injEq] at H
                                          obtain ⟨rfl, rfl, rfl, rfl⟩ := H
                                          go_wp2_with (first | ((with_reducible refine gate_callee (f := 27) rfl ?_); refine goesL_ (some 111) rfl rfl Tryd.func27 (by kernel_rfl) rfl #[.string a0, .int .i64 (wrap64 (x5_23 + 1))] rfl (by (try simp only [List.map_toArray, List.map_cons, List.map_nil]); first | done | rfl | (simp only [List.length_drop, List.length_take]; rfl)) ?_; (with_reducible refine (erratumref02_run.calls kj36 a0 (wrap64 (x5_23 + 1)) t289 t290 _ A52.out).mono ?_); rintro e w' ⟨rfl, ⟨nd, rfl⟩⟩; refine ⟨_, rfl, ?_⟩; (try (rw [drewN_self wc]; generalize hq_ : World.drewN wc _ = wc; have n0_ : Aside0 (wc.heap[gb282]? = some (.cells #[.bool x283000_23, .slice none 0 0, .int .i64 x283002_23] 25 (0, 0))) := ⟨by rw [← hq_]; exact (by (with_reducible repeat (first | refine blk_drewN ?_ _ | refine blk_drew ?_ | refine blk_alloc ?_ _)); exact BK282.out)⟩; have n1_ : Aside0 (Below w.heap.size w wc) := ⟨by rw [← hq_]; exact (by repeat (first | (with_reducible first | exact HB.out | apply below_alloc | apply pw_below_drewN | apply below_drew1 | refine below_set ?_ GE282.out) | exact HB.out))⟩; clear BK282 HB hq_; have BK282 := n0_; have HB := n1_; clear n0_ n1_)); have hcz54_0 : wc.cell? ⟨gb282, 0, none⟩ = some (.bool x283000_23) := (blk_cell BK282.out 0).trans rfl; have hcz54_1 : wc.cell? ⟨gb282, 1, none⟩ = some (.slice none 0 0) := (blk_cell BK282.out 1).trans rfl; have hcz54_2 : wc.cell? ⟨gb282, 2, none⟩ = some (.int .i64 x283002_23) := (blk_cell BK282.out 2).trans rfl; have hfz54_0 := blk_frozen BK282.out 0; have hfz54_1 := blk_frozen BK282.out 1; have hfz54_2 := blk_frozen BK282.out 2))
                                          try (any_goals (with_reducible refine halt_absurd ?_; (try simp only [ByteArray.size_extract, ByteArray.size_append, ba_size_mk, List.size_toArray, List.length_cons, List.length_nil] at *) <;> omega))
                                          refine bodyPost_ret (results_ct rfl _ _ gb282 25 #[.bool false, .slice none 0 0, .int .i64 0] (0, 0) _ rfl (by (with_reducible repeat (first | refine blk_drewN ?_ _ | refine blk_drew ?_ | refine blk_alloc ?_ _)); refine blk_put (cs := #[.bool false, .slice none 0 0, .int .i64 x283002_23]) ?_ 2 _ rfl; (with_reducible repeat (first | refine blk_drewN ?_ _ | refine blk_drew ?_ | refine blk_alloc ?_ _)); refine blk_put (cs := #[.bool false, .slice none 0 0, .int .i64 x283002_23]) ?_ 1 _ rfl; (with_reducible repeat (first | refine blk_drewN ?_ _ | refine blk_drew ?_ | refine blk_alloc ?_ _)); refine blk_put (cs := #[.bool x283000_23, .slice none 0 0, .int .i64 x283002_23]) ?_ 0 _ rfl; (with_reducible repeat (first | refine blk_drewN ?_ _ | refine blk_drew ?_ | refine blk_alloc ?_ _)); exact BK282.out) Tryd.underlying25 rfl (by kernel_rfl)) rfl ?_
                                          exact ⟨_, by first | rfl | (simp [errW_none, errW_some] <;> rfl) | (simp [*, errW_none, errW_some] <;> rfl), by first | exact Kd.R_nil _ _ _ _ _ | exact Kd.N_nil _ _ _ _ _ | exact Kd.V_nil _ _ _ _ _ | exact Kd.Q_nil _ _ _ _ _ | exact Kd.S_nil _ _ _ _ _, by repeat (first | (with_reducible first | exact HB.out | apply below_alloc | apply pw_below_drewN | apply below_drew1 | refine below_set ?_ GE282.out) | exact HB.out)⟩
                                        · rw [if_neg c53] at H
                                          have c53b0 : (t289.toList == ([] : List UInt8)) = false := beq_eq_false_iff_ne.mpr c53
                                          have c53b1 : (t289.toList != ([] : List UInt8)) = true := bne_iff_ne.mpr c53
                                          have H' := Aside0.mk H
                                          clear H
                                          go_wp2_with (first | ((with_reducible refine gate_callee (f := 27) rfl ?_); refine goesL_ (some 111) rfl rfl Tryd.func27 (by kernel_rfl) rfl #[.string a0, .int .i64 (wrap64 (x5_23 + 1))] rfl (by (try simp only [List.map_toArray, List.map_cons, List.map_nil]); first | done | rfl | (simp only [List.length_drop, List.length_take]; rfl)) ?_; (with_reducible refine (erratumref02_run.calls kj36 a0 (wrap64 (x5_23 + 1)) t289 t290 _ A52.out).mono ?_); rintro e w' ⟨rfl, ⟨nd, rfl⟩⟩; refine ⟨_, rfl, ?_⟩))
                                          try (any_goals (with_reducible refine halt_absurd ?_; (try simp only [ByteArray.size_extract, ByteArray.size_append, ba_size_mk, List.size_toArray, List.length_cons, List.length_nil] at *) <;> omega))
                                          go_meet
                                          case rel => exact ⟨_, (t290), (t289), (false), (x283000_23), (x283002_23), (by first | rfl | (simp; done) | (simp [*]; done)), (by first | rfl | (simp; done) | (simp [*]; done)), (by first | rfl | (simp; done) | (simp [*]; done)), H', ⟨by have := HJ4.out; have := HJ9.out; have := HJ12.out; have := HJ19.out; have := HJ23.out; have := HJ28.out; have := HJ36.out; first | omega | exact Nat.le_refl _⟩, ⟨by (with_reducible repeat (first | refine blk_drewN ?_ _ | refine blk_drew ?_ | refine blk_alloc ?_ _)); exact BK282.out⟩, ⟨by repeat (first | (with_reducible first | exact HB.out | apply below_alloc | apply pw_below_drewN | apply below_drew1 | refine below_set ?_ GE282.out) | exact HB.out)⟩⟩
                                · replace c36 := Bool.eq_false_iff.mpr c36
                                  subst c36
                                  have H1 : (erratumref02_Parse.j7 kj28 a0 x4_4 x5_23 t283 x7_23 (⟨#[]⟩ : ByteArray) false) = some (r1, r2, r3, r4) := by rw [if_neg (show ¬ (false = true) by decide)] at H; exact H
                                  clear H
                                  have H := H1
                                  clear H1
                                  have H' := Aside0.mk H
                                  clear H
                                  go_wp2
                                  try (any_goals (with_reducible refine halt_absurd ?_; (try simp only [ByteArray.size_extract, ByteArray.size_append, ba_size_mk, List.size_toArray, List.length_cons, List.length_nil] at *) <;> omega))
                                  go_meet
                                  case rel => exact ⟨_, (x5_23), ((⟨#[]⟩ : ByteArray)), (false), (x283000_23), (x283002_23), (by first | rfl | (simp; done) | (simp [*]; done)), (by first | rfl | (simp; done) | (simp [*]; done)), (by first | rfl | (simp; done) | (simp [*]; done)), H', ⟨by have := HJ4.out; have := HJ9.out; have := HJ12.out; have := HJ19.out; have := HJ23.out; have := HJ28.out; first | omega | exact Nat.le_refl _⟩, ⟨by (with_reducible repeat (first | refine blk_drewN ?_ _ | refine blk_drew ?_ | refine blk_alloc ?_ _)); exact BK282.out⟩, ⟨by repeat (first | (with_reducible first | exact HB.out | apply below_alloc | apply pw_below_drewN | apply below_drew1 | refine below_set ?_ GE282.out) | exact HB.out)⟩⟩
                              case rest =>
                                clear HC35
                                try clear c1
                                try clear p1
                                try clear q1
                                try clear hx1
                                try clear qi1
                                try clear c2
                                try clear c2b0
                                try clear c2b1
                                try clear p2
                                try clear q2
                                try clear hx2
                                try clear c3
                                try clear p3
                                try clear q3
                                try clear hx3
                                try clear c4
                                try clear p4
                                try clear q4
                                try clear hx4
                                try clear c5
                                try clear p6
                                try clear c7
                                try clear c7b0
                                try clear c7b1
                                try clear c8
                                try clear c8b0
                                try clear c8b1
                                try clear p9
                                try clear q9
                                try clear hx9
                                try clear qi9
                                try clear c11
                                try clear c14
                                try clear c14b0
                                try clear c14b1
                                try clear c15
                                try clear c15b0
                                try clear c15b1
                                try clear c16
                                try clear c16b0
                                try clear c16b1
                                try clear p17
                                try clear q17
                                try clear hx17
                                try clear qi17
                                try clear c18
                                try clear c21
                                try clear c21b0
                                try clear c22
                                try clear c22b0
                                try clear p23
                                try clear q23
                                try clear hx23
                                try clear c25
                                try clear c27
                                try clear c27b0
                                try clear c27b1
                                try clear c30
                                try clear c30b0
                                try clear c31
                                try clear c31b0
                                try clear p32
                                try clear q32
                                try clear hx32
                                try clear c33
                                try clear c33b0
                                try clear c33b1
                                try clear p34
                                try clear q34
                                try clear hx34
                                try clear c36
                                try clear c38
                                try clear c38b0
                                try clear c40
                                try clear c40b0
                                try clear p41
                                try clear q41
                                try clear hx41
                                try clear c42
                                try clear c42b0
                                try clear c42b1
                                try clear p43
                                try clear q43
                                try clear hx43
                                try clear c44
                                try clear c46
                                try clear c46b0
                                try clear c47
                                try clear c47b0
                                try clear p48
                                try clear q48
                                try clear hx48
                                try clear c50
                                try clear c50b0
                                try clear c50b1
                                try clear c53
                                try clear c53b0
                                try clear c53b1
                                try clear hcz19_0
                                try clear hcz19_1
                                try clear hcz19_2
                                try clear hcz28_0
                                try clear hcz28_1
                                try clear hcz28_2
                                try clear hcz4_0
                                try clear hcz4_1
                                try clear hcz4_2
                                try clear hcz51_0
                                try clear hcz51_1
                                try clear hcz51_2
                                try clear hcz54_0
                                try clear hcz54_1
                                try clear hcz54_2
                                try clear hfz19_0
                                try clear hfz19_1
                                try clear hfz19_2
                                try clear hfz28_0
                                try clear hfz28_1
                                try clear hfz28_2
                                try clear hfz4_0
                                try clear hfz4_1
                                try clear hfz4_2
                                try clear hfz51_0
                                try clear hfz51_1
                                try clear hfz51_2
                                try clear hfz54_0
                                try clear hfz54_1
                                try clear hfz54_2
                                try clear p1
                                try clear p17
                                try clear p2
                                try clear p23
                                try clear p3
                                try clear p32
                                try clear p34
                                try clear p4
                                try clear p41
                                try clear p43
                                try clear p48
                                try clear p6
                                try clear p9
                                try clear q1
                                try clear q17
                                try clear q2
                                try clear q23
                                try clear q3
                                try clear q32
                                try clear q34
                                try clear q4
                                try clear q41
                                try clear q43
                                try clear q48
                                try clear q9
                                obtain ⟨kq, x5_34, x8_34, x9_34, x283000_34, x283002_34, rfl, rfl, rfl, HA, HJ34, BK282, HB⟩ := hcut
                                cases kq with
                                | zero => exact absurd HA.out (by simp [erratumref02_Parse.j7])
                                | succ kj34 =>
                                  have H := HA.out
                                  clear HA
                                  simp only [erratumref02_Parse.j7] at H
                                  by_cases c55 : x5_34 < (a0.size : Int)
                                  · rw [if_pos c55] at H
                                    have c55b0 : decide (x5_34 < (a0.size : Int)) = true := decide_eq_true c55
                                    clear c55
                                    simp only [Option.some.injEq, Prod.mk.injEq] at H
                                    obtain ⟨rfl, rfl, rfl, rfl⟩ := H
                                    have hcz56_0 : wc.cell? ⟨gb282, 0, none⟩ = some (.bool x283000_34) := (blk_cell BK282.out 0).trans rfl
                                    have hcz56_1 : wc.cell? ⟨gb282, 1, none⟩ = some (.slice none 0 0) := (blk_cell BK282.out 1).trans rfl
                                    have hcz56_2 : wc.cell? ⟨gb282, 2, none⟩ = some (.int .i64 x283002_34) := (blk_cell BK282.out 2).trans rfl
                                    have hfz56_0 := blk_frozen BK282.out 0
                                    have hfz56_1 := blk_frozen BK282.out 1
                                    have hfz56_2 := blk_frozen BK282.out 2
                                    go_wp2
                                    try (any_goals (with_reducible refine halt_absurd ?_; (try simp only [ByteArray.size_extract, ByteArray.size_append, ba_size_mk, List.size_toArray, List.length_cons, List.length_nil] at *) <;> omega))
                                    refine bodyPost_ret (results_ct rfl _ _ gb282 25 #[.bool false, .slice none 0 0, .int .i64 0] (0, 0) _ rfl (by (with_reducible repeat (first | refine blk_drewN ?_ _ | refine blk_drew ?_ | refine blk_alloc ?_ _)); refine blk_put (cs := #[.bool false, .slice none 0 0, .int .i64 x283002_34]) ?_ 2 _ rfl; (with_reducible repeat (first | refine blk_drewN ?_ _ | refine blk_drew ?_ | refine blk_alloc ?_ _)); refine blk_put (cs := #[.bool false, .slice none 0 0, .int .i64 x283002_34]) ?_ 1 _ rfl; (with_reducible repeat (first | refine blk_drewN ?_ _ | refine blk_drew ?_ | refine blk_alloc ?_ _)); refine blk_put (cs := #[.bool x283000_34, .slice none 0 0, .int .i64 x283002_34]) ?_ 0 _ rfl; (with_reducible repeat (first | refine blk_drewN ?_ _ | refine blk_drew ?_ | refine blk_alloc ?_ _)); exact BK282.out) Tryd.underlying25 rfl (by kernel_rfl)) rfl ?_
                                    exact ⟨_, by first | rfl | (simp [errW_none, errW_some] <;> rfl) | (simp [*, errW_none, errW_some] <;> rfl), by first | exact Kd.R_nil _ _ _ _ _ | exact Kd.N_nil _ _ _ _ _ | exact Kd.V_nil _ _ _ _ _ | exact Kd.Q_nil _ _ _ _ _ | exact Kd.S_nil _ _ _ _ _, by repeat (first | (with_reducible first | exact HB.out | apply below_alloc | apply pw_below_drewN | apply below_drew1 | refine below_set ?_ GE282.out) | exact HB.out)⟩
                                  · rw [if_neg c55] at H
                                    have c55b0 : decide (x5_34 < (a0.size : Int)) = false := decide_eq_false c55
                                    clear c55
                                    by_cases c57 : t283.size + x7_23.size ≤ 9223372036854775807
                                    · rw [if_pos c57] at H
                                      have c57b0 := eq_true c57
                                      have c57b1 : decide (t283.size + x7_23.size ≤ 9223372036854775807) = true := decide_eq_true c57
                                      try have c57b2 : (9223372036854775807 < t283.size + x7_23.size) = False := eq_false (Nat.not_lt.2 c57)
                                      replace H := Option.bind_eq_some_iff.mp H
                                      obtain ⟨⟨t291, t292⟩, A580, H⟩ := H
                                      replace H : (if (t291.length : Int) = 0 then (some (false, ([] : List Int), 0, 0)) else ((erratumref02_exponent.f kj34 x8_34 x9_34).bind fun bt295 => ((erratumref02_Make.f kj34 x4_4 t291 (wrap64 (bt295.1 - (x7_23.size : Int)))).bind fun bt297 => (if bt295.2 = true then (if bt297.2.2.2 = true then (some (bt297.1, bt297.2.1, bt297.2.2.1, 0)) else (some (false, ([] : List Int), 0, 4))) else (some (false, ([] : List Int), 0, 4)))))) = some (r1, r2, r3, r4) := H
                                      have A58 := Aside0.mk A580
                                      clear A580
                                      by_cases c59 : (t291.length : Int) = 0
                                      · rw [if_pos c59] at H
                                        have c59b0 : ((t291.length : Int) == 0) = true := beq_iff_eq.mpr c59
                                        have c59b1 : ((t291.length : Int) != 0) = false := bne_eq_false_iff_eq.mpr c59
                                        clear c59
                                        simp only [Option.some.injEq, Prod.mk.injEq] at H
                                        obtain ⟨rfl, rfl, rfl, rfl⟩ := H
                                        go_wp2_with (first | ((with_reducible refine gate_callee (f := 28) rfl ?_); refine goesL_ (some 126) rfl rfl Tryd.func28 (by kernel_rfl) rfl #[.string (t283 ++ x7_23)] rfl (by (try simp only [List.map_toArray, List.map_cons, List.map_nil]); first | done | rfl | (simp only [List.length_drop, List.length_take]; rfl)) ?_; (with_reducible refine (erratumref01_Parse.calls kj34 (t283 ++ x7_23) t291 t292 _ A58.out).mono ?_); rintro e w60 ⟨v293, rfl, ho0, hb⟩; refine ⟨_, rfl, ?_⟩; have n0_ := Aside0.mk (Kd.R_lower ho0 (below_size (by repeat (first | (with_reducible first | exact HB.out | apply below_alloc | apply pw_below_drewN | apply below_drew1 | refine below_set ?_ GE282.out) | exact HB.out)))); have n1_ := Aside0.mk (blk_below (g := gb282) (o := .cells #[.bool x283000_34, .slice none 0 0, .int .i64 x283002_34] 25 (0, 0)) (by (with_reducible repeat (first | refine blk_drewN ?_ _ | refine blk_drew ?_ | refine blk_alloc ?_ _)); exact BK282.out) hb); have n2_ := Aside0.mk (below_step (by repeat (first | (with_reducible first | exact HB.out | apply below_alloc | apply pw_below_drewN | apply below_drew1 | refine below_set ?_ GE282.out) | exact HB.out)) hb); clear BK282; clear HB; have HO294 := n0_; have BK282 := n1_; have HB := n2_; clear n0_ n1_ n2_; (try clear hb); (try clear hb2); (try clear hk); (try clear hi); (try clear ho0); obtain ⟨Ao61, co61, eo61⟩ := Kd.R_slice HO294.out; subst eo61; have hcz62_0 : w60.cell? ⟨gb282, 0, none⟩ = some (.bool x283000_34) := (blk_cell BK282.out 0).trans rfl; have hcz62_1 : w60.cell? ⟨gb282, 1, none⟩ = some (.slice none 0 0) := (blk_cell BK282.out 1).trans rfl; have hcz62_2 : w60.cell? ⟨gb282, 2, none⟩ = some (.int .i64 x283002_34) := (blk_cell BK282.out 2).trans rfl; have hfz62_0 := blk_frozen BK282.out 0; have hfz62_1 := blk_frozen BK282.out 1; have hfz62_2 := blk_frozen BK282.out 2))
                                        try (any_goals (with_reducible refine halt_absurd ?_; (try simp only [ByteArray.size_extract, ByteArray.size_append, ba_size_mk, List.size_toArray, List.length_cons, List.length_nil] at *) <;> omega))
                                        refine bodyPost_ret (results_ct rfl _ _ gb282 25 #[.bool false, .slice none 0 0, .int .i64 0] (0, 0) _ rfl (by (with_reducible repeat (first | refine blk_drewN ?_ _ | refine blk_drew ?_ | refine blk_alloc ?_ _)); refine blk_put (cs := #[.bool false, .slice none 0 0, .int .i64 x283002_34]) ?_ 2 _ rfl; (with_reducible repeat (first | refine blk_drewN ?_ _ | refine blk_drew ?_ | refine blk_alloc ?_ _)); refine blk_put (cs := #[.bool false, .slice none 0 0, .int .i64 x283002_34]) ?_ 1 _ rfl; (with_reducible repeat (first | refine blk_drewN ?_ _ | refine blk_drew ?_ | refine blk_alloc ?_ _)); refine blk_put (cs := #[.bool x283000_34, .slice none 0 0, .int .i64 x283002_34]) ?_ 0 _ rfl; (with_reducible repeat (first | refine blk_drewN ?_ _ | refine blk_drew ?_ | refine blk_alloc ?_ _)); exact BK282.out) Tryd.underlying25 rfl (by kernel_rfl)) rfl ?_
                                        exact ⟨_, by first | rfl | (simp [errW_none, errW_some] <;> rfl) | (simp [*, errW_none, errW_some] <;> rfl), by first | exact Kd.R_nil _ _ _ _ _ | exact Kd.N_nil _ _ _ _ _ | exact Kd.V_nil _ _ _ _ _ | exact Kd.Q_nil _ _ _ _ _ | exact Kd.S_nil _ _ _ _ _, by repeat (first | (with_reducible first | exact HB.out | apply below_alloc | apply pw_below_drewN | apply below_drew1 | refine below_set ?_ GE282.out) | exact HB.out)⟩
                                      · rw [if_neg c59] at H
                                        have c59b0 : ((t291.length : Int) == 0) = false := beq_eq_false_iff_ne.mpr c59
                                        have c59b1 : ((t291.length : Int) != 0) = true := bne_iff_ne.mpr c59
                                        have c59b2 : ¬ (t291 = []) := fun h_ => c59 (by rw [h_]; rfl)
                                        replace H := Option.bind_eq_some_iff.mp H
                                        obtain ⟨⟨t295, t296⟩, A630, H⟩ := H
                                        replace H : ((erratumref02_Make.f kj34 x4_4 t291 (wrap64 (t295 - (x7_23.size : Int)))).bind fun bt297 => (if t296 = true then (if bt297.2.2.2 = true then (some (bt297.1, bt297.2.1, bt297.2.2.1, 0)) else (some (false, ([] : List Int), 0, 4))) else (some (false, ([] : List Int), 0, 4)))) = some (r1, r2, r3, r4) := H
                                        have A63 := Aside0.mk A630
                                        clear A630
                                        replace H := Option.bind_eq_some_iff.mp H
                                        obtain ⟨⟨t297, t298, t301, t302⟩, A640, H⟩ := H
                                        replace H : (if t296 = true then (if t302 = true then (some (t297, t298, t301, 0)) else (some (false, ([] : List Int), 0, 4))) else (some (false, ([] : List Int), 0, 4))) = some (r1, r2, r3, r4) := H
                                        have A64 := Aside0.mk A640
                                        clear A640
                                        by_cases c65 : t296 = true
                                        · subst c65
                                          have H1 : (if t302 = true then (some (t297, t298, t301, 0)) else (some (false, ([] : List Int), 0, 4))) = some (r1, r2, r3, r4) := by rw [if_pos rfl] at H; exact H
                                          clear H
                                          have H := H1
                                          clear H1
                                          by_cases c66 : t302 = true
                                          · subst c66
                                            have H1 : (some (t297, t298, t301, 0)) = some (r1, r2, r3, r4) := by rw [if_pos rfl] at H; exact H
                                            clear H
                                            have H := H1
                                            clear H1
                                            simp only [Option.some.injEq, Prod.mk.injEq] at H
                                            obtain ⟨rfl, rfl, rfl, rfl⟩ := H
                                            go_wp2_with (first | ((with_reducible refine gate_callee (f := 28) rfl ?_); refine goesL_ (some 126) rfl rfl Tryd.func28 (by kernel_rfl) rfl #[.string (t283 ++ x7_23)] rfl (by (try simp only [List.map_toArray, List.map_cons, List.map_nil]); first | done | rfl | (simp only [List.length_drop, List.length_take]; rfl)) ?_; (with_reducible refine (erratumref01_Parse.calls kj34 (t283 ++ x7_23) t291 t292 _ A58.out).mono ?_); rintro e w67 ⟨v293, rfl, ho0, hb⟩; refine ⟨_, rfl, ?_⟩; have n0_ := Aside0.mk (Kd.R_lower ho0 (below_size (by repeat (first | (with_reducible first | exact HB.out | apply below_alloc | apply pw_below_drewN | apply below_drew1 | refine below_set ?_ GE282.out) | exact HB.out)))); have n1_ := Aside0.mk (blk_below (g := gb282) (o := .cells #[.bool x283000_34, .slice none 0 0, .int .i64 x283002_34] 25 (0, 0)) (by (with_reducible repeat (first | refine blk_drewN ?_ _ | refine blk_drew ?_ | refine blk_alloc ?_ _)); exact BK282.out) hb); have n2_ := Aside0.mk (below_step (by repeat (first | (with_reducible first | exact HB.out | apply below_alloc | apply pw_below_drewN | apply below_drew1 | refine below_set ?_ GE282.out) | exact HB.out)) hb); clear BK282; clear HB; have HO294 := n0_; have BK282 := n1_; have HB := n2_; clear n0_ n1_ n2_; (try clear hb); (try clear hb2); (try clear hk); (try clear hi); (try clear ho0); obtain ⟨Ao68, co68, eo68⟩ := Kd.R_slice HO294.out; subst eo68) | ((with_reducible refine gate_callee (f := 29) rfl ?_); refine goesL_ (some 136) rfl rfl Tryd.func29 (by kernel_rfl) rfl #[.string x8_34, .bool x9_34] rfl (by (try simp only [List.map_toArray, List.map_cons, List.map_nil]); first | done | rfl | (simp only [List.length_drop, List.length_take]; rfl)) ?_; (with_reducible refine (erratumref02_exponent.calls kj34 x8_34 x9_34 t295 true _ A63.out).mono ?_); rintro e w' ⟨rfl, ⟨nd, rfl⟩⟩; refine ⟨_, rfl, ?_⟩; (try (rw [drewN_self w67]; generalize hq_ : World.drewN w67 _ = w67; have n0_ : Aside0 (Kd.R (Kd.int .u32) 40 w67 w.heap.size (fun _ => True) (.slice Ao68 t291.length co68) t291) := ⟨by rw [← hq_]; exact (by (with_reducible repeat (first | apply Kd.R_alloc | apply Kd.R_drewN | apply Kd.R_drew)); exact HO294.out)⟩; have n1_ : Aside0 (w67.heap[gb282]? = some (.cells #[.bool x283000_34, .slice none 0 0, .int .i64 x283002_34] 25 (0, 0))) := ⟨by rw [← hq_]; exact (by (with_reducible repeat (first | refine blk_drewN ?_ _ | refine blk_drew ?_ | refine blk_alloc ?_ _)); exact BK282.out)⟩; have n2_ : Aside0 (Below w.heap.size w w67) := ⟨by rw [← hq_]; exact (by repeat (first | (with_reducible first | exact HB.out | apply below_alloc | apply pw_below_drewN | apply below_drew1 | refine below_set ?_ GE282.out) | exact HB.out))⟩; clear HO294 BK282 HB hq_; have HO294 := n0_; have BK282 := n1_; have HB := n2_; clear n0_ n1_ n2_))) | ((with_reducible refine gate_callee (f := 30) rfl ?_); refine goesL_ (some 146) rfl rfl Tryd.func30 (by kernel_rfl) rfl #[.bool x4_4, .slice Ao68 t291.length co68, .int .i64 (wrap64 (t295 - (x7_23.size : Int)))] rfl (by (try simp only [List.map_toArray, List.map_cons, List.map_nil]); first | done | rfl | (simp only [List.length_drop, List.length_take]; rfl)) ?_; (with_reducible refine (erratumref02_Make.calls kj34 x4_4 _ _ t291 (wrap64 (t295 - (x7_23.size : Int))) t297 t298 t301 true _ ?side1 ?side2 A64.out).mono ?_); (case side1 => repeat (first | exact (Kd.R_reads' HO294.out).2.2 | (with_reducible refine Kd.C_alloc ?_ _) | (with_reducible refine Kd.C_drewN ?_ _) | (with_reducible refine Kd.C_drew ?_))); (case side2 => exact (Kd.R_reads' HO294.out).2.1); rintro e w69 ⟨v299, rfl, ho0, hb⟩; refine ⟨_, rfl, ?_⟩; have n0_ := Aside0.mk (Kd.R_elder' (by (with_reducible repeat (first | apply Kd.R_alloc | apply Kd.R_drewN | apply Kd.R_drew)); exact HO294.out) (Kd.R_base ho0) hb); have n1_ := Aside0.mk (Kd.R_lower (Kd.R_new' ho0 (Kd.R_lt (by (with_reducible repeat (first | apply Kd.R_alloc | apply Kd.R_drewN | apply Kd.R_drew)); exact HO294.out))) (below_size (by repeat (first | (with_reducible first | exact HB.out | apply below_alloc | apply pw_below_drewN | apply below_drew1 | refine below_set ?_ GE282.out) | exact HB.out)))); have n2_ := Aside0.mk (blk_below (g := gb282) (o := .cells #[.bool x283000_34, .slice none 0 0, .int .i64 x283002_34] 25 (0, 0)) (by (with_reducible repeat (first | refine blk_drewN ?_ _ | refine blk_drew ?_ | refine blk_alloc ?_ _)); exact BK282.out) hb); have n3_ := Aside0.mk (below_step (by repeat (first | (with_reducible first | exact HB.out | apply below_alloc | apply pw_below_drewN | apply below_drew1 | refine below_set ?_ GE282.out) | exact HB.out)) hb); clear HO294; clear BK282; clear HB; have HO294 := n0_; have HO300 := n1_; have BK282 := n2_; have HB := n3_; clear n0_ n1_ n2_ n3_; (try clear hb); (try clear hb2); (try clear hk); (try clear hi); (try clear ho0)) | ((with_reducible refine gate_dst (N := 14) rfl ?_); (try (refine gate_guard (by rfl) ?_; dsimp only)); refine box_event ?hg (N := 14) ?hd (cs := #[.bool false, .slice none 0 0, .int .i64 0]) (t := 25) ?hr ?_; (case hd => rfl); (case hg => rfl); (case hr => first | (go_simp; done) | (go_simp; rfl) | (go_simp; simp only [x_u32u8, x_u8, x_u32, x_u64, x_mm]; first | done | rfl)); intro gb303 hg w70 hbox hb; have n0_ := Aside0.mk (Kd.R_below (by (with_reducible repeat (first | apply Kd.R_alloc | apply Kd.R_drewN | apply Kd.R_drew)); exact HO294.out) hb); have n1_ := Aside0.mk (Kd.R_below (by (with_reducible repeat (first | apply Kd.R_alloc | apply Kd.R_drewN | apply Kd.R_drew)); exact HO300.out) hb); have n2_ := Aside0.mk (blk_below (g := gb282) (o := .cells #[.bool x283000_34, .slice none 0 0, .int .i64 x283002_34] 25 (0, 0)) (by (with_reducible repeat (first | refine blk_drewN ?_ _ | refine blk_drew ?_ | refine blk_alloc ?_ _)); exact BK282.out) hb); have n3_ := Aside0.mk (below_step (by repeat (first | (with_reducible first | exact HB.out | apply below_alloc | apply pw_below_drewN | apply below_drew1 | refine below_set ?_ GE282.out) | exact HB.out)) hb); have n4_ := Aside0.mk (hbox); have n5_ := Aside0.mk ((by rw [hg]; exact (below_size (by repeat (first | (with_reducible first | exact HB.out | apply below_alloc | apply pw_below_drewN | apply below_drew1 | refine below_set ?_ GE282.out) | exact HB.out))) : w.heap.size ≤ gb303)); have n6_ := Aside0.mk ((by rw [hg]; exact (below_size (by repeat (first | (with_reducible first | exact HB.out | apply below_alloc | apply pw_below_drewN | apply below_drew1 | refine below_set ?_ GE282.out) | exact HB.out))) : w.heap.size ≤ gb303)); have n7_ := Aside0.mk ((by rw [hg]; exact Nat.ne_of_lt (blk_lt (g := gb282) (o := .cells #[.bool x283000_34, .slice none 0 0, .int .i64 x283002_34] 25 (0, 0)) (by (with_reducible repeat (first | refine blk_drewN ?_ _ | refine blk_drew ?_ | refine blk_alloc ?_ _)); exact BK282.out)) : gb282 ≠ gb303)); have n8_ := Aside0.mk ((by rw [hg]; exact Nat.ne_of_gt (blk_lt (g := gb282) (o := .cells #[.bool x283000_34, .slice none 0 0, .int .i64 x283002_34] 25 (0, 0)) (by (with_reducible repeat (first | refine blk_drewN ?_ _ | refine blk_drew ?_ | refine blk_alloc ?_ _)); exact BK282.out)) : gb303 ≠ gb282)); clear HO294; clear HO300; clear BK282; clear HB; have HO294 := n0_; have HO300 := n1_; have BK282 := n2_; have HB := n3_; have BK303 := n4_; have GW303 := n5_; have GE303 := n6_; have NB282_303 := n7_; have NB303_282 := n8_; clear n0_ n1_ n2_ n3_ n4_ n5_ n6_ n7_ n8_; clear hb hbox hg; have hnb71 := NB303_282.out; have hnc71 := NB282_303.out; have hcz72_0 : w70.cell? ⟨gb303, 0, none⟩ = some (.bool false) := (blk_cell BK303.out 0).trans rfl; have hcz72_1 : w70.cell? ⟨gb303, 1, none⟩ = some (.slice none 0 0) := (blk_cell BK303.out 1).trans rfl; have hcz72_2 : w70.cell? ⟨gb303, 2, none⟩ = some (.int .i64 0) := (blk_cell BK303.out 2).trans rfl; have hfz72_0 := blk_frozen BK303.out 0; have hfz72_1 := blk_frozen BK303.out 1; have hfz72_2 := blk_frozen BK303.out 2; obtain ⟨Ao73, co73, eo73⟩ := Kd.R_slice HO300.out; subst eo73; have hcz74_0 : w70.cell? ⟨gb282, 0, none⟩ = some (.bool x283000_34) := (blk_cell BK282.out 0).trans rfl; have hcz74_1 : w70.cell? ⟨gb282, 1, none⟩ = some (.slice none 0 0) := (blk_cell BK282.out 1).trans rfl; have hcz74_2 : w70.cell? ⟨gb282, 2, none⟩ = some (.int .i64 x283002_34) := (blk_cell BK282.out 2).trans rfl; have hfz74_0 := blk_frozen BK282.out 0; have hfz74_1 := blk_frozen BK282.out 1; have hfz74_2 := blk_frozen BK282.out 2))
                                            try (any_goals (with_reducible refine halt_absurd ?_; (try simp only [ByteArray.size_extract, ByteArray.size_append, ba_size_mk, List.size_toArray, List.length_cons, List.length_nil] at *) <;> omega))
                                            refine bodyPost_ret (results_ct rfl _ _ gb282 25 #[.bool t297, .slice Ao73 t298.length co73, .int .i64 t301] (0, 0) _ rfl (by (with_reducible repeat (first | refine blk_drewN ?_ _ | refine blk_drew ?_ | refine blk_alloc ?_ _)); refine blk_put (cs := #[.bool t297, .slice Ao73 t298.length co73, .int .i64 x283002_34]) ?_ 2 _ rfl; (with_reducible repeat (first | refine blk_drewN ?_ _ | refine blk_drew ?_ | refine blk_alloc ?_ _)); refine blk_put (cs := #[.bool t297, .slice none 0 0, .int .i64 x283002_34]) ?_ 1 _ rfl; (with_reducible repeat (first | refine blk_drewN ?_ _ | refine blk_drew ?_ | refine blk_alloc ?_ _)); refine blk_put (cs := #[.bool x283000_34, .slice none 0 0, .int .i64 x283002_34]) ?_ 0 _ rfl; (with_reducible repeat (first | refine blk_drewN ?_ _ | refine blk_drew ?_ | refine blk_alloc ?_ _)); refine blk_far ?_ NB282_303.out _; (with_reducible repeat (first | refine blk_drewN ?_ _ | refine blk_drew ?_ | refine blk_alloc ?_ _)); refine blk_far ?_ NB282_303.out _; (with_reducible repeat (first | refine blk_drewN ?_ _ | refine blk_drew ?_ | refine blk_alloc ?_ _)); refine blk_far ?_ NB282_303.out _; (with_reducible repeat (first | refine blk_drewN ?_ _ | refine blk_drew ?_ | refine blk_alloc ?_ _)); exact BK282.out) Tryd.underlying25 rfl (by kernel_rfl)) rfl ?_
                                            exact ⟨_, by first | rfl | (simp [errW_none, errW_some] <;> rfl) | (simp [*, errW_none, errW_some] <;> rfl), by (with_reducible repeat (first | apply Kd.R_alloc | apply Kd.R_drewN | apply Kd.R_drew)); exact Kd.R_mono (Kd.R_far (p := ⟨gb282, 2, none⟩) (Kd.R_far (p := ⟨gb282, 1, none⟩) (Kd.R_far (p := ⟨gb282, 0, none⟩) (Kd.R_far (p := ⟨gb303, 2, none⟩) (Kd.R_far (p := ⟨gb303, 1, none⟩) (Kd.R_far (p := ⟨gb303, 0, none⟩) (Kd.R_types (Kd.R_types HO300.out BK303.out (by decide)) BK282.out (by decide)) (fun _ hk => hk.1.2) (.bool t297)) (fun _ hk => hk.1.2) (.slice Ao73 t298.length co73)) (fun _ hk => hk.1.2) (.int .i64 t301)) (fun _ hk => hk.2) (.bool t297)) (fun _ hk => hk.2) (.slice Ao73 t298.length co73)) (fun _ hk => hk.2) (.int .i64 t301)) (fun _ hk => trivial), by repeat (first | (with_reducible first | exact HB.out | apply below_alloc | apply pw_below_drewN | apply below_drew1 | refine below_set ?_ GE282.out | refine below_set ?_ GE303.out) | exact HB.out)⟩
                                          · replace c66 := Bool.eq_false_iff.mpr c66
                                            subst c66
                                            have H1 : (some (false, ([] : List Int), 0, 4)) = some (r1, r2, r3, r4) := by rw [if_neg (show ¬ (false = true) by decide)] at H; exact H
                                            clear H
                                            have H := H1
                                            clear H1
                                            simp only [Option.some.injEq, Prod.mk.injEq] at H
                                            obtain ⟨rfl, rfl, rfl, rfl⟩ := H
                                            go_wp2_with (first | ((with_reducible refine gate_callee (f := 28) rfl ?_); refine goesL_ (some 126) rfl rfl Tryd.func28 (by kernel_rfl) rfl #[.string (t283 ++ x7_23)] rfl (by (try simp only [List.map_toArray, List.map_cons, List.map_nil]); first | done | rfl | (simp only [List.length_drop, List.length_take]; rfl)) ?_; (with_reducible refine (erratumref01_Parse.calls kj34 (t283 ++ x7_23) t291 t292 _ A58.out).mono ?_); rintro e w75 ⟨v293, rfl, ho0, hb⟩; refine ⟨_, rfl, ?_⟩; have n0_ := Aside0.mk (Kd.R_lower ho0 (below_size (by repeat (first | (with_reducible first | exact HB.out | apply below_alloc | apply pw_below_drewN | apply below_drew1 | refine below_set ?_ GE282.out) | exact HB.out)))); have n1_ := Aside0.mk (blk_below (g := gb282) (o := .cells #[.bool x283000_34, .slice none 0 0, .int .i64 x283002_34] 25 (0, 0)) (by (with_reducible repeat (first | refine blk_drewN ?_ _ | refine blk_drew ?_ | refine blk_alloc ?_ _)); exact BK282.out) hb); have n2_ := Aside0.mk (below_step (by repeat (first | (with_reducible first | exact HB.out | apply below_alloc | apply pw_below_drewN | apply below_drew1 | refine below_set ?_ GE282.out) | exact HB.out)) hb); clear BK282; clear HB; have HO294 := n0_; have BK282 := n1_; have HB := n2_; clear n0_ n1_ n2_; (try clear hb); (try clear hb2); (try clear hk); (try clear hi); (try clear ho0); obtain ⟨Ao76, co76, eo76⟩ := Kd.R_slice HO294.out; subst eo76) | ((with_reducible refine gate_callee (f := 29) rfl ?_); refine goesL_ (some 136) rfl rfl Tryd.func29 (by kernel_rfl) rfl #[.string x8_34, .bool x9_34] rfl (by (try simp only [List.map_toArray, List.map_cons, List.map_nil]); first | done | rfl | (simp only [List.length_drop, List.length_take]; rfl)) ?_; (with_reducible refine (erratumref02_exponent.calls kj34 x8_34 x9_34 t295 true _ A63.out).mono ?_); rintro e w' ⟨rfl, ⟨nd, rfl⟩⟩; refine ⟨_, rfl, ?_⟩; (try (rw [drewN_self w75]; generalize hq_ : World.drewN w75 _ = w75; have n0_ : Aside0 (Kd.R (Kd.int .u32) 40 w75 w.heap.size (fun _ => True) (.slice Ao76 t291.length co76) t291) := ⟨by rw [← hq_]; exact (by (with_reducible repeat (first | apply Kd.R_alloc | apply Kd.R_drewN | apply Kd.R_drew)); exact HO294.out)⟩; have n1_ : Aside0 (w75.heap[gb282]? = some (.cells #[.bool x283000_34, .slice none 0 0, .int .i64 x283002_34] 25 (0, 0))) := ⟨by rw [← hq_]; exact (by (with_reducible repeat (first | refine blk_drewN ?_ _ | refine blk_drew ?_ | refine blk_alloc ?_ _)); exact BK282.out)⟩; have n2_ : Aside0 (Below w.heap.size w w75) := ⟨by rw [← hq_]; exact (by repeat (first | (with_reducible first | exact HB.out | apply below_alloc | apply pw_below_drewN | apply below_drew1 | refine below_set ?_ GE282.out) | exact HB.out))⟩; clear HO294 BK282 HB hq_; have HO294 := n0_; have BK282 := n1_; have HB := n2_; clear n0_ n1_ n2_))) | ((with_reducible refine gate_callee (f := 30) rfl ?_); refine goesL_ (some 146) rfl rfl Tryd.func30 (by kernel_rfl) rfl #[.bool x4_4, .slice Ao76 t291.length co76, .int .i64 (wrap64 (t295 - (x7_23.size : Int)))] rfl (by (try simp only [List.map_toArray, List.map_cons, List.map_nil]); first | done | rfl | (simp only [List.length_drop, List.length_take]; rfl)) ?_; (with_reducible refine (erratumref02_Make.calls kj34 x4_4 _ _ t291 (wrap64 (t295 - (x7_23.size : Int))) t297 t298 t301 false _ ?side1 ?side2 A64.out).mono ?_); (case side1 => repeat (first | exact (Kd.R_reads' HO294.out).2.2 | (with_reducible refine Kd.C_alloc ?_ _) | (with_reducible refine Kd.C_drewN ?_ _) | (with_reducible refine Kd.C_drew ?_))); (case side2 => exact (Kd.R_reads' HO294.out).2.1); rintro e w77 ⟨v299, rfl, ho0, hb⟩; refine ⟨_, rfl, ?_⟩; have n0_ := Aside0.mk (Kd.R_elder' (by (with_reducible repeat (first | apply Kd.R_alloc | apply Kd.R_drewN | apply Kd.R_drew)); exact HO294.out) (Kd.R_base ho0) hb); have n1_ := Aside0.mk (Kd.R_lower (Kd.R_new' ho0 (Kd.R_lt (by (with_reducible repeat (first | apply Kd.R_alloc | apply Kd.R_drewN | apply Kd.R_drew)); exact HO294.out))) (below_size (by repeat (first | (with_reducible first | exact HB.out | apply below_alloc | apply pw_below_drewN | apply below_drew1 | refine below_set ?_ GE282.out) | exact HB.out)))); have n2_ := Aside0.mk (blk_below (g := gb282) (o := .cells #[.bool x283000_34, .slice none 0 0, .int .i64 x283002_34] 25 (0, 0)) (by (with_reducible repeat (first | refine blk_drewN ?_ _ | refine blk_drew ?_ | refine blk_alloc ?_ _)); exact BK282.out) hb); have n3_ := Aside0.mk (below_step (by repeat (first | (with_reducible first | exact HB.out | apply below_alloc | apply pw_below_drewN | apply below_drew1 | refine below_set ?_ GE282.out) | exact HB.out)) hb); clear HO294; clear BK282; clear HB; have HO294 := n0_; have HO300 := n1_; have BK282 := n2_; have HB := n3_; clear n0_ n1_ n2_ n3_; (try clear hb); (try clear hb2); (try clear hk); (try clear hi); (try clear ho0)) | ((with_reducible refine gate_dst (N := 14) rfl ?_); (try (refine gate_guard (by rfl) ?_; dsimp only)); refine box_event ?hg (N := 14) ?hd (cs := #[.bool false, .slice none 0 0, .int .i64 0]) (t := 25) ?hr ?_; (case hd => rfl); (case hg => rfl); (case hr => first | (go_simp; done) | (go_simp; rfl) | (go_simp; simp only [x_u32u8, x_u8, x_u32, x_u64, x_mm]; first | done | rfl)); intro gb303 hg w78 hbox hb; have n0_ := Aside0.mk (Kd.R_below (by (with_reducible repeat (first | apply Kd.R_alloc | apply Kd.R_drewN | apply Kd.R_drew)); exact HO294.out) hb); have n1_ := Aside0.mk (Kd.R_below (by (with_reducible repeat (first | apply Kd.R_alloc | apply Kd.R_drewN | apply Kd.R_drew)); exact HO300.out) hb); have n2_ := Aside0.mk (blk_below (g := gb282) (o := .cells #[.bool x283000_34, .slice none 0 0, .int .i64 x283002_34] 25 (0, 0)) (by (with_reducible repeat (first | refine blk_drewN ?_ _ | refine blk_drew ?_ | refine blk_alloc ?_ _)); exact BK282.out) hb); have n3_ := Aside0.mk (below_step (by repeat (first | (with_reducible first | exact HB.out | apply below_alloc | apply pw_below_drewN | apply below_drew1 | refine below_set ?_ GE282.out) | exact HB.out)) hb); have n4_ := Aside0.mk (hbox); have n5_ := Aside0.mk ((by rw [hg]; exact (below_size (by repeat (first | (with_reducible first | exact HB.out | apply below_alloc | apply pw_below_drewN | apply below_drew1 | refine below_set ?_ GE282.out) | exact HB.out))) : w.heap.size ≤ gb303)); have n6_ := Aside0.mk ((by rw [hg]; exact (below_size (by repeat (first | (with_reducible first | exact HB.out | apply below_alloc | apply pw_below_drewN | apply below_drew1 | refine below_set ?_ GE282.out) | exact HB.out))) : w.heap.size ≤ gb303)); have n7_ := Aside0.mk ((by rw [hg]; exact Nat.ne_of_lt (blk_lt (g := gb282) (o := .cells #[.bool x283000_34, .slice none 0 0, .int .i64 x283002_34] 25 (0, 0)) (by (with_reducible repeat (first | refine blk_drewN ?_ _ | refine blk_drew ?_ | refine blk_alloc ?_ _)); exact BK282.out)) : gb282 ≠ gb303)); have n8_ := Aside0.mk ((by rw [hg]; exact Nat.ne_of_gt (blk_lt (g := gb282) (o := .cells #[.bool x283000_34, .slice none 0 0, .int .i64 x283002_34] 25 (0, 0)) (by (with_reducible repeat (first | refine blk_drewN ?_ _ | refine blk_drew ?_ | refine blk_alloc ?_ _)); exact BK282.out)) : gb303 ≠ gb282)); clear HO294; clear HO300; clear BK282; clear HB; have HO294 := n0_; have HO300 := n1_; have BK282 := n2_; have HB := n3_; have BK303 := n4_; have GW303 := n5_; have GE303 := n6_; have NB282_303 := n7_; have NB303_282 := n8_; clear n0_ n1_ n2_ n3_ n4_ n5_ n6_ n7_ n8_; clear hb hbox hg; have hnb79 := NB303_282.out; have hnc79 := NB282_303.out; have hcz80_0 : w78.cell? ⟨gb303, 0, none⟩ = some (.bool false) := (blk_cell BK303.out 0).trans rfl; have hcz80_1 : w78.cell? ⟨gb303, 1, none⟩ = some (.slice none 0 0) := (blk_cell BK303.out 1).trans rfl; have hcz80_2 : w78.cell? ⟨gb303, 2, none⟩ = some (.int .i64 0) := (blk_cell BK303.out 2).trans rfl; have hfz80_0 := blk_frozen BK303.out 0; have hfz80_1 := blk_frozen BK303.out 1; have hfz80_2 := blk_frozen BK303.out 2; obtain ⟨Ao81, co81, eo81⟩ := Kd.R_slice HO300.out; subst eo81; have hcz82_0 : w78.cell? ⟨gb282, 0, none⟩ = some (.bool x283000_34) := (blk_cell BK282.out 0).trans rfl; have hcz82_1 : w78.cell? ⟨gb282, 1, none⟩ = some (.slice none 0 0) := (blk_cell BK282.out 1).trans rfl; have hcz82_2 : w78.cell? ⟨gb282, 2, none⟩ = some (.int .i64 x283002_34) := (blk_cell BK282.out 2).trans rfl; have hfz82_0 := blk_frozen BK282.out 0; have hfz82_1 := blk_frozen BK282.out 1; have hfz82_2 := blk_frozen BK282.out 2))
                                            try (any_goals (with_reducible refine halt_absurd ?_; (try simp only [ByteArray.size_extract, ByteArray.size_append, ba_size_mk, List.size_toArray, List.length_cons, List.length_nil] at *) <;> omega))
                                            refine bodyPost_ret (results_ct rfl _ _ gb282 25 #[.bool false, .slice none 0 0, .int .i64 0] (0, 0) _ rfl (by (with_reducible repeat (first | refine blk_drewN ?_ _ | refine blk_drew ?_ | refine blk_alloc ?_ _)); refine blk_put (cs := #[.bool false, .slice none 0 0, .int .i64 x283002_34]) ?_ 2 _ rfl; (with_reducible repeat (first | refine blk_drewN ?_ _ | refine blk_drew ?_ | refine blk_alloc ?_ _)); refine blk_put (cs := #[.bool false, .slice none 0 0, .int .i64 x283002_34]) ?_ 1 _ rfl; (with_reducible repeat (first | refine blk_drewN ?_ _ | refine blk_drew ?_ | refine blk_alloc ?_ _)); refine blk_put (cs := #[.bool x283000_34, .slice none 0 0, .int .i64 x283002_34]) ?_ 0 _ rfl; (with_reducible repeat (first | refine blk_drewN ?_ _ | refine blk_drew ?_ | refine blk_alloc ?_ _)); refine blk_far ?_ NB282_303.out _; (with_reducible repeat (first | refine blk_drewN ?_ _ | refine blk_drew ?_ | refine blk_alloc ?_ _)); refine blk_far ?_ NB282_303.out _; (with_reducible repeat (first | refine blk_drewN ?_ _ | refine blk_drew ?_ | refine blk_alloc ?_ _)); refine blk_far ?_ NB282_303.out _; (with_reducible repeat (first | refine blk_drewN ?_ _ | refine blk_drew ?_ | refine blk_alloc ?_ _)); exact BK282.out) Tryd.underlying25 rfl (by kernel_rfl)) rfl ?_
                                            exact ⟨_, by first | rfl | (simp [errW_none, errW_some] <;> rfl) | (simp [*, errW_none, errW_some] <;> rfl), by first | exact Kd.R_nil _ _ _ _ _ | exact Kd.N_nil _ _ _ _ _ | exact Kd.V_nil _ _ _ _ _ | exact Kd.Q_nil _ _ _ _ _ | exact Kd.S_nil _ _ _ _ _, by repeat (first | (with_reducible first | exact HB.out | apply below_alloc | apply pw_below_drewN | apply below_drew1 | refine below_set ?_ GE282.out | refine below_set ?_ GE303.out) | exact HB.out)⟩
                                        · replace c65 := Bool.eq_false_iff.mpr c65
                                          subst c65
                                          have H1 : (some (false, ([] : List Int), 0, 4)) = some (r1, r2, r3, r4) := by rw [if_neg (show ¬ (false = true) by decide)] at H; exact H
                                          clear H
                                          have H := H1
                                          clear H1
                                          simp only [Option.some.injEq, Prod.mk.injEq] at H
                                          obtain ⟨rfl, rfl, rfl, rfl⟩ := H
                                          go_wp2_with (first | ((with_reducible refine gate_callee (f := 28) rfl ?_); refine goesL_ (some 126) rfl rfl Tryd.func28 (by kernel_rfl) rfl #[.string (t283 ++ x7_23)] rfl (by (try simp only [List.map_toArray, List.map_cons, List.map_nil]); first | done | rfl | (simp only [List.length_drop, List.length_take]; rfl)) ?_; (with_reducible refine (erratumref01_Parse.calls kj34 (t283 ++ x7_23) t291 t292 _ A58.out).mono ?_); rintro e w83 ⟨v293, rfl, ho0, hb⟩; refine ⟨_, rfl, ?_⟩; have n0_ := Aside0.mk (Kd.R_lower ho0 (below_size (by repeat (first | (with_reducible first | exact HB.out | apply below_alloc | apply pw_below_drewN | apply below_drew1 | refine below_set ?_ GE282.out) | exact HB.out)))); have n1_ := Aside0.mk (blk_below (g := gb282) (o := .cells #[.bool x283000_34, .slice none 0 0, .int .i64 x283002_34] 25 (0, 0)) (by (with_reducible repeat (first | refine blk_drewN ?_ _ | refine blk_drew ?_ | refine blk_alloc ?_ _)); exact BK282.out) hb); have n2_ := Aside0.mk (below_step (by repeat (first | (with_reducible first | exact HB.out | apply below_alloc | apply pw_below_drewN | apply below_drew1 | refine below_set ?_ GE282.out) | exact HB.out)) hb); clear BK282; clear HB; have HO294 := n0_; have BK282 := n1_; have HB := n2_; clear n0_ n1_ n2_; (try clear hb); (try clear hb2); (try clear hk); (try clear hi); (try clear ho0); obtain ⟨Ao84, co84, eo84⟩ := Kd.R_slice HO294.out; subst eo84) | ((with_reducible refine gate_callee (f := 29) rfl ?_); refine goesL_ (some 136) rfl rfl Tryd.func29 (by kernel_rfl) rfl #[.string x8_34, .bool x9_34] rfl (by (try simp only [List.map_toArray, List.map_cons, List.map_nil]); first | done | rfl | (simp only [List.length_drop, List.length_take]; rfl)) ?_; (with_reducible refine (erratumref02_exponent.calls kj34 x8_34 x9_34 t295 false _ A63.out).mono ?_); rintro e w' ⟨rfl, ⟨nd, rfl⟩⟩; refine ⟨_, rfl, ?_⟩; (try (rw [drewN_self w83]; generalize hq_ : World.drewN w83 _ = w83; have n0_ : Aside0 (Kd.R (Kd.int .u32) 40 w83 w.heap.size (fun _ => True) (.slice Ao84 t291.length co84) t291) := ⟨by rw [← hq_]; exact (by (with_reducible repeat (first | apply Kd.R_alloc | apply Kd.R_drewN | apply Kd.R_drew)); exact HO294.out)⟩; have n1_ : Aside0 (w83.heap[gb282]? = some (.cells #[.bool x283000_34, .slice none 0 0, .int .i64 x283002_34] 25 (0, 0))) := ⟨by rw [← hq_]; exact (by (with_reducible repeat (first | refine blk_drewN ?_ _ | refine blk_drew ?_ | refine blk_alloc ?_ _)); exact BK282.out)⟩; have n2_ : Aside0 (Below w.heap.size w w83) := ⟨by rw [← hq_]; exact (by repeat (first | (with_reducible first | exact HB.out | apply below_alloc | apply pw_below_drewN | apply below_drew1 | refine below_set ?_ GE282.out) | exact HB.out))⟩; clear HO294 BK282 HB hq_; have HO294 := n0_; have BK282 := n1_; have HB := n2_; clear n0_ n1_ n2_))) | ((with_reducible refine gate_callee (f := 30) rfl ?_); refine goesL_ (some 146) rfl rfl Tryd.func30 (by kernel_rfl) rfl #[.bool x4_4, .slice Ao84 t291.length co84, .int .i64 (wrap64 (t295 - (x7_23.size : Int)))] rfl (by (try simp only [List.map_toArray, List.map_cons, List.map_nil]); first | done | rfl | (simp only [List.length_drop, List.length_take]; rfl)) ?_; (with_reducible refine (erratumref02_Make.calls kj34 x4_4 _ _ t291 (wrap64 (t295 - (x7_23.size : Int))) t297 t298 t301 t302 _ ?side1 ?side2 A64.out).mono ?_); (case side1 => repeat (first | exact (Kd.R_reads' HO294.out).2.2 | (with_reducible refine Kd.C_alloc ?_ _) | (with_reducible refine Kd.C_drewN ?_ _) | (with_reducible refine Kd.C_drew ?_))); (case side2 => exact (Kd.R_reads' HO294.out).2.1); rintro e w85 ⟨v299, rfl, ho0, hb⟩; refine ⟨_, rfl, ?_⟩; have n0_ := Aside0.mk (Kd.R_elder' (by (with_reducible repeat (first | apply Kd.R_alloc | apply Kd.R_drewN | apply Kd.R_drew)); exact HO294.out) (Kd.R_base ho0) hb); have n1_ := Aside0.mk (Kd.R_lower (Kd.R_new' ho0 (Kd.R_lt (by (with_reducible repeat (first | apply Kd.R_alloc | apply Kd.R_drewN | apply Kd.R_drew)); exact HO294.out))) (below_size (by repeat (first | (with_reducible first | exact HB.out | apply below_alloc | apply pw_below_drewN | apply below_drew1 | refine below_set ?_ GE282.out) | exact HB.out)))); have n2_ := Aside0.mk (blk_below (g := gb282) (o := .cells #[.bool x283000_34, .slice none 0 0, .int .i64 x283002_34] 25 (0, 0)) (by (with_reducible repeat (first | refine blk_drewN ?_ _ | refine blk_drew ?_ | refine blk_alloc ?_ _)); exact BK282.out) hb); have n3_ := Aside0.mk (below_step (by repeat (first | (with_reducible first | exact HB.out | apply below_alloc | apply pw_below_drewN | apply below_drew1 | refine below_set ?_ GE282.out) | exact HB.out)) hb); clear HO294; clear BK282; clear HB; have HO294 := n0_; have HO300 := n1_; have BK282 := n2_; have HB := n3_; clear n0_ n1_ n2_ n3_; (try clear hb); (try clear hb2); (try clear hk); (try clear hi); (try clear ho0)) | ((with_reducible refine gate_dst (N := 14) rfl ?_); (try (refine gate_guard (by rfl) ?_; dsimp only)); refine box_event ?hg (N := 14) ?hd (cs := #[.bool false, .slice none 0 0, .int .i64 0]) (t := 25) ?hr ?_; (case hd => rfl); (case hg => rfl); (case hr => first | (go_simp; done) | (go_simp; rfl) | (go_simp; simp only [x_u32u8, x_u8, x_u32, x_u64, x_mm]; first | done | rfl)); intro gb303 hg w86 hbox hb; have n0_ := Aside0.mk (Kd.R_below (by (with_reducible repeat (first | apply Kd.R_alloc | apply Kd.R_drewN | apply Kd.R_drew)); exact HO294.out) hb); have n1_ := Aside0.mk (Kd.R_below (by (with_reducible repeat (first | apply Kd.R_alloc | apply Kd.R_drewN | apply Kd.R_drew)); exact HO300.out) hb); have n2_ := Aside0.mk (blk_below (g := gb282) (o := .cells #[.bool x283000_34, .slice none 0 0, .int .i64 x283002_34] 25 (0, 0)) (by (with_reducible repeat (first | refine blk_drewN ?_ _ | refine blk_drew ?_ | refine blk_alloc ?_ _)); exact BK282.out) hb); have n3_ := Aside0.mk (below_step (by repeat (first | (with_reducible first | exact HB.out | apply below_alloc | apply pw_below_drewN | apply below_drew1 | refine below_set ?_ GE282.out) | exact HB.out)) hb); have n4_ := Aside0.mk (hbox); have n5_ := Aside0.mk ((by rw [hg]; exact (below_size (by repeat (first | (with_reducible first | exact HB.out | apply below_alloc | apply pw_below_drewN | apply below_drew1 | refine below_set ?_ GE282.out) | exact HB.out))) : w.heap.size ≤ gb303)); have n6_ := Aside0.mk ((by rw [hg]; exact (below_size (by repeat (first | (with_reducible first | exact HB.out | apply below_alloc | apply pw_below_drewN | apply below_drew1 | refine below_set ?_ GE282.out) | exact HB.out))) : w.heap.size ≤ gb303)); have n7_ := Aside0.mk ((by rw [hg]; exact Nat.ne_of_lt (blk_lt (g := gb282) (o := .cells #[.bool x283000_34, .slice none 0 0, .int .i64 x283002_34] 25 (0, 0)) (by (with_reducible repeat (first | refine blk_drewN ?_ _ | refine blk_drew ?_ | refine blk_alloc ?_ _)); exact BK282.out)) : gb282 ≠ gb303)); have n8_ := Aside0.mk ((by rw [hg]; exact Nat.ne_of_gt (blk_lt (g := gb282) (o := .cells #[.bool x283000_34, .slice none 0 0, .int .i64 x283002_34] 25 (0, 0)) (by (with_reducible repeat (first | refine blk_drewN ?_ _ | refine blk_drew ?_ | refine blk_alloc ?_ _)); exact BK282.out)) : gb303 ≠ gb282)); clear HO294; clear HO300; clear BK282; clear HB; have HO294 := n0_; have HO300 := n1_; have BK282 := n2_; have HB := n3_; have BK303 := n4_; have GW303 := n5_; have GE303 := n6_; have NB282_303 := n7_; have NB303_282 := n8_; clear n0_ n1_ n2_ n3_ n4_ n5_ n6_ n7_ n8_; clear hb hbox hg; have hnb87 := NB303_282.out; have hnc87 := NB282_303.out; have hcz88_0 : w86.cell? ⟨gb303, 0, none⟩ = some (.bool false) := (blk_cell BK303.out 0).trans rfl; have hcz88_1 : w86.cell? ⟨gb303, 1, none⟩ = some (.slice none 0 0) := (blk_cell BK303.out 1).trans rfl; have hcz88_2 : w86.cell? ⟨gb303, 2, none⟩ = some (.int .i64 0) := (blk_cell BK303.out 2).trans rfl; have hfz88_0 := blk_frozen BK303.out 0; have hfz88_1 := blk_frozen BK303.out 1; have hfz88_2 := blk_frozen BK303.out 2; obtain ⟨Ao89, co89, eo89⟩ := Kd.R_slice HO300.out; subst eo89; have hcz90_0 : w86.cell? ⟨gb282, 0, none⟩ = some (.bool x283000_34) := (blk_cell BK282.out 0).trans rfl; have hcz90_1 : w86.cell? ⟨gb282, 1, none⟩ = some (.slice none 0 0) := (blk_cell BK282.out 1).trans rfl; have hcz90_2 : w86.cell? ⟨gb282, 2, none⟩ = some (.int .i64 x283002_34) := (blk_cell BK282.out 2).trans rfl; have hfz90_0 := blk_frozen BK282.out 0; have hfz90_1 := blk_frozen BK282.out 1; have hfz90_2 := blk_frozen BK282.out 2))
                                          try (any_goals (with_reducible refine halt_absurd ?_; (try simp only [ByteArray.size_extract, ByteArray.size_append, ba_size_mk, List.size_toArray, List.length_cons, List.length_nil] at *) <;> omega))
                                          refine bodyPost_ret (results_ct rfl _ _ gb282 25 #[.bool false, .slice none 0 0, .int .i64 0] (0, 0) _ rfl (by (with_reducible repeat (first | refine blk_drewN ?_ _ | refine blk_drew ?_ | refine blk_alloc ?_ _)); refine blk_put (cs := #[.bool false, .slice none 0 0, .int .i64 x283002_34]) ?_ 2 _ rfl; (with_reducible repeat (first | refine blk_drewN ?_ _ | refine blk_drew ?_ | refine blk_alloc ?_ _)); refine blk_put (cs := #[.bool false, .slice none 0 0, .int .i64 x283002_34]) ?_ 1 _ rfl; (with_reducible repeat (first | refine blk_drewN ?_ _ | refine blk_drew ?_ | refine blk_alloc ?_ _)); refine blk_put (cs := #[.bool x283000_34, .slice none 0 0, .int .i64 x283002_34]) ?_ 0 _ rfl; (with_reducible repeat (first | refine blk_drewN ?_ _ | refine blk_drew ?_ | refine blk_alloc ?_ _)); refine blk_far ?_ NB282_303.out _; (with_reducible repeat (first | refine blk_drewN ?_ _ | refine blk_drew ?_ | refine blk_alloc ?_ _)); refine blk_far ?_ NB282_303.out _; (with_reducible repeat (first | refine blk_drewN ?_ _ | refine blk_drew ?_ | refine blk_alloc ?_ _)); refine blk_far ?_ NB282_303.out _; (with_reducible repeat (first | refine blk_drewN ?_ _ | refine blk_drew ?_ | refine blk_alloc ?_ _)); exact BK282.out) Tryd.underlying25 rfl (by kernel_rfl)) rfl ?_
                                          exact ⟨_, by first | rfl | (simp [errW_none, errW_some] <;> rfl) | (simp [*, errW_none, errW_some] <;> rfl), by first | exact Kd.R_nil _ _ _ _ _ | exact Kd.N_nil _ _ _ _ _ | exact Kd.V_nil _ _ _ _ _ | exact Kd.Q_nil _ _ _ _ _ | exact Kd.S_nil _ _ _ _ _, by repeat (first | (with_reducible first | exact HB.out | apply below_alloc | apply pw_below_drewN | apply below_drew1 | refine below_set ?_ GE282.out | refine below_set ?_ GE303.out) | exact HB.out)⟩
                                    · rw [if_neg c57] at H
                                      exact absurd H (by simp)

end Go.Proofs.YtmkdcokdilllcaaDoor.X
