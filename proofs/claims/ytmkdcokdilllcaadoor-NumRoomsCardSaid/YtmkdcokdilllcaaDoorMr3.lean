import Derived.Test.YtmkdcokdilllcaaDoorMr2
import Derived.Lib.Atoi
import Derived.Lib.Strings
import Derived.Shelf.Strings.Builder1
import Derived.Shelf.Strings.Builder2
import Derived.Shelf.Strings.Trim
import Derived.Shelf.Small.Utf8
import Derived.Shelf.Small.Bits
import Derived.Shelf.Small.Strs
import Derived.Shelf.Small.Wraps
import Derived.Shelf.Strings.BuilderF
import Derived.Shelf.Strings.BuilderK
import Derived.Shelf.Strconv.Atoi
import Derived.Shelf.Strconv.Itoa0
import Derived.Shelf.Strconv.Itoa1
import Derived.Shelf.LaysM
import Derived.Shelf.Strconv.Itoa2
import Derived.Shelf.Strconv.Itoa3
import Derived.Shelf.Strings.Search1
import Derived.Shelf.Strings.Prefix
import Derived.Shelf.Strings.Runes
import Derived.Shelf.Strings.AsciiSet
import Derived.Shelf.Bits.Mul64
import Derived.Shelf.Strings.Repeat
import Derived.Shelf.Unicode.DecodeSlow
import Derived.Test.YtmkdcokdilllcaaDoorProg
-- A walk, written by a program of this session (xp.py).
namespace Go.Proofs.YtmkdcokdilllcaaDoor.X
open Go.RowKit Go.Proofs.YtmkdcokdilllcaaDoorW.PrintWords Go.Proofs.YtmkdcokdilllcaaDoorW.PrintLast Go.Proofs.YtmkdcokdilllcaaDoorW.PrintMore
attribute [local go_sem] max2_int min2_int max_two min_two max_three min_three max_four min_four
set_option linter.unusedVariables false
set_option linter.unusedSimpArgs false

/-! ### nat_Parse: function 49 -/
mutual
def nat_Parse.j0 : Nat → ByteArray → Bool → Option (List Int × Bool)
  | 0, _, _ => none
  | k + 1, x0, x12 => if x12 = true then (some (([] : List Int), false)) else (nat_Parse.l0 k x0 ([] : List Int) (x0.size : Int) 0)
def nat_Parse.l0 : Nat → ByteArray → List Int → Int → Int → Option (List Int × Bool)
  | 0, _, _, _, _ => none
  | k + 1, x0, x4, x14, x15 => if x15 < x14 then (if 0 ≤ x15 then (if x15 < (x0.size : Int) then (if (bt x0 x15) < 48 then (nat_Parse.j2 k x0 x4 x15 x14 x15 true) else (nat_Parse.j2 k x0 x4 x15 x14 x15 (decide ((bt x0 x15) > 57)))) else (none)) else (none)) else (some (x4, true))
def nat_Parse.j2 : Nat → ByteArray → List Int → Int → Int → Int → Bool → Option (List Int × Bool)
  | 0, _, _, _, _, _, _ => none
  | k + 1, x0, x4, x5, x14, x15, x27 => if x27 = true then (some (([] : List Int), false)) else ((nat_Mul.f k x4 (([10] : List Int))).bind fun t179 => (if 0 ≤ x5 then (if x5 < (x0.size : Int) then ((nat_Add.f k t179 (([((bt x0 x5) - 48) % 256] : List Int))).bind fun t185 => (nat_Parse.l0 k x0 t185 x14 (wrap64 (x15 + 1)))) else (none)) else (none)))
end
def nat_Parse.f (k : Nat) (a0 : ByteArray) : Option (List Int × Bool) := if a0.toList = ([] : List UInt8) then (nat_Parse.j0 k a0 true) else (nat_Parse.j0 k a0 (decide ((a0.size : Int) > 2000)))
def nat_Parse.T9 : Bool × List (List Nat × List Nat) := (true, [([], []), ([], []), ([0, 1], [0, 1]), ([], []), ([], []), ([3, 4], [3, 4]), ([5], [5]), ([6], [6]), ([7], [7]), ([2, 8, 2], [2, 8]), ([9, 9, 0, 1, 2, 3, 4, 5, 6, 7, 8, 9], [0, 9])])
def nat_Parse.B9 : List Nat := [0, 0, 3, 0, 0, 24, 56, 120, 248, 511, 1023]
theorem nat_Parse.tab9 : rtab .any (opsOf Tryd.f49 9) = nat_Parse.T9 := by kernel_rfl
theorem nat_Parse.bits9 : waitsOk nat_Parse.T9.2 nat_Parse.B9 = true := by kernel_rfl
set_option maxHeartbeats 8000000 in
set_option maxRecDepth 100000 in
theorem nat_Parse.calls (k : Nat) (a0 : ByteArray) (r1 : List Int) (r2 : Bool) (w : World) (h : nat_Parse.f k a0 = some (r1, r2)) :
    Calls Tryd.prog 49 #[.string a0] w fun e w' => ∃ v0_ : Value, e = .returned (.tuple #[v0_, .bool r2]) ∧ Kd.R (Kd.int .u32) 40 w' w.heap.size (fun _ => True) v0_ r1 ∧ Below w.heap.size w w' := by
  have HB := Aside0.mk (Below.refl w.heap.size w)
  have H : (if a0.toList = ([] : List UInt8) then (nat_Parse.j0 k a0 true) else (nat_Parse.j0 k a0 (decide ((a0.size : Int) > 2000)))) = some (r1, r2) := h
  clear h
  have HC2 := Aside0.mk H
  clear H
  go_enter Tryd.func49, Tryd.ntmps49
  go_upto_region 1 with (fail)
  go_cut [12] (fun v12 wc => ∃ (kq : Nat) (x12_1 : Bool), v12 = .bool x12_1 ∧ Aside0 (nat_Parse.j0 kq a0 x12_1 = some (r1, r2)) ∧ Aside0 (kq ≤ k) ∧ Aside0 (Below w.heap.size w wc))
  case first =>
    have H := HC2.out
    clear HC2
    by_cases c3 : a0.toList = ([] : List UInt8)
    · rw [if_pos c3] at H
      have c3b0 : (a0.toList == ([] : List UInt8)) = true := beq_iff_eq.mpr c3
      have c3b1 : (a0.toList != ([] : List UInt8)) = false := bne_eq_false_iff_eq.mpr c3
      clear c3
      (first | rw [c3b0] | (simp only [i64_w, i32_w]; rw [c3b0]) | skip)
      have H' := Aside0.mk H
      clear H
      go_wp2
      go_meet
      case rel => exact ⟨_, (true), (by first | rfl | (simp; done) | (simp [*]; done)), H', ⟨by first | omega | exact Nat.le_refl _⟩, ⟨by repeat (first | (with_reducible first | exact HB.out | apply below_alloc | apply pw_below_drewN | apply below_drew1) | exact HB.out)⟩⟩
    · rw [if_neg c3] at H
      have c3b0 : (a0.toList == ([] : List UInt8)) = false := beq_eq_false_iff_ne.mpr c3
      have c3b1 : (a0.toList != ([] : List UInt8)) = true := bne_iff_ne.mpr c3
      (first | rw [c3b0] | (simp only [i64_w, i32_w]; rw [c3b0]) | skip)
      have H' := Aside0.mk H
      clear H
      go_wp2
      go_meet
      case rel => exact ⟨_, (decide ((a0.size : Int) > 2000)), (by first | rfl | (simp; done) | (simp [*]; done)), H', ⟨by first | omega | exact Nat.le_refl _⟩, ⟨by repeat (first | (with_reducible first | exact HB.out | apply below_alloc | apply pw_below_drewN | apply below_drew1) | exact HB.out)⟩⟩
  case rest =>
    clear HC2
    try clear p2
    try clear c3
    try clear c3b0
    try clear c3b1
    obtain ⟨kq, x12_1, rfl, HA, HJ1, HB⟩ := hcut
    cases kq with
    | zero => exact absurd HA.out (by simp [nat_Parse.j0])
    | succ kj1 =>
      have H := HA.out
      clear HA
      simp only [nat_Parse.j0] at H
      by_cases c4 : x12_1 = true
      · subst c4
        have H1 : (some (([] : List Int), false)) = some (r1, r2) := by rw [if_pos rfl] at H; exact H
        clear H
        have H := H1
        clear H1
        simp only [Option.some.injEq, Prod.mk.injEq] at H
        obtain ⟨rfl, rfl⟩ := H
        go_wp2
        go_ret2
        exact ⟨_, by first | rfl | (simp [errW_none, errW_some] <;> rfl) | (simp [*, errW_none, errW_some] <;> rfl), by first | exact Kd.R_nil _ _ _ _ _ | exact Kd.N_nil _ _ _ _ _ | exact Kd.V_nil _ _ _ _ _ | exact Kd.Q_nil _ _ _ _ _ | exact Kd.S_nil _ _ _ _ _, by repeat (first | (with_reducible first | exact HB.out | apply below_alloc | apply pw_below_drewN | apply below_drew1) | exact HB.out)⟩
      · replace c4 := Bool.eq_false_iff.mpr c4
        subst c4
        have H1 : (nat_Parse.l0 kj1 a0 ([] : List Int) (a0.size : Int) 0) = some (r1, r2) := by rw [if_neg (show ¬ (false = true) by decide)] at H; exact H
        clear H
        have H := H1
        clear H1
        have H' := Aside0.mk H
        clear H
        go_wp2
        go_loopg [4, 15] kj1 (fun kq v4 v15 w' => ∃ (x4_2 : List Int) (x15_2 : Int), v15 = .int .i64 x15_2 ∧ Aside0 (nat_Parse.l0 kq a0 x4_2 (a0.size : Int) x15_2 = some (r1, r2)) ∧ Aside0 (kq ≤ kj1) ∧ Aside0 (Kd.R (Kd.int .u32) 40 w' w.heap.size (fun _ => True) v4 x4_2) ∧ Aside0 (Below w.heap.size w w'))
        case atStart => exact ⟨(([] : List Int)), (0), (by first | rfl | (simp; done) | (simp [*]; done)), H', ⟨Nat.le_refl _⟩, ⟨by first | exact Kd.R_nil _ _ _ _ _ | exact Kd.N_nil _ _ _ _ _ | exact Kd.V_nil _ _ _ _ _ | exact Kd.Q_nil _ _ _ _ _ | exact Kd.S_nil _ _ _ _ _⟩, ⟨by repeat (first | (with_reducible first | exact HB.out | apply below_alloc | apply pw_below_drewN | apply below_drew1) | exact HB.out)⟩⟩
        case round =>
          clear H'
          try clear p2
          try clear c3
          try clear c3b0
          try clear c3b1
          try clear c4
          try clear p2
          obtain ⟨x4_2, x15_2, rfl, HA, HK2, HO_4, HB⟩ := hrel
          cases gk with
          | zero => exact absurd HA.out (by simp [nat_Parse.l0])
          | succ k2 =>
            have H := HA.out
            clear HA
            simp only [nat_Parse.l0] at H
            by_cases c5 : x15_2 < (a0.size : Int)
            · rw [if_pos c5] at H
              have c5b0 : decide (x15_2 < (a0.size : Int)) = true := decide_eq_true c5
              clear c5
              have HC6 := Aside0.mk H
              clear H
              go_upto_region 7 with (fail)
              go_cut [27] (fun v27 wc => ∃ (kq : Nat) (x27_5 : Bool), v27 = .bool x27_5 ∧ Aside0 (nat_Parse.j2 kq a0 x4_2 x15_2 (a0.size : Int) x15_2 x27_5 = some (r1, r2)) ∧ Aside0 (kq ≤ k2) ∧ Aside0 (Kd.R (Kd.int .u32) 40 wc w.heap.size (fun _ => True) u4 x4_2) ∧ Aside0 (Below w.heap.size w wc))
              case first =>
                have H := HC6.out
                clear HC6
                by_cases c7 : 0 ≤ x15_2
                · rw [if_pos c7] at H
                  have c7b0 : decide (0 ≤ x15_2) = true := decide_eq_true c7
                  clear c7
                  (first | rw [c7b0] | (simp only [i64_w, i32_w]; rw [c7b0]) | skip)
                  by_cases c8 : x15_2 < (a0.size : Int)
                  · rw [if_pos c8] at H
                    have c8b0 : decide (x15_2 < (a0.size : Int)) = true := decide_eq_true c8
                    clear c8
                    by_cases c10 : (bt a0 x15_2) < 48
                    · rw [if_pos c10] at H
                      have c10b0 : decide ((bt a0 x15_2) < 48) = true := decide_eq_true c10
                      clear c10
                      have H' := Aside0.mk H
                      clear H
                      have p9 : 0 ≤ (x15_2 : Int) := of_decide_eq_true (by first | (with_reducible assumption) | assumption)
                      have q9 : x15_2 < (a0.size : Int) := of_decide_eq_true (by first | (with_reducible assumption) | assumption)
                      have hx9 := bt_at a0 x15_2
                      replace p9 := eq_true p9
                      replace q9 := eq_true q9
                      go_wp2
                      go_meet
                      case rel => exact ⟨_, (true), (by first | rfl | (simp; done) | (simp [*]; done)), H', ⟨by have := HJ1.out; have := HK2.out; first | omega | exact Nat.le_refl _⟩, ⟨by (with_reducible repeat (first | apply Kd.R_alloc | apply Kd.R_drewN | apply Kd.R_drew)); exact HO_4.out⟩, ⟨by repeat (first | (with_reducible first | exact HB.out | apply below_alloc | apply pw_below_drewN | apply below_drew1) | exact HB.out)⟩⟩
                    · rw [if_neg c10] at H
                      have c10b0 : decide ((bt a0 x15_2) < 48) = false := decide_eq_false c10
                      clear c10
                      have H' := Aside0.mk H
                      clear H
                      have p9 : 0 ≤ (x15_2 : Int) := of_decide_eq_true (by first | (with_reducible assumption) | assumption)
                      have q9 : x15_2 < (a0.size : Int) := of_decide_eq_true (by first | (with_reducible assumption) | assumption)
                      have hx9 := bt_at a0 x15_2
                      replace p9 := eq_true p9
                      replace q9 := eq_true q9
                      have p11 : 0 ≤ (x15_2 : Int) := of_decide_eq_true (by first | (with_reducible assumption) | assumption)
                      have q11 : x15_2 < (a0.size : Int) := of_decide_eq_true (by first | (with_reducible assumption) | assumption)
                      have hx11 := bt_at a0 x15_2
                      replace p11 := eq_true p11
                      replace q11 := eq_true q11
                      go_wp2
                      go_meet
                      case rel => exact ⟨_, (decide ((bt a0 x15_2) > 57)), (by first | rfl | (simp; done) | (simp [*]; done)), H', ⟨by have := HJ1.out; have := HK2.out; first | omega | exact Nat.le_refl _⟩, ⟨by (with_reducible repeat (first | apply Kd.R_alloc | apply Kd.R_drewN | apply Kd.R_drew)); exact HO_4.out⟩, ⟨by repeat (first | (with_reducible first | exact HB.out | apply below_alloc | apply pw_below_drewN | apply below_drew1) | exact HB.out)⟩⟩
                  · rw [if_neg c8] at H
                    exact absurd H (by simp)
                · rw [if_neg c7] at H
                  exact absurd H (by simp)
              case rest =>
                clear HC6
                try clear c1
                try clear p1
                try clear q1
                try clear hx1
                try clear p2
                try clear c3
                try clear c3b0
                try clear c3b1
                try clear c4
                try clear c5
                try clear c5b0
                try clear c7
                try clear c7b0
                try clear c8
                try clear c8b0
                try clear p9
                try clear q9
                try clear hx9
                try clear c10
                try clear c10b0
                try clear p11
                try clear q11
                try clear hx11
                try clear p11
                try clear p2
                try clear p9
                try clear q11
                try clear q9
                obtain ⟨kq, x27_5, rfl, HA, HJ5, HO_4, HB⟩ := hcut
                cases kq with
                | zero => exact absurd HA.out (by simp [nat_Parse.j2])
                | succ kj5 =>
                  have H := HA.out
                  clear HA
                  simp only [nat_Parse.j2] at H
                  by_cases c12 : x27_5 = true
                  · subst c12
                    have H1 : (some (([] : List Int), false)) = some (r1, r2) := by rw [if_pos rfl] at H; exact H
                    clear H
                    have H := H1
                    clear H1
                    simp only [Option.some.injEq, Prod.mk.injEq] at H
                    obtain ⟨rfl, rfl⟩ := H
                    go_wp2
                    go_ret2
                    exact ⟨_, by first | rfl | (simp [errW_none, errW_some] <;> rfl) | (simp [*, errW_none, errW_some] <;> rfl), by first | exact Kd.R_nil _ _ _ _ _ | exact Kd.N_nil _ _ _ _ _ | exact Kd.V_nil _ _ _ _ _ | exact Kd.Q_nil _ _ _ _ _ | exact Kd.S_nil _ _ _ _ _, by repeat (first | (with_reducible first | exact HB.out | apply below_alloc | apply pw_below_drewN | apply below_drew1) | exact HB.out)⟩
                  · replace c12 := Bool.eq_false_iff.mpr c12
                    subst c12
                    have H1 : ((nat_Mul.f kj5 x4_2 (([10] : List Int))).bind fun t179 => (if 0 ≤ x15_2 then (if x15_2 < (a0.size : Int) then ((nat_Add.f kj5 t179 (([((bt a0 x15_2) - 48) % 256] : List Int))).bind fun t185 => (nat_Parse.l0 kj5 a0 t185 (a0.size : Int) (wrap64 (x15_2 + 1)))) else (none)) else (none))) = some (r1, r2) := by rw [if_neg (show ¬ (false = true) by decide)] at H; exact H
                    clear H
                    have H := H1
                    clear H1
                    obtain ⟨y176, hy176⟩ : ∃ y_ : List Int, y_ = (([10] : List Int)) := ⟨_, rfl⟩
                    replace H : ((nat_Mul.f kj5 x4_2 y176).bind fun t179 => (if 0 ≤ x15_2 then (if x15_2 < (a0.size : Int) then ((nat_Add.f kj5 t179 (([((bt a0 x15_2) - 48) % 256] : List Int))).bind fun t185 => (nat_Parse.l0 kj5 a0 t185 (a0.size : Int) (wrap64 (x15_2 + 1)))) else (none)) else (none))) = some (r1, r2) := by first | (rw [hy176]; with_reducible exact H) | (have H2_ := (Option.bind_some _ _).symm.trans H; rw [hy176]; with_reducible exact H2_) | (have H2_ := (Option.bind_some _ _).symm.trans H; with_reducible exact H2_) | with_reducible exact H | (rw [hy176]; exact H) | exact H
                    have Ny176 := Aside0.mk hy176
                    clear hy176
                    replace H := Option.bind_eq_some_iff.mp H
                    obtain ⟨t179, A130, H⟩ := H
                    replace H : (if 0 ≤ x15_2 then (if x15_2 < (a0.size : Int) then ((nat_Add.f kj5 t179 (([((bt a0 x15_2) - 48) % 256] : List Int))).bind fun t185 => (nat_Parse.l0 kj5 a0 t185 (a0.size : Int) (wrap64 (x15_2 + 1)))) else (none)) else (none)) = some (r1, r2) := H
                    have A13 := Aside0.mk A130
                    clear A130
                    by_cases c14 : 0 ≤ x15_2
                    · rw [if_pos c14] at H
                      have c14b0 : decide (0 ≤ x15_2) = true := decide_eq_true c14
                      clear c14
                      by_cases c15 : x15_2 < (a0.size : Int)
                      · rw [if_pos c15] at H
                        have c15b0 : decide (x15_2 < (a0.size : Int)) = true := decide_eq_true c15
                        clear c15
                        obtain ⟨y182, hy182⟩ : ∃ y_ : List Int, y_ = (([((bt a0 x15_2) - 48) % 256] : List Int)) := ⟨_, rfl⟩
                        replace H : ((nat_Add.f kj5 t179 y182).bind fun t185 => (nat_Parse.l0 kj5 a0 t185 (a0.size : Int) (wrap64 (x15_2 + 1)))) = some (r1, r2) := by first | (rw [hy182]; with_reducible exact H) | (have H2_ := (Option.bind_some _ _).symm.trans H; rw [hy182]; with_reducible exact H2_) | (have H2_ := (Option.bind_some _ _).symm.trans H; with_reducible exact H2_) | with_reducible exact H | (rw [hy182]; exact H) | exact H
                        have Ny182 := Aside0.mk hy182
                        clear hy182
                        replace H := Option.bind_eq_some_iff.mp H
                        obtain ⟨t185, A170, H⟩ := H
                        replace H : (nat_Parse.l0 kj5 a0 t185 (a0.size : Int) (wrap64 (x15_2 + 1))) = some (r1, r2) := H
                        have A17 := Aside0.mk A170
                        clear A170
                        have H' := Aside0.mk H
                        clear H
                        obtain ⟨Ao18, co18, eo18⟩ := Kd.R_slice HO_4.out
                        subst eo18
                        try go_wp2
                        have n0_ := Aside0.mk (Kd.R_drew HO_4.out)
                        have n1_ := Aside0.mk (below_drew1 HB.out)
                        clear HO_4
                        clear HB
                        have HO_4 := n0_
                        have HB := n1_
                        clear n0_ n1_
                        have p16 : 0 ≤ (x15_2 : Int) := of_decide_eq_true (by first | (with_reducible assumption) | assumption)
                        have q16 : x15_2 < (a0.size : Int) := of_decide_eq_true (by first | (with_reducible assumption) | assumption)
                        have hx16 := bt_at a0 x15_2
                        replace p16 := eq_true p16
                        replace q16 := eq_true q16
                        refine start_ (n := 11) (S := fun w' => True) (ds := []) #[false, false, false, false, false, false, false, false, false, false, false] (by kernel_rfl) rfl rfl trivial (fun hHeld => ?_); refine with_tabW nat_Parse.tab9 nat_Parse.bits9 (fun HT_ HW_ => ?_)
                        generalize wc.drew = w19 at HO_4 HB hHeld ⊢
                        refine pure_ (i := 0) (N := some 28) (v := ?_) (a' := ?_) #[true, false, false, false, false, false, false, false, false, false, false] rfl rfl (any_of HT_.out (by kernel_rfl)) (fun _ _ _ h => h) (Or.inl ⟨by rfl, ?_⟩) ?_ ?_
                        rotate_left
                        · intro w'
                          go_simp
                          with_reducible rfl
                        rotate_left
                        · simp only [Act.put, List.setIfInBounds_toArray, List.set_cons_zero, List.set_cons_succ, i64_w, i32_w]
                          rfl
                        refine pure_ (i := 3) (N := some 31) (v := ?_) (a' := ?_) #[true, false, false, true, false, false, false, false, false, false, false] rfl rfl (any_of HT_.out (by kernel_rfl)) (fun _ _ _ h => h) (Or.inl ⟨by rfl, ?_⟩) ?_ ?_
                        rotate_left
                        · intro w'
                          go_simp
                          with_reducible rfl
                        rotate_left
                        · simp only [Act.put, List.setIfInBounds_toArray, List.set_cons_zero, List.set_cons_succ, i64_w, i32_w]
                          rfl
                        refine pure_ (i := 4) (N := some 32) (v := ?_) (a' := ?_) #[true, false, false, true, true, false, false, false, false, false, false] rfl rfl (any_of HT_.out (by kernel_rfl)) (fun _ _ _ h => h) (Or.inl ⟨by rfl, ?_⟩) ?_ ?_
                        rotate_left
                        · intro w'
                          go_simp
                          with_reducible rfl
                        rotate_left
                        · simp only [Act.put, List.setIfInBounds_toArray, List.set_cons_zero, List.set_cons_succ, i64_w, i32_w]
                          rfl
                        refine take_ (i := 5) (N := some 33) (v := ?_) (a' := ?_) #[true, false, false, true, true, true, false, false, false, false, false] rfl rfl (take_ofW HT_.out HW_.out (by kernel_rfl)) (fun _ _ _ h => h) (Or.inl ⟨by rfl, ?_⟩) hHeld ?_ ?_
                        rotate_left
                        · intro w' _
                          go_simp
                          with_reducible rfl
                        rotate_left
                        · simp only [Act.put, List.setIfInBounds_toArray, List.set_cons_zero, List.set_cons_succ, i64_w, i32_w]
                          rfl
                        refine pure_ (i := 6) (N := some 34) (v := ?_) (a' := ?_) #[true, false, false, true, true, true, true, false, false, false, false] rfl rfl (any_of HT_.out (by kernel_rfl)) (fun _ _ _ h => h) (Or.inl ⟨by rfl, ?_⟩) ?_ ?_
                        rotate_left
                        · intro w'
                          go_simp
                          with_reducible rfl
                        rotate_left
                        · simp only [Act.put, List.setIfInBounds_toArray, List.set_cons_zero, List.set_cons_succ, i64_w, i32_w]
                          rfl
                        refine pure_ (i := 7) (N := some 35) (v := ?_) (a' := ?_) #[true, false, false, true, true, true, true, true, false, false, false] rfl rfl (any_of HT_.out (by kernel_rfl)) (fun _ _ _ h => h) (Or.inl ⟨by rfl, ?_⟩) ?_ ?_
                        rotate_left
                        · intro w'
                          go_simp
                          with_reducible rfl
                        rotate_left
                        · simp only [Act.put, List.setIfInBounds_toArray, List.set_cons_zero, List.set_cons_succ, i64_w, i32_w]
                          rfl
                        refine join_ (σ := Value × Value × Value) 2 #[true, true, true, true, true, true, true, true, true, false, false] (fun s_ => [(29, s_.1), (30, s_.2.1), (36, s_.2.2)]) (fun s_ w' => (Kd.R (Kd.int .u32) 40 w' w.heap.size (fun k_ => some k_ ≠ (s_.2.1 : Value).ownBlock ∧ some k_ ≠ (s_.2.2 : Value).ownBlock ∧ some k_ ≠ (.slice Ao18 x4_2.length co18 : Value).ownBlock) s_.1 y176) ∧ (Kd.R (Kd.int .u32) 40 w' w.heap.size (fun k_ => some k_ ≠ (s_.1 : Value).ownBlock ∧ some k_ ≠ (s_.2.2 : Value).ownBlock ∧ some k_ ≠ (.slice Ao18 x4_2.length co18 : Value).ownBlock) s_.2.1 t179) ∧ (Kd.R (Kd.int .u32) 40 w' w.heap.size (fun k_ => some k_ ≠ (s_.1 : Value).ownBlock ∧ some k_ ≠ (s_.2.1 : Value).ownBlock ∧ some k_ ≠ (.slice Ao18 x4_2.length co18 : Value).ownBlock) s_.2.2 y182) ∧ (Kd.R (Kd.int .u32) 40 w' w.heap.size (fun k_ => some k_ ≠ (s_.1 : Value).ownBlock ∧ some k_ ≠ (s_.2.1 : Value).ownBlock ∧ some k_ ≠ (s_.2.2 : Value).ownBlock) (.slice Ao18 x4_2.length co18) x4_2) ∧ (Below w.heap.size w w')) ?_ ?_
                        rotate_left
                        · intro hCont
                          refine two_ (i := 1) (j := 8) (Ni := some 29) (Nj := some 36) #[true, true, false, true, true, true, true, true, false, false, false] #[true, false, false, true, true, true, true, true, true, false, false] rfl rfl rfl rfl (two_of HT_.out (by kernel_rfl)) (by decide) (by decide) (fun K hK => ?_) (fun K hK => ?_)
                          · skip
                            refine Kd.R_lit_step (Kd.int .u32) _ 40 ?hg (N := 29) ?hd (xs := ([10] : List Int)) (inner := [.int .u32 10]) (ok := fun _ => True) (okp := fun _ => True) ?hr ?hp (fun _ hk => hk) trivial (Below.refl _ _) (Nat.le_refl _) (by simp) ?_; (case hd => rfl); (case hg => rfl); (case hr => first | (go_simp; done) | (go_simp; rfl) | (go_simp; simp only [x_u32u8, x_u8, x_u32, x_u64, x_mm]; first | done | rfl)); (case hp => exact (Reps.one (show Kd.M (Kd.int .u32) _ _ _ 10 [.int .u32 10] from rfl) (Reps.none _ _)))
                            intro v177 w20 ho21 hb hg_ hnew_
                            clear hg_ hnew_
                            (first | rw [← Ny176.out] at ho21 | (simp only [Int.reduceToNat] at ho21; rw [← Ny176.out] at ho21))
                            have n0_ := Aside0.mk (Kd.R_elder' (by (with_reducible repeat (first | apply Kd.R_alloc | apply Kd.R_drewN | apply Kd.R_drew)); exact HO_4.out) (Kd.R_base ho21) hb)
                            have n1_ := Aside0.mk (Kd.R_lower (Kd.R_new' ho21 (Kd.R_lt (by (with_reducible repeat (first | apply Kd.R_alloc | apply Kd.R_drewN | apply Kd.R_drew)); exact HO_4.out))) (below_size (by repeat (first | (with_reducible first | exact HB.out | apply below_alloc | apply pw_below_drewN | apply below_drew1) | exact HB.out))))
                            have n2_ := Aside0.mk (below_step (by repeat (first | (with_reducible first | exact HB.out | apply below_alloc | apply pw_below_drewN | apply below_drew1) | exact HB.out)) hb)
                            clear HO_4
                            clear HB
                            have HO_4 := n0_
                            have HO178 := n1_
                            have HB := n2_
                            clear n0_ n1_ n2_
                            clear hb ho21
                            obtain ⟨Ao22, co22, eo22⟩ := Kd.R_slice HO178.out
                            (first | subst eo22 | (injection eo22 with f1_ f2_ f3_; have f4_ := f1_.symm; have f5_ := f3_.symm; clear f1_ f2_ f3_; subst f4_; subst f5_))
                            refine hK.out _ _ trivial (fun hHeld => ?_)
                            clear hK K
                            refine norm_ (a' := ?_) ?_ ?_
                            rotate_left
                            · show Act.put _ (some 29) _ = _
                              simp only [Act.put, List.setIfInBounds_toArray, List.set_cons_zero, List.set_cons_succ, i64_w, i32_w]
                              rfl
                            refine two_ (i := 2) (j := 8) (Ni := some 30) (Nj := some 36) #[true, true, true, true, true, true, true, true, false, false, false] #[true, true, false, true, true, true, true, true, true, false, false] rfl rfl rfl rfl (two_of HT_.out (by kernel_rfl)) (by decide) (by decide) (fun K hK => ?_) (fun K hK => ?_)
                            · skip
                              refine goes_ Tryd.func43 (by kernel_rfl) rfl #[.slice Ao18 x4_2.length co18, .slice Ao22 y176.length co22] (by rfl) rfl rfl (by (try simp only [List.map_toArray, List.map_cons, List.map_nil]); first | done | rfl | (simp only [List.length_drop, List.length_take]; rfl)) ?_
                              with_reducible refine (nat_Mul.calls kj5 _ _ x4_2 _ _ y176 t179 _ ?side1 ?side2 ?side3 ?side4 A13.out).mono ?_
                              (case side1 => repeat (first | exact (Kd.R_reads' HO_4.out).2.2 | (with_reducible refine Kd.C_alloc ?_ _) | (with_reducible refine Kd.C_drewN ?_ _) | (with_reducible refine Kd.C_drew ?_)))
                              (case side2 => exact (Kd.R_reads' HO_4.out).2.1)
                              (case side3 => repeat (first | exact (Kd.R_reads' HO178.out).2.2 | (with_reducible refine Kd.C_alloc ?_ _) | (with_reducible refine Kd.C_drewN ?_ _) | (with_reducible refine Kd.C_drew ?_)))
                              (case side4 => exact (Kd.R_reads' HO178.out).2.1)
                              rintro e w23 ⟨v180, rfl, ho0, hb⟩
                              refine ⟨_, rfl, ?_⟩
                              have n0_ := Aside0.mk (Kd.R_elder' (by (with_reducible repeat (first | apply Kd.R_alloc | apply Kd.R_drewN | apply Kd.R_drew)); exact HO_4.out) (Kd.R_base ho0) hb)
                              have n1_ := Aside0.mk (Kd.R_elder' (by (with_reducible repeat (first | apply Kd.R_alloc | apply Kd.R_drewN | apply Kd.R_drew)); exact HO178.out) (Kd.R_base ho0) hb)
                              have n2_ := Aside0.mk (Kd.R_lower (Kd.R_new' (Kd.R_new' ho0 (Kd.R_lt (by (with_reducible repeat (first | apply Kd.R_alloc | apply Kd.R_drewN | apply Kd.R_drew)); exact HO_4.out))) (Kd.R_lt (by (with_reducible repeat (first | apply Kd.R_alloc | apply Kd.R_drewN | apply Kd.R_drew)); exact HO178.out))) (below_size (by repeat (first | (with_reducible first | exact HB.out | apply below_alloc | apply pw_below_drewN | apply below_drew1) | exact HB.out))))
                              have n3_ := Aside0.mk (below_step (by repeat (first | (with_reducible first | exact HB.out | apply below_alloc | apply pw_below_drewN | apply below_drew1) | exact HB.out)) hb)
                              clear HO_4
                              clear HO178
                              clear HB
                              have HO_4 := n0_
                              have HO178 := n1_
                              have HO181 := n2_
                              have HB := n3_
                              clear n0_ n1_ n2_ n3_
                              (try clear hb)
                              (try clear hb2)
                              (try clear hk)
                              (try clear hi)
                              (try clear ho0)
                              refine hK.out _ _ trivial (fun hHeld => ?_)
                              clear hK K
                              refine norm_ (a' := ?_) ?_ ?_
                              rotate_left
                              · show Act.put _ (some 30) _ = _
                                simp only [Act.put, List.setIfInBounds_toArray, List.set_cons_zero, List.set_cons_succ, i64_w, i32_w]
                                rfl
                              refine one_ (i := 8) (N := some 36) #[true, true, true, true, true, true, true, true, true, false, false] rfl rfl (one_of HT_.out (by kernel_rfl)) (by decide) (fun K hK => ?_)
                              refine Kd.R_lit_step (Kd.int .u32) _ 40 ?hg (N := 36) ?hd (xs := ([((bt a0 x15_2) - 48) % 256] : List Int)) (inner := [.int .u32 (((bt a0 x15_2) - 48) % 256)]) (ok := fun _ => True) (okp := fun _ => True) ?hr ?hp (fun _ hk => hk) trivial (Below.refl _ _) (Nat.le_refl _) (by simp) ?_; (case hd => rfl); (case hg => rfl); (case hr => first | (go_simp; done) | (go_simp; rfl) | (go_simp; simp only [x_u32u8, x_u8, x_u32, x_u64, x_mm]; first | done | rfl)); (case hp => exact (Reps.one (show Kd.M (Kd.int .u32) _ _ _ (((bt a0 x15_2) - 48) % 256) [.int .u32 (((bt a0 x15_2) - 48) % 256)] from rfl) (Reps.none _ _)))
                              intro v183 w24 ho25 hb hg_ hnew_
                              clear hg_ hnew_
                              (first | rw [← Ny182.out] at ho25 | (simp only [Int.reduceToNat] at ho25; rw [← Ny182.out] at ho25))
                              have n0_ := Aside0.mk (Kd.R_elder' (by (with_reducible repeat (first | apply Kd.R_alloc | apply Kd.R_drewN | apply Kd.R_drew)); exact HO_4.out) (Kd.R_base ho25) hb)
                              have n1_ := Aside0.mk (Kd.R_elder' (by (with_reducible repeat (first | apply Kd.R_alloc | apply Kd.R_drewN | apply Kd.R_drew)); exact HO178.out) (Kd.R_base ho25) hb)
                              have n2_ := Aside0.mk (Kd.R_elder' (by (with_reducible repeat (first | apply Kd.R_alloc | apply Kd.R_drewN | apply Kd.R_drew)); exact HO181.out) (Kd.R_base ho25) hb)
                              have n3_ := Aside0.mk (Kd.R_lower (Kd.R_new' (Kd.R_new' (Kd.R_new' ho25 (Kd.R_lt (by (with_reducible repeat (first | apply Kd.R_alloc | apply Kd.R_drewN | apply Kd.R_drew)); exact HO_4.out))) (Kd.R_lt (by (with_reducible repeat (first | apply Kd.R_alloc | apply Kd.R_drewN | apply Kd.R_drew)); exact HO178.out))) (Kd.R_lt (by (with_reducible repeat (first | apply Kd.R_alloc | apply Kd.R_drewN | apply Kd.R_drew)); exact HO181.out))) (below_size (by repeat (first | (with_reducible first | exact HB.out | apply below_alloc | apply pw_below_drewN | apply below_drew1) | exact HB.out))))
                              have n4_ := Aside0.mk (below_step (by repeat (first | (with_reducible first | exact HB.out | apply below_alloc | apply pw_below_drewN | apply below_drew1) | exact HB.out)) hb)
                              clear HO_4
                              clear HO178
                              clear HO181
                              clear HB
                              have HO_4 := n0_
                              have HO178 := n1_
                              have HO181 := n2_
                              have HO184 := n3_
                              have HB := n4_
                              clear n0_ n1_ n2_ n3_ n4_
                              clear hb ho25
                              refine hK.out _ _ trivial (fun hHeld => ?_)
                              clear hK K
                              refine norm_ (a' := ?_) ?_ ?_
                              rotate_left
                              · show Act.put _ (some 36) _ = _
                                simp only [Act.put, List.setIfInBounds_toArray, List.set_cons_zero, List.set_cons_succ, i64_w, i32_w]
                                rfl
                              exact norm_ (by simp only [putAll, Act.put, List.setIfInBounds_toArray, List.set_cons_zero, List.set_cons_succ]) (hCont (.slice Ao22 y176.length co22, v180, v183) _ ⟨(by (with_reducible repeat (first | apply Kd.R_alloc | apply Kd.R_drewN | apply Kd.R_drew)); exact Kd.R_mono HO178.out (fun _ hk => ⟨hk.1.2, ⟨hk.2, hk.1.1.2⟩⟩)), (by (with_reducible repeat (first | apply Kd.R_alloc | apply Kd.R_drewN | apply Kd.R_drew)); exact Kd.R_mono HO181.out (fun _ hk => ⟨hk.1.2, ⟨hk.2, hk.1.1.2⟩⟩)), (by (with_reducible repeat (first | apply Kd.R_alloc | apply Kd.R_drewN | apply Kd.R_drew)); exact Kd.R_mono HO184.out (fun _ hk => ⟨hk.1.2, ⟨hk.2, hk.1.1.2⟩⟩)), (by (with_reducible repeat (first | apply Kd.R_alloc | apply Kd.R_drewN | apply Kd.R_drew)); exact Kd.R_mono HO_4.out (fun _ hk => ⟨hk.1.1.2, ⟨hk.1.2, hk.2⟩⟩)), (by repeat (first | (with_reducible first | exact HB.out | apply below_alloc | apply pw_below_drewN | apply below_drew1) | exact HB.out))⟩)
                            · skip
                              refine Kd.R_lit_step (Kd.int .u32) _ 40 ?hg (N := 36) ?hd (xs := ([((bt a0 x15_2) - 48) % 256] : List Int)) (inner := [.int .u32 (((bt a0 x15_2) - 48) % 256)]) (ok := fun _ => True) (okp := fun _ => True) ?hr ?hp (fun _ hk => hk) trivial (Below.refl _ _) (Nat.le_refl _) (by simp) ?_; (case hd => rfl); (case hg => rfl); (case hr => first | (go_simp; done) | (go_simp; rfl) | (go_simp; simp only [x_u32u8, x_u8, x_u32, x_u64, x_mm]; first | done | rfl)); (case hp => exact (Reps.one (show Kd.M (Kd.int .u32) _ _ _ (((bt a0 x15_2) - 48) % 256) [.int .u32 (((bt a0 x15_2) - 48) % 256)] from rfl) (Reps.none _ _)))
                              intro v183 w22 ho23 hb hg_ hnew_
                              clear hg_ hnew_
                              (first | rw [← Ny182.out] at ho23 | (simp only [Int.reduceToNat] at ho23; rw [← Ny182.out] at ho23))
                              have n0_ := Aside0.mk (Kd.R_elder' (by (with_reducible repeat (first | apply Kd.R_alloc | apply Kd.R_drewN | apply Kd.R_drew)); exact HO_4.out) (Kd.R_base ho23) hb)
                              have n1_ := Aside0.mk (Kd.R_elder' (by (with_reducible repeat (first | apply Kd.R_alloc | apply Kd.R_drewN | apply Kd.R_drew)); exact HO178.out) (Kd.R_base ho23) hb)
                              have n2_ := Aside0.mk (Kd.R_lower (Kd.R_new' (Kd.R_new' ho23 (Kd.R_lt (by (with_reducible repeat (first | apply Kd.R_alloc | apply Kd.R_drewN | apply Kd.R_drew)); exact HO_4.out))) (Kd.R_lt (by (with_reducible repeat (first | apply Kd.R_alloc | apply Kd.R_drewN | apply Kd.R_drew)); exact HO178.out))) (below_size (by repeat (first | (with_reducible first | exact HB.out | apply below_alloc | apply pw_below_drewN | apply below_drew1) | exact HB.out))))
                              have n3_ := Aside0.mk (below_step (by repeat (first | (with_reducible first | exact HB.out | apply below_alloc | apply pw_below_drewN | apply below_drew1) | exact HB.out)) hb)
                              clear HO_4
                              clear HO178
                              clear HB
                              have HO_4 := n0_
                              have HO178 := n1_
                              have HO184 := n2_
                              have HB := n3_
                              clear n0_ n1_ n2_ n3_
                              clear hb ho23
                              obtain ⟨Ao24, co24, eo24⟩ := Kd.R_slice HO178.out
                              (first | subst eo24 | (injection eo24 with f1_ f2_ f3_; have f4_ := f1_.symm; have f5_ := f3_.symm; clear f1_ f2_ f3_; subst f4_; subst f5_))
                              refine hK.out _ _ trivial (fun hHeld => ?_)
                              clear hK K
                              refine norm_ (a' := ?_) ?_ ?_
                              rotate_left
                              · show Act.put _ (some 36) _ = _
                                simp only [Act.put, List.setIfInBounds_toArray, List.set_cons_zero, List.set_cons_succ, i64_w, i32_w]
                                rfl
                              refine one_ (i := 2) (N := some 30) #[true, true, true, true, true, true, true, true, true, false, false] rfl rfl (one_of HT_.out (by kernel_rfl)) (by decide) (fun K hK => ?_)
                              refine goes_ Tryd.func43 (by kernel_rfl) rfl #[.slice Ao18 x4_2.length co18, .slice Ao24 y176.length co24] (by rfl) rfl rfl (by (try simp only [List.map_toArray, List.map_cons, List.map_nil]); first | done | rfl | (simp only [List.length_drop, List.length_take]; rfl)) ?_
                              with_reducible refine (nat_Mul.calls kj5 _ _ x4_2 _ _ y176 t179 _ ?side1 ?side2 ?side3 ?side4 A13.out).mono ?_
                              (case side1 => repeat (first | exact (Kd.R_reads' HO_4.out).2.2 | (with_reducible refine Kd.C_alloc ?_ _) | (with_reducible refine Kd.C_drewN ?_ _) | (with_reducible refine Kd.C_drew ?_)))
                              (case side2 => exact (Kd.R_reads' HO_4.out).2.1)
                              (case side3 => repeat (first | exact (Kd.R_reads' HO178.out).2.2 | (with_reducible refine Kd.C_alloc ?_ _) | (with_reducible refine Kd.C_drewN ?_ _) | (with_reducible refine Kd.C_drew ?_)))
                              (case side4 => exact (Kd.R_reads' HO178.out).2.1)
                              rintro e w25 ⟨v180, rfl, ho0, hb⟩
                              refine ⟨_, rfl, ?_⟩
                              have n0_ := Aside0.mk (Kd.R_elder' (by (with_reducible repeat (first | apply Kd.R_alloc | apply Kd.R_drewN | apply Kd.R_drew)); exact HO_4.out) (Kd.R_base ho0) hb)
                              have n1_ := Aside0.mk (Kd.R_elder' (by (with_reducible repeat (first | apply Kd.R_alloc | apply Kd.R_drewN | apply Kd.R_drew)); exact HO178.out) (Kd.R_base ho0) hb)
                              have n2_ := Aside0.mk (Kd.R_elder' (by (with_reducible repeat (first | apply Kd.R_alloc | apply Kd.R_drewN | apply Kd.R_drew)); exact HO184.out) (Kd.R_base ho0) hb)
                              have n3_ := Aside0.mk (Kd.R_lower (Kd.R_new' (Kd.R_new' (Kd.R_new' ho0 (Kd.R_lt (by (with_reducible repeat (first | apply Kd.R_alloc | apply Kd.R_drewN | apply Kd.R_drew)); exact HO_4.out))) (Kd.R_lt (by (with_reducible repeat (first | apply Kd.R_alloc | apply Kd.R_drewN | apply Kd.R_drew)); exact HO178.out))) (Kd.R_lt (by (with_reducible repeat (first | apply Kd.R_alloc | apply Kd.R_drewN | apply Kd.R_drew)); exact HO184.out))) (below_size (by repeat (first | (with_reducible first | exact HB.out | apply below_alloc | apply pw_below_drewN | apply below_drew1) | exact HB.out))))
                              have n4_ := Aside0.mk (below_step (by repeat (first | (with_reducible first | exact HB.out | apply below_alloc | apply pw_below_drewN | apply below_drew1) | exact HB.out)) hb)
                              clear HO_4
                              clear HO178
                              clear HO184
                              clear HB
                              have HO_4 := n0_
                              have HO178 := n1_
                              have HO184 := n2_
                              have HO181 := n3_
                              have HB := n4_
                              clear n0_ n1_ n2_ n3_ n4_
                              (try clear hb)
                              (try clear hb2)
                              (try clear hk)
                              (try clear hi)
                              (try clear ho0)
                              refine hK.out _ _ trivial (fun hHeld => ?_)
                              clear hK K
                              refine norm_ (a' := ?_) ?_ ?_
                              rotate_left
                              · show Act.put _ (some 30) _ = _
                                simp only [Act.put, List.setIfInBounds_toArray, List.set_cons_zero, List.set_cons_succ, i64_w, i32_w]
                                rfl
                              exact norm_ (by simp only [putAll, Act.put, List.setIfInBounds_toArray, List.set_cons_zero, List.set_cons_succ]) (hCont (.slice Ao24 y176.length co24, v180, v183) _ ⟨(by (with_reducible repeat (first | apply Kd.R_alloc | apply Kd.R_drewN | apply Kd.R_drew)); exact Kd.R_mono HO178.out (fun _ hk => ⟨hk.2, ⟨hk.1.2, hk.1.1.2⟩⟩)), (by (with_reducible repeat (first | apply Kd.R_alloc | apply Kd.R_drewN | apply Kd.R_drew)); exact Kd.R_mono HO181.out (fun _ hk => ⟨hk.1.2, ⟨hk.2, hk.1.1.2⟩⟩)), (by (with_reducible repeat (first | apply Kd.R_alloc | apply Kd.R_drewN | apply Kd.R_drew)); exact Kd.R_mono HO184.out (fun _ hk => ⟨hk.1.2, ⟨hk.2, hk.1.1.2⟩⟩)), (by (with_reducible repeat (first | apply Kd.R_alloc | apply Kd.R_drewN | apply Kd.R_drew)); exact Kd.R_mono HO_4.out (fun _ hk => ⟨hk.1.1.2, ⟨hk.2, hk.1.2⟩⟩)), (by repeat (first | (with_reducible first | exact HB.out | apply below_alloc | apply pw_below_drewN | apply below_drew1) | exact HB.out))⟩)
                          · skip
                            refine Kd.R_lit_step (Kd.int .u32) _ 40 ?hg (N := 36) ?hd (xs := ([((bt a0 x15_2) - 48) % 256] : List Int)) (inner := [.int .u32 (((bt a0 x15_2) - 48) % 256)]) (ok := fun _ => True) (okp := fun _ => True) ?hr ?hp (fun _ hk => hk) trivial (Below.refl _ _) (Nat.le_refl _) (by simp) ?_; (case hd => rfl); (case hg => rfl); (case hr => first | (go_simp; done) | (go_simp; rfl) | (go_simp; simp only [x_u32u8, x_u8, x_u32, x_u64, x_mm]; first | done | rfl)); (case hp => exact (Reps.one (show Kd.M (Kd.int .u32) _ _ _ (((bt a0 x15_2) - 48) % 256) [.int .u32 (((bt a0 x15_2) - 48) % 256)] from rfl) (Reps.none _ _)))
                            intro v183 w20 ho21 hb hg_ hnew_
                            clear hg_ hnew_
                            (first | rw [← Ny182.out] at ho21 | (simp only [Int.reduceToNat] at ho21; rw [← Ny182.out] at ho21))
                            have n0_ := Aside0.mk (Kd.R_elder' (by (with_reducible repeat (first | apply Kd.R_alloc | apply Kd.R_drewN | apply Kd.R_drew)); exact HO_4.out) (Kd.R_base ho21) hb)
                            have n1_ := Aside0.mk (Kd.R_lower (Kd.R_new' ho21 (Kd.R_lt (by (with_reducible repeat (first | apply Kd.R_alloc | apply Kd.R_drewN | apply Kd.R_drew)); exact HO_4.out))) (below_size (by repeat (first | (with_reducible first | exact HB.out | apply below_alloc | apply pw_below_drewN | apply below_drew1) | exact HB.out))))
                            have n2_ := Aside0.mk (below_step (by repeat (first | (with_reducible first | exact HB.out | apply below_alloc | apply pw_below_drewN | apply below_drew1) | exact HB.out)) hb)
                            clear HO_4
                            clear HB
                            have HO_4 := n0_
                            have HO184 := n1_
                            have HB := n2_
                            clear n0_ n1_ n2_
                            clear hb ho21
                            refine hK.out _ _ trivial (fun hHeld => ?_)
                            clear hK K
                            refine norm_ (a' := ?_) ?_ ?_
                            rotate_left
                            · show Act.put _ (some 36) _ = _
                              simp only [Act.put, List.setIfInBounds_toArray, List.set_cons_zero, List.set_cons_succ, i64_w, i32_w]
                              rfl
                            refine one_ (i := 1) (N := some 29) #[true, true, false, true, true, true, true, true, true, false, false] rfl rfl (one_of HT_.out (by kernel_rfl)) (by decide) (fun K hK => ?_)
                            refine Kd.R_lit_step (Kd.int .u32) _ 40 ?hg (N := 29) ?hd (xs := ([10] : List Int)) (inner := [.int .u32 10]) (ok := fun _ => True) (okp := fun _ => True) ?hr ?hp (fun _ hk => hk) trivial (Below.refl _ _) (Nat.le_refl _) (by simp) ?_; (case hd => rfl); (case hg => rfl); (case hr => first | (go_simp; done) | (go_simp; rfl) | (go_simp; simp only [x_u32u8, x_u8, x_u32, x_u64, x_mm]; first | done | rfl)); (case hp => exact (Reps.one (show Kd.M (Kd.int .u32) _ _ _ 10 [.int .u32 10] from rfl) (Reps.none _ _)))
                            intro v177 w22 ho23 hb hg_ hnew_
                            clear hg_ hnew_
                            (first | rw [← Ny176.out] at ho23 | (simp only [Int.reduceToNat] at ho23; rw [← Ny176.out] at ho23))
                            have n0_ := Aside0.mk (Kd.R_elder' (by (with_reducible repeat (first | apply Kd.R_alloc | apply Kd.R_drewN | apply Kd.R_drew)); exact HO_4.out) (Kd.R_base ho23) hb)
                            have n1_ := Aside0.mk (Kd.R_elder' (by (with_reducible repeat (first | apply Kd.R_alloc | apply Kd.R_drewN | apply Kd.R_drew)); exact HO184.out) (Kd.R_base ho23) hb)
                            have n2_ := Aside0.mk (Kd.R_lower (Kd.R_new' (Kd.R_new' ho23 (Kd.R_lt (by (with_reducible repeat (first | apply Kd.R_alloc | apply Kd.R_drewN | apply Kd.R_drew)); exact HO_4.out))) (Kd.R_lt (by (with_reducible repeat (first | apply Kd.R_alloc | apply Kd.R_drewN | apply Kd.R_drew)); exact HO184.out))) (below_size (by repeat (first | (with_reducible first | exact HB.out | apply below_alloc | apply pw_below_drewN | apply below_drew1) | exact HB.out))))
                            have n3_ := Aside0.mk (below_step (by repeat (first | (with_reducible first | exact HB.out | apply below_alloc | apply pw_below_drewN | apply below_drew1) | exact HB.out)) hb)
                            clear HO_4
                            clear HO184
                            clear HB
                            have HO_4 := n0_
                            have HO184 := n1_
                            have HO178 := n2_
                            have HB := n3_
                            clear n0_ n1_ n2_ n3_
                            clear hb ho23
                            obtain ⟨Ao24, co24, eo24⟩ := Kd.R_slice HO178.out
                            (first | subst eo24 | (injection eo24 with f1_ f2_ f3_; have f4_ := f1_.symm; have f5_ := f3_.symm; clear f1_ f2_ f3_; subst f4_; subst f5_))
                            refine hK.out _ _ trivial (fun hHeld => ?_)
                            clear hK K
                            refine norm_ (a' := ?_) ?_ ?_
                            rotate_left
                            · show Act.put _ (some 29) _ = _
                              simp only [Act.put, List.setIfInBounds_toArray, List.set_cons_zero, List.set_cons_succ, i64_w, i32_w]
                              rfl
                            refine one_ (i := 2) (N := some 30) #[true, true, true, true, true, true, true, true, true, false, false] rfl rfl (one_of HT_.out (by kernel_rfl)) (by decide) (fun K hK => ?_)
                            refine goes_ Tryd.func43 (by kernel_rfl) rfl #[.slice Ao18 x4_2.length co18, .slice Ao24 y176.length co24] (by rfl) rfl rfl (by (try simp only [List.map_toArray, List.map_cons, List.map_nil]); first | done | rfl | (simp only [List.length_drop, List.length_take]; rfl)) ?_
                            with_reducible refine (nat_Mul.calls kj5 _ _ x4_2 _ _ y176 t179 _ ?side1 ?side2 ?side3 ?side4 A13.out).mono ?_
                            (case side1 => repeat (first | exact (Kd.R_reads' HO_4.out).2.2 | (with_reducible refine Kd.C_alloc ?_ _) | (with_reducible refine Kd.C_drewN ?_ _) | (with_reducible refine Kd.C_drew ?_)))
                            (case side2 => exact (Kd.R_reads' HO_4.out).2.1)
                            (case side3 => repeat (first | exact (Kd.R_reads' HO178.out).2.2 | (with_reducible refine Kd.C_alloc ?_ _) | (with_reducible refine Kd.C_drewN ?_ _) | (with_reducible refine Kd.C_drew ?_)))
                            (case side4 => exact (Kd.R_reads' HO178.out).2.1)
                            rintro e w25 ⟨v180, rfl, ho0, hb⟩
                            refine ⟨_, rfl, ?_⟩
                            have n0_ := Aside0.mk (Kd.R_elder' (by (with_reducible repeat (first | apply Kd.R_alloc | apply Kd.R_drewN | apply Kd.R_drew)); exact HO_4.out) (Kd.R_base ho0) hb)
                            have n1_ := Aside0.mk (Kd.R_elder' (by (with_reducible repeat (first | apply Kd.R_alloc | apply Kd.R_drewN | apply Kd.R_drew)); exact HO184.out) (Kd.R_base ho0) hb)
                            have n2_ := Aside0.mk (Kd.R_elder' (by (with_reducible repeat (first | apply Kd.R_alloc | apply Kd.R_drewN | apply Kd.R_drew)); exact HO178.out) (Kd.R_base ho0) hb)
                            have n3_ := Aside0.mk (Kd.R_lower (Kd.R_new' (Kd.R_new' (Kd.R_new' ho0 (Kd.R_lt (by (with_reducible repeat (first | apply Kd.R_alloc | apply Kd.R_drewN | apply Kd.R_drew)); exact HO_4.out))) (Kd.R_lt (by (with_reducible repeat (first | apply Kd.R_alloc | apply Kd.R_drewN | apply Kd.R_drew)); exact HO184.out))) (Kd.R_lt (by (with_reducible repeat (first | apply Kd.R_alloc | apply Kd.R_drewN | apply Kd.R_drew)); exact HO178.out))) (below_size (by repeat (first | (with_reducible first | exact HB.out | apply below_alloc | apply pw_below_drewN | apply below_drew1) | exact HB.out))))
                            have n4_ := Aside0.mk (below_step (by repeat (first | (with_reducible first | exact HB.out | apply below_alloc | apply pw_below_drewN | apply below_drew1) | exact HB.out)) hb)
                            clear HO_4
                            clear HO184
                            clear HO178
                            clear HB
                            have HO_4 := n0_
                            have HO184 := n1_
                            have HO178 := n2_
                            have HO181 := n3_
                            have HB := n4_
                            clear n0_ n1_ n2_ n3_ n4_
                            (try clear hb)
                            (try clear hb2)
                            (try clear hk)
                            (try clear hi)
                            (try clear ho0)
                            refine hK.out _ _ trivial (fun hHeld => ?_)
                            clear hK K
                            refine norm_ (a' := ?_) ?_ ?_
                            rotate_left
                            · show Act.put _ (some 30) _ = _
                              simp only [Act.put, List.setIfInBounds_toArray, List.set_cons_zero, List.set_cons_succ, i64_w, i32_w]
                              rfl
                            exact norm_ (by simp only [putAll, Act.put, List.setIfInBounds_toArray, List.set_cons_zero, List.set_cons_succ]) (hCont (.slice Ao24 y176.length co24, v180, v183) _ ⟨(by (with_reducible repeat (first | apply Kd.R_alloc | apply Kd.R_drewN | apply Kd.R_drew)); exact Kd.R_mono HO178.out (fun _ hk => ⟨hk.2, ⟨hk.1.2, hk.1.1.2⟩⟩)), (by (with_reducible repeat (first | apply Kd.R_alloc | apply Kd.R_drewN | apply Kd.R_drew)); exact Kd.R_mono HO181.out (fun _ hk => ⟨hk.2, ⟨hk.1.2, hk.1.1.2⟩⟩)), (by (with_reducible repeat (first | apply Kd.R_alloc | apply Kd.R_drewN | apply Kd.R_drew)); exact Kd.R_mono HO184.out (fun _ hk => ⟨hk.1.2, ⟨hk.2, hk.1.1.2⟩⟩)), (by (with_reducible repeat (first | apply Kd.R_alloc | apply Kd.R_drewN | apply Kd.R_drew)); exact Kd.R_mono HO_4.out (fun _ hk => ⟨hk.1.2, ⟨hk.2, hk.1.1.2⟩⟩)), (by repeat (first | (with_reducible first | exact HB.out | apply below_alloc | apply pw_below_drewN | apply below_drew1) | exact HB.out))⟩)
                        rintro ⟨v177, v180, v183⟩ w26 ⟨h0_, h1_, h2_, h3_, h4_⟩
                        have n0_ : Aside0 (Kd.R (Kd.int .u32) 40 w26 w.heap.size (fun k_ => some k_ ≠ (v180 : Value).ownBlock ∧ some k_ ≠ (v183 : Value).ownBlock ∧ some k_ ≠ (.slice Ao18 x4_2.length co18 : Value).ownBlock) v177 y176) := ⟨h0_⟩
                        have n1_ : Aside0 (Kd.R (Kd.int .u32) 40 w26 w.heap.size (fun k_ => some k_ ≠ (v177 : Value).ownBlock ∧ some k_ ≠ (v183 : Value).ownBlock ∧ some k_ ≠ (.slice Ao18 x4_2.length co18 : Value).ownBlock) v180 t179) := ⟨h1_⟩
                        have n2_ : Aside0 (Kd.R (Kd.int .u32) 40 w26 w.heap.size (fun k_ => some k_ ≠ (v177 : Value).ownBlock ∧ some k_ ≠ (v180 : Value).ownBlock ∧ some k_ ≠ (.slice Ao18 x4_2.length co18 : Value).ownBlock) v183 y182) := ⟨h2_⟩
                        have n3_ : Aside0 (Kd.R (Kd.int .u32) 40 w26 w.heap.size (fun k_ => some k_ ≠ (v177 : Value).ownBlock ∧ some k_ ≠ (v180 : Value).ownBlock ∧ some k_ ≠ (v183 : Value).ownBlock) (.slice Ao18 x4_2.length co18) x4_2) := ⟨h3_⟩
                        have n4_ : Aside0 (Below w.heap.size w w26) := ⟨h4_⟩
                        clear HO_4
                        clear HB
                        clear h0_ h1_ h2_ h3_ h4_
                        have HO178 := n0_
                        have HO181 := n1_
                        have HO184 := n2_
                        have HO_4 := n3_
                        have HB := n4_
                        clear n0_ n1_ n2_ n3_ n4_
                        have hHeld := trivial
                        obtain ⟨Ao27, co27, eo27⟩ := Kd.R_slice HO181.out
                        (first | subst eo27 | (injection eo27 with f1_ f2_ f3_; have f4_ := f1_.symm; have f5_ := f3_.symm; clear f1_ f2_ f3_; subst f4_; subst f5_))
                        obtain ⟨Ao28, co28, eo28⟩ := Kd.R_slice HO184.out
                        (first | subst eo28 | (injection eo28 with f1_ f2_ f3_; have f4_ := f1_.symm; have f5_ := f3_.symm; clear f1_ f2_ f3_; subst f4_; subst f5_))
                        refine norm_ (a' := ?_) ?_ ?_
                        rotate_left
                        · simp only [putAll, Act.put, List.setIfInBounds_toArray, List.set_cons_zero, List.set_cons_succ]
                          rfl
                        refine one_ (i := 9) (N := some 37) #[true, true, true, true, true, true, true, true, true, true, false] rfl rfl (one_of HT_.out (by kernel_rfl)) (by decide) (fun K hK => ?_)
                        refine goes_ Tryd.func68 (by kernel_rfl) rfl #[.slice Ao27 t179.length co27, .slice Ao28 y182.length co28] (by rfl) rfl rfl (by (try simp only [List.map_toArray, List.map_cons, List.map_nil]); first | done | rfl | (simp only [List.length_drop, List.length_take]; rfl)) ?_
                        with_reducible refine (nat_Add.calls kj5 _ _ t179 _ _ y182 t185 _ ?side1 ?side2 ?side3 ?side4 A17.out).mono ?_
                        (case side1 => repeat (first | exact (Kd.R_reads' HO181.out).2.2 | (with_reducible refine Kd.C_alloc ?_ _) | (with_reducible refine Kd.C_drewN ?_ _) | (with_reducible refine Kd.C_drew ?_)))
                        (case side2 => exact (Kd.R_reads' HO181.out).2.1)
                        (case side3 => repeat (first | exact (Kd.R_reads' HO184.out).2.2 | (with_reducible refine Kd.C_alloc ?_ _) | (with_reducible refine Kd.C_drewN ?_ _) | (with_reducible refine Kd.C_drew ?_)))
                        (case side4 => exact (Kd.R_reads' HO184.out).2.1)
                        rintro e w29 ⟨v186, rfl, ho0, hb⟩
                        refine ⟨_, rfl, ?_⟩
                        have n0_ := Aside0.mk (Kd.R_elder' (by (with_reducible repeat (first | apply Kd.R_alloc | apply Kd.R_drewN | apply Kd.R_drew)); exact HO_4.out) (Kd.R_base ho0) hb)
                        have n1_ := Aside0.mk (Kd.R_elder' (by (with_reducible repeat (first | apply Kd.R_alloc | apply Kd.R_drewN | apply Kd.R_drew)); exact HO178.out) (Kd.R_base ho0) hb)
                        have n2_ := Aside0.mk (Kd.R_elder' (by (with_reducible repeat (first | apply Kd.R_alloc | apply Kd.R_drewN | apply Kd.R_drew)); exact HO181.out) (Kd.R_base ho0) hb)
                        have n3_ := Aside0.mk (Kd.R_elder' (by (with_reducible repeat (first | apply Kd.R_alloc | apply Kd.R_drewN | apply Kd.R_drew)); exact HO184.out) (Kd.R_base ho0) hb)
                        have n4_ := Aside0.mk (Kd.R_lower (Kd.R_new' (Kd.R_new' (Kd.R_new' (Kd.R_new' ho0 (Kd.R_lt (by (with_reducible repeat (first | apply Kd.R_alloc | apply Kd.R_drewN | apply Kd.R_drew)); exact HO_4.out))) (Kd.R_lt (by (with_reducible repeat (first | apply Kd.R_alloc | apply Kd.R_drewN | apply Kd.R_drew)); exact HO178.out))) (Kd.R_lt (by (with_reducible repeat (first | apply Kd.R_alloc | apply Kd.R_drewN | apply Kd.R_drew)); exact HO181.out))) (Kd.R_lt (by (with_reducible repeat (first | apply Kd.R_alloc | apply Kd.R_drewN | apply Kd.R_drew)); exact HO184.out))) (below_size (by repeat (first | (with_reducible first | exact HB.out | apply below_alloc | apply pw_below_drewN | apply below_drew1) | exact HB.out))))
                        have n5_ := Aside0.mk (below_step (by repeat (first | (with_reducible first | exact HB.out | apply below_alloc | apply pw_below_drewN | apply below_drew1) | exact HB.out)) hb)
                        clear HO_4
                        clear HO178
                        clear HO181
                        clear HO184
                        clear HB
                        have HO_4 := n0_
                        have HO178 := n1_
                        have HO181 := n2_
                        have HO184 := n3_
                        have HO187 := n4_
                        have HB := n5_
                        clear n0_ n1_ n2_ n3_ n4_ n5_
                        (try clear hb)
                        (try clear hb2)
                        (try clear hk)
                        (try clear hi)
                        (try clear ho0)
                        refine hK.out _ _ trivial (fun hHeld => ?_)
                        clear hK K
                        refine norm_ (a' := ?_) ?_ ?_
                        rotate_left
                        · show Act.put _ (some 37) _ = _
                          simp only [Act.put, List.setIfInBounds_toArray, List.set_cons_zero, List.set_cons_succ, i64_w, i32_w]
                          rfl
                        refine pure_ (i := 10) (N := some 4) (v := ?_) (a' := ?_) #[true, true, true, true, true, true, true, true, true, true, true] rfl rfl (any_of HT_.out (by kernel_rfl)) (fun _ _ _ h => h) (Or.inl ⟨by rfl, ?_⟩) ?_ ?_
                        rotate_left
                        · intro w'
                          go_simp
                          with_reducible rfl
                        rotate_left
                        · simp only [Act.put, List.setIfInBounds_toArray, List.set_cons_zero, List.set_cons_succ, i64_w, i32_w]
                          rfl
                        refine done_ (done_of HT_.out (by kernel_rfl)) ?_
                        try go_wp2
                        go_roundg kj5
                        case measure => have := HJ1.out; have := HK2.out; have := HJ5.out; omega
                        case rel => exact ⟨(t185), (wrap64 (x15_2 + 1)), (by first | rfl | (simp; done) | (simp [*]; done)), H', ⟨by have := HJ1.out; have := HK2.out; have := HJ5.out; omega⟩, ⟨by (with_reducible repeat (first | apply Kd.R_alloc | apply Kd.R_drewN | apply Kd.R_drew)); exact Kd.R_mono HO187.out (fun _ hk => trivial)⟩, ⟨by repeat (first | (with_reducible first | exact HB.out | apply below_alloc | apply pw_below_drewN | apply below_drew1) | exact HB.out)⟩⟩
                      · rw [if_neg c15] at H
                        exact absurd H (by simp)
                    · rw [if_neg c14] at H
                      exact absurd H (by simp)
            · rw [if_neg c5] at H
              have c5b0 : decide (x15_2 < (a0.size : Int)) = false := decide_eq_false c5
              clear c5
              simp only [Option.some.injEq, Prod.mk.injEq] at H
              obtain ⟨rfl, rfl⟩ := H
              go_wp2
              go_ret2
              exact ⟨_, by first | rfl | (simp [errW_none, errW_some] <;> rfl) | (simp [*, errW_none, errW_some] <;> rfl), by (with_reducible repeat (first | apply Kd.R_alloc | apply Kd.R_drewN | apply Kd.R_drew)); exact HO_4.out, by repeat (first | (with_reducible first | exact HB.out | apply below_alloc | apply pw_below_drewN | apply below_drew1) | exact HB.out)⟩

end Go.Proofs.YtmkdcokdilllcaaDoor.X
/- What the code's naturals come to: noughts cut off; digits read. -/
namespace Go.Proofs.YtmkdcokdilllcaaDoor.X
open Go.RowKit Go.Proofs.YtmkdcokdilllcaaDoorW.PrintWords Go.Proofs.YtmkdcokdilllcaaDoorW.PrintMore
set_option linter.unusedVariables false
set_option linter.unusedSimpArgs false
/-- A number without its noughts, and how many they were. -/
def tz (n : Nat) : Nat × Nat := if n = 0 then (0, 0) else if n % 10 = 0 then ((tz (n / 10)).1, (tz (n / 10)).2 + 1) else (n, 0)
termination_by n
decreasing_by all_goals omega
theorem tz_zero : tz 0 = (0, 0) := by rw [tz]; simp
theorem tz_ten {n : Nat} (h : n ≠ 0) (h1 : n % 10 = 0) : tz n = ((tz (n / 10)).1, (tz (n / 10)).2 + 1) := by rw [tz, if_neg h, if_pos h1]
theorem tz_self {n : Nat} (h1 : n % 10 ≠ 0) : tz n = (n, 0) := by rw [tz, if_neg (by omega), if_neg h1]
theorem tz_bits (m : Nat) : ∀ n : Nat, n < 2 ^ m → (tz n).2 ≤ m := by
  induction m with
  | zero =>
    intro n h
    obtain rfl : n = 0 := by simpa using h
    rw [tz_zero]; exact Nat.le_refl _
  | succ m ih =>
    intro n h
    by_cases h0 : n = 0
    · subst h0; rw [tz_zero]; exact Nat.zero_le _
    · by_cases h1 : n % 10 = 0
      · rw [tz_ten h0 h1]
        have := ih (n / 10) (by rw [Nat.pow_succ] at h; omega)
        simp only
        omega
      · rw [tz_self h1]; exact Nat.zero_le _
theorem tz_limbs {n L : Nat} (h : n < 4294967296 ^ L) : (tz n).2 ≤ 32 * L := by
  refine tz_bits _ n ?_
  rw [Nat.pow_mul]
  exact h
theorem trim_loop (L : Nat) (hL : L ≤ 1099511627776) : ∀ n : Nat, n < 4294967296 ^ L → ∀ c : Nat, c + (tz n).2 ≤ 4611686018427387904 → Ev (fun k => nat_Trim.l0 k (lim n) (c : Int)) (lim (tz n).1, ((c + (tz n).2 : Nat) : Int)) := by
  intro n
  induction n using Nat.strongRecOn with
  | _ n ih =>
    intro hn c hc
    by_cases h0 : n = 0
    · subst h0
      refine Ev.step (f := fun _ => some ([], (c : Int))) (fun k => ?_) ?_
      · have c0 : ¬ ((([] : List Int).length : Int) > 0) := by simp
        simp only [nat_Trim.l0, lim_zero, c0, if_false]
      · rw [tz_zero, lim_zero]
        exact Ev.now _
    · have hlen : (lim n).length ≤ L := lim_len_le hn
      have hpos : ((lim n).length : Int) > 0 := by
        have : (lim n).length ≠ 0 := fun h => h0 ((lim_len_zero n).1 h)
        omega
      have hs := nat_small_eq (lim_ok n) (Nat.le_trans hlen hL) (d := 10) (by decide) (by decide)
      rw [val_lim, show (10 : Int).toNat = 10 from rfl] at hs
      refine Ev.step (fun k => by simp only [nat_Trim.l0, hpos, if_true]; rfl) ?_
      refine Ev.bind hs ?_
      by_cases h1 : n % 10 = 0
      · rw [tz_ten h0 h1] at hc ⊢
        simp only at hc
        have hw : wrap64 ((c : Int) + 1) = ((c + 1 : Nat) : Int) := by rw [wrap64_ok (by omega) (by omega)]; omega
        have h2 := ih (n / 10) (by omega) (Nat.lt_of_le_of_lt (Nat.div_le_self _ _) hn) (c + 1) (by omega)
        refine Ev.congr (fun k => ?_) (show Ev (fun k => nat_Trim.l0 k (lim (n / 10)) ((c + 1 : Nat) : Int)) _ from ?_)
        · simp only [h1, Int.natCast_zero, if_true, hw]
          first | done | rfl
        · rw [show c + ((tz (n / 10)).2 + 1) = c + 1 + (tz (n / 10)).2 by omega]
          exact h2
      · have h1' : ¬ (((n % 10 : Nat) : Int) = 0) := by omega
        rw [tz_self h1]
        refine Ev.congr (fun k => ?_) (Ev.now _)
        simp only [h1', if_false]
        first | done | rfl
theorem nat_trim {a : List Int} (ha : Ok a) (la : a.length ≤ 1099511627776) : Ev (fun k => nat_Trim.f k a) (lim (tz (val a)).1, (((tz (val a)).2 : Nat) : Int)) := by
  have h := trim_loop a.length la (val a) (val_lt ha) 0 (by have := tz_limbs (val_lt ha); omega)
  rw [Nat.zero_add] at h
  refine Ev.congr (fun k => ?_) h
  unfold nat_Trim.f
  rw [nat_Norm_eq ha (by omega)]
  rfl
/-! digits are read -/
theorem dlen (s : ByteArray) : s.data.toList.length = s.size := by rw [Array.length_toList]; rfl
theorem bt_drop {s : ByteArray} {i : Nat} {c : UInt8} {r : List UInt8} (h : s.data.toList.drop i = c :: r) : i < s.size ∧ bt s i = (c.toNat : Int) := by
  have h1 : s.data.toList[i]? = some c := by
    rw [← List.head?_drop, h]; rfl
  have hl : i < s.size := by
    have := (List.getElem?_eq_some_iff.1 h1).1
    rw [dlen] at this
    exact this
  refine ⟨hl, ?_⟩
  unfold bt
  rw [Int.toNat_natCast, dif_pos hl]
  have h2 : s.data.toList[i]? = some (s[i]'hl) := by
    rw [Array.getElem?_toList, Array.getElem?_eq_getElem hl]; rfl
  rw [h2] at h1
  rw [Option.some.inj h1]
theorem drop_tail {s : ByteArray} {i : Nat} {c : UInt8} {r : List UInt8} (h : s.data.toList.drop i = c :: r) : s.data.toList.drop (i + 1) = r := by
  rw [← List.tail_drop, h]; rfl
theorem val_one (x : Int) : val [x] = x.toNat := by simp [val]
theorem ok_one {x : Int} (h0 : 0 ≤ x) (h1 : x < 4294967296) : Ok [x] := Ok.cons h0 h1 Ok.nil
theorem parse_loop (s : ByteArray) (hs : s.size ≤ 2000) (n : Nat) (d : Nat) : ∀ (i v : Nat), i + d = s.size → Lib.decFrom v (s.data.toList.drop i) = some n → v < 10 ^ i →
    Ev (fun k => nat_Parse.l0 k s (lim v) (s.size : Int) (i : Int)) (lim n, true) := by
  induction d with
  | zero =>
    intro i v hi hd hv
    rw [List.drop_eq_nil_of_le (by rw [dlen]; omega)] at hd
    obtain rfl := Option.some.inj hd
    have c0 : ¬ ((i : Int) < (s.size : Int)) := by omega
    exact Ev.step (f := fun _ => some (lim v, true)) (fun k => by simp only [nat_Parse.l0, c0, if_false]) (Ev.now _)
  | succ d ih =>
    intro i v hi hd hv
    rcases hdr : s.data.toList.drop i with _ | ⟨c, r⟩
    · have := congrArg List.length hdr
      rw [List.length_drop, dlen, List.length_nil] at this
      omega
    · obtain ⟨hlt, hb⟩ := bt_drop hdr
      rw [hdr] at hd
      unfold Lib.decFrom Lib.digitVal at hd
      by_cases hc : 48 ≤ c.toNat ∧ c.toNat ≤ 57
      · rw [if_pos hc] at hd
        have c0 : ((i : Int) < (s.size : Int)) := by omega
        have c1 : (0 : Int) ≤ (i : Int) := by omega
        have c2 : ¬ (bt s i < 48) := by rw [hb]; omega
        have c3 : decide (bt s i > 57) = false := decide_eq_false (by rw [hb]; omega)
        have hx : ((bt s i - 48) % 256) = ((c.toNat - 48 : Nat) : Int) := by rw [hb]; omega
        have hv2 : v < 4294967296 ^ i := Nat.lt_of_lt_of_le hv (Nat.pow_le_pow_left (by decide) _)
        have hl : (lim v).length ≤ i := lim_len_le hv2
        have hm := nat_mul (lim_ok v) (ok_one (x := 10) (by decide) (by decide)) (by omega) (by simp)
        rw [val_lim, val_one, show (10 : Int).toNat = 10 from rfl] at hm
        have hp : v * 10 + (c.toNat - 48) < 10 ^ (i + 1) := by rw [Nat.pow_succ]; omega
        have hl2 : (lim (v * 10)).length ≤ i + 1 := lim_len_le (Nat.lt_of_lt_of_le (show v * 10 < 10 ^ (i + 1) by rw [Nat.pow_succ]; omega) (Nat.pow_le_pow_left (by decide) _))
        have hA := nat_add (lim_ok (v * 10)) (ok_one (x := ((c.toNat - 48 : Nat) : Int)) (by omega) (by omega)) (by omega) (by simp)
        rw [val_lim, val_one, Int.toNat_natCast] at hA
        have hI := ih (i + 1) (v * 10 + (c.toNat - 48)) (by omega) (by rw [drop_tail hdr]; exact hd) hp
        have hw : wrap64 ((i : Int) + 1) = ((i + 1 : Nat) : Int) := by rw [wrap64_ok (by omega) (by omega)]; omega
        refine Ev.step (f := fun k => nat_Parse.j2 k s (lim v) (i : Int) (s.size : Int) (i : Int) false) (fun k => by simp only [nat_Parse.l0, c0, c1, c2, c3, if_true, if_false]) ?_
        refine Ev.step (fun k => by simp only [nat_Parse.j2, c0, c1, if_true, Bool.false_eq_true, if_false, hx, hw]; rfl) ?_
        exact Ev.bind hm (Ev.bind hA hI)
      · rw [if_neg hc] at hd
        cases hd
theorem nat_parse (s : ByteArray) (hs : s.size ≤ 2000) (h0 : s.size ≠ 0) (n : Nat) (h : Lib.decFrom 0 s.data.toList = some n) : Ev (fun k => nat_Parse.f k s) (lim n, true) := by
  have h1 := parse_loop s hs n s.size 0 0 (by omega) h (by decide)
  rw [lim_zero] at h1
  have e0 : ¬ (s.toList = ([] : List UInt8)) := by
    intro h
    rw [Lib.toList_data] at h
    apply h0
    have := congrArg List.length h
    rw [dlen, List.length_nil] at this
    exact this
  have e1 : decide ((s.size : Int) > 2000) = false := decide_eq_false (by omega)
  refine Ev.congr (fun k => by unfold nat_Parse.f; rw [if_neg e0, e1]) ?_
  refine Ev.step (fun k => by simp only [nat_Parse.j0, Bool.false_eq_true, if_false]; rfl) ?_
  exact h1
end Go.Proofs.YtmkdcokdilllcaaDoor.X
-- A walk, written by a program of this session (xp.py).
namespace Go.Proofs.YtmkdcokdilllcaaDoor.X
open Go.RowKit Go.Proofs.YtmkdcokdilllcaaDoorW.PrintWords Go.Proofs.YtmkdcokdilllcaaDoorW.PrintLast Go.Proofs.YtmkdcokdilllcaaDoorW.PrintMore
attribute [local go_sem] max2_int min2_int max_two min_two max_three min_three max_four min_four
set_option linter.unusedVariables false
set_option linter.unusedSimpArgs false

/-! ### erratumref01_Parse: function 28 -/
def erratumref01_Parse.T9 : Bool × List (List Nat × List Nat) := (true, [([], []), ([], []), ([0, 1], [0, 1]), ([], []), ([], []), ([3, 4], [3, 4]), ([5], [5]), ([6], [6]), ([7], [7]), ([2, 8, 2], [2, 8]), ([9, 9, 0, 1, 2, 3, 4, 5, 6, 7, 8, 9], [0, 9])])
def erratumref01_Parse.B9 : List Nat := [0, 0, 3, 0, 0, 24, 56, 120, 248, 511, 1023]
theorem erratumref01_Parse.tab9 : rtab .any (opsOf Tryd.f28 9) = erratumref01_Parse.T9 := by kernel_rfl
theorem erratumref01_Parse.bits9 : waitsOk erratumref01_Parse.T9.2 erratumref01_Parse.B9 = true := by kernel_rfl
end Go.Proofs.YtmkdcokdilllcaaDoor.X
-- A walk, written by a program of this session (xp.py).
namespace Go.Proofs.YtmkdcokdilllcaaDoor.X
open Go.RowKit Go.Proofs.YtmkdcokdilllcaaDoorW.PrintWords Go.Proofs.YtmkdcokdilllcaaDoorW.PrintLast Go.Proofs.YtmkdcokdilllcaaDoorW.PrintMore
attribute [local go_sem] max2_int min2_int max_two min_two max_three min_three max_four min_four
set_option linter.unusedVariables false
set_option linter.unusedSimpArgs false

/-! ### num_Make: function 18 -/
def num_Make.f (k : Nat) (a0 : Bool) (l1 : List Int) (a2 : Int) : Option (Bool × List Int × Int × Bool) := (nat_Trim.f k l1).bind fun bt117 => (if (bt117.1.length : Int) = 0 then (some (false, ([] : List Int), 0, true)) else (if (bt117.1.length : Int) > 90 then (some (false, ([] : List Int), 0, false)) else (if a2 > (wrap64 (1200 - bt117.2)) then (some (false, ([] : List Int), 0, false)) else (if a2 < (wrap64 ((-1200) - bt117.2)) then (some (false, ([] : List Int), 0, false)) else (some (a0, bt117.1, wrap64 (a2 + bt117.2), true))))))
set_option maxHeartbeats 8000000 in
set_option maxRecDepth 100000 in
theorem num_Make.calls (k : Nat) (a0 : Bool) (A1 : Option Addr) (c1 : Nat) (l1 : List Int) (a2 : Int) (r1 : Bool) (r2 : List Int) (r3 : Int) (r4 : Bool) (w : World) (hr1 : Kd.C (Kd.int .u32) w A1 l1.length l1) (hc1 : l1.length ≤ c1) (h : num_Make.f k a0 l1 a2 = some (r1, r2, r3, r4)) :
    Calls Tryd.prog 18 #[.bool a0, .slice A1 l1.length c1, .int .i64 a2] w fun e w' => ∃ v1_ : Value, e = .returned (.tuple #[.agg #[.bool r1, v1_, .int .i64 r3], .bool r4]) ∧ Kd.R (Kd.int .u32) 40 w' w.heap.size (fun _ => True) v1_ r2 ∧ Below w.heap.size w w' := by
  have hu25 := Tryd.underlying25
  have HR1 := Aside0.mk hr1
  have HC1 := Aside0.mk hc1
  clear hr1 hc1
  have HB := Aside0.mk (Below.refl w.heap.size w)
  have H : ((nat_Trim.f k l1).bind fun bt117 => (if (bt117.1.length : Int) = 0 then (some (false, ([] : List Int), 0, true)) else (if (bt117.1.length : Int) > 90 then (some (false, ([] : List Int), 0, false)) else (if a2 > (wrap64 (1200 - bt117.2)) then (some (false, ([] : List Int), 0, false)) else (if a2 < (wrap64 ((-1200) - bt117.2)) then (some (false, ([] : List Int), 0, false)) else (some (a0, bt117.1, wrap64 (a2 + bt117.2), true))))))) = some (r1, r2, r3, r4) := h
  clear h
  replace H := Option.bind_eq_some_iff.mp H
  obtain ⟨⟨t117, t118⟩, A40, H⟩ := H
  replace H : (if (t117.length : Int) = 0 then (some (false, ([] : List Int), 0, true)) else (if (t117.length : Int) > 90 then (some (false, ([] : List Int), 0, false)) else (if a2 > (wrap64 (1200 - t118)) then (some (false, ([] : List Int), 0, false)) else (if a2 < (wrap64 ((-1200) - t118)) then (some (false, ([] : List Int), 0, false)) else (some (a0, t117, wrap64 (a2 + t118), true)))))) = some (r1, r2, r3, r4) := H
  have A4 := Aside0.mk A40
  clear A40
  by_cases c5 : (t117.length : Int) = 0
  · rw [if_pos c5] at H
    have c5b0 : ((t117.length : Int) == 0) = true := beq_iff_eq.mpr c5
    have c5b1 : ((t117.length : Int) != 0) = false := bne_eq_false_iff_eq.mpr c5
    clear c5
    simp only [Option.some.injEq, Prod.mk.injEq] at H
    obtain ⟨rfl, rfl, rfl, rfl⟩ := H
    go_enter Tryd.func18, Tryd.ntmps18
    go_wp2_with (first | ((with_reducible refine gate_dst (N := 6) rfl ?_); refine box_event ?hg (N := 6) ?hd (cs := #[.bool false, .slice none 0 0, .int .i64 0]) (t := 25) ?hr ?_; (case hd => rfl); (case hg => rfl); (case hr => first | (go_simp; done) | (go_simp; rfl) | (go_simp; simp only [x_u32u8, x_u8, x_u32, x_u64, x_mm]; first | done | rfl)); intro gb116 hg w6 hbox hb; have n0_ := Aside0.mk (below_step (by repeat (first | (with_reducible first | exact HB.out | apply below_alloc | apply pw_below_drewN | apply below_drew1) | exact HB.out)) hb); have n1_ := Aside0.mk (hbox); have n2_ := Aside0.mk ((by rw [hg]; exact (below_size (by repeat (first | (with_reducible first | exact HB.out | apply below_alloc | apply pw_below_drewN | apply below_drew1) | exact HB.out))) : w.heap.size ≤ gb116)); have n3_ := Aside0.mk ((by rw [hg]; exact (below_size (by repeat (first | (with_reducible first | exact HB.out | apply below_alloc | apply pw_below_drewN | apply below_drew1) | exact HB.out))) : w.heap.size ≤ gb116)); clear HB; have HB := n0_; have BK116 := n1_; have GW116 := n2_; have GE116 := n3_; clear n0_ n1_ n2_ n3_; clear hb hbox hg) | ((with_reducible refine gate_callee (f := 38) rfl ?_); refine goesL_ (some 11) rfl rfl Tryd.func38 (by kernel_rfl) rfl #[.slice A1 l1.length c1] rfl (by (try simp only [List.map_toArray, List.map_cons, List.map_nil]); first | done | rfl | (simp only [List.length_drop, List.length_take]; rfl)) ?_; (with_reducible refine (nat_Trim.calls k _ _ l1 t117 t118 _ ?side1 ?side2 A4.out).mono ?_); (case side1 => repeat (first | exact (Kd.C_below HR1.out HB.out) | (with_reducible refine Kd.C_alloc ?_ _) | (with_reducible refine Kd.C_drewN ?_ _) | (with_reducible refine Kd.C_drew ?_))); (case side2 => exact HC1.out); rintro e w7 ⟨v119, rfl, ho0, hb⟩; refine ⟨_, rfl, ?_⟩; have n0_ := Aside0.mk (Kd.R_lower ho0 (below_size (by repeat (first | (with_reducible first | exact HB.out | apply below_alloc | apply pw_below_drewN | apply below_drew1 | refine below_set ?_ GE116.out) | exact HB.out)))); have n1_ := Aside0.mk (blk_below (g := gb116) (o := .cells #[.bool false, .slice none 0 0, .int .i64 0] 25 (0, 0)) (by (with_reducible repeat (first | refine blk_drewN ?_ _ | refine blk_drew ?_ | refine blk_alloc ?_ _)); exact BK116.out) hb); have n2_ := Aside0.mk (below_step (by repeat (first | (with_reducible first | exact HB.out | apply below_alloc | apply pw_below_drewN | apply below_drew1 | refine below_set ?_ GE116.out) | exact HB.out)) hb); clear BK116; clear HB; have HO120 := n0_; have BK116 := n1_; have HB := n2_; clear n0_ n1_ n2_; (try clear hb); (try clear hb2); (try clear hk); (try clear hi); (try clear ho0); obtain ⟨Ao8, co8, eo8⟩ := Kd.R_slice HO120.out; subst eo8; have hcz9_0 : w7.cell? ⟨gb116, 0, none⟩ = some (.bool false) := (blk_cell BK116.out 0).trans rfl; have hcz9_1 : w7.cell? ⟨gb116, 1, none⟩ = some (.slice none 0 0) := (blk_cell BK116.out 1).trans rfl; have hcz9_2 : w7.cell? ⟨gb116, 2, none⟩ = some (.int .i64 0) := (blk_cell BK116.out 2).trans rfl; have hfz9_0 := blk_frozen BK116.out 0; have hfz9_1 := blk_frozen BK116.out 1; have hfz9_2 := blk_frozen BK116.out 2))
    refine bodyPost_ret (results_ct rfl _ _ gb116 25 #[.bool false, .slice none 0 0, .int .i64 0] (0, 0) _ rfl (by (with_reducible repeat (first | refine blk_drewN ?_ _ | refine blk_drew ?_ | refine blk_alloc ?_ _)); refine blk_put (cs := #[.bool false, .slice none 0 0, .int .i64 0]) ?_ 2 _ rfl; (with_reducible repeat (first | refine blk_drewN ?_ _ | refine blk_drew ?_ | refine blk_alloc ?_ _)); refine blk_put (cs := #[.bool false, .slice none 0 0, .int .i64 0]) ?_ 1 _ rfl; (with_reducible repeat (first | refine blk_drewN ?_ _ | refine blk_drew ?_ | refine blk_alloc ?_ _)); refine blk_put (cs := #[.bool false, .slice none 0 0, .int .i64 0]) ?_ 0 _ rfl; (with_reducible repeat (first | refine blk_drewN ?_ _ | refine blk_drew ?_ | refine blk_alloc ?_ _)); exact BK116.out) Tryd.underlying25 rfl (by kernel_rfl)) rfl ?_
    exact ⟨_, by first | rfl | (simp [errW_none, errW_some] <;> rfl) | (simp [*, errW_none, errW_some] <;> rfl), by first | exact Kd.R_nil _ _ _ _ _ | exact Kd.N_nil _ _ _ _ _ | exact Kd.V_nil _ _ _ _ _ | exact Kd.Q_nil _ _ _ _ _ | exact Kd.S_nil _ _ _ _ _, by repeat (first | (with_reducible first | exact HB.out | apply below_alloc | apply pw_below_drewN | apply below_drew1 | refine below_set ?_ GE116.out) | exact HB.out)⟩
  · rw [if_neg c5] at H
    have c5b0 : ((t117.length : Int) == 0) = false := beq_eq_false_iff_ne.mpr c5
    have c5b1 : ((t117.length : Int) != 0) = true := bne_iff_ne.mpr c5
    have c5b2 : ¬ (t117 = []) := fun h_ => c5 (by rw [h_]; rfl)
    by_cases c10 : (t117.length : Int) > 90
    · rw [if_pos c10] at H
      have c10b0 : decide (90 < (t117.length : Int)) = true := decide_eq_true c10
      have c10b1 : decide (90 < t117.length) = true := decide_eq_true (by omega)
      clear c10
      simp only [Option.some.injEq, Prod.mk.injEq] at H
      obtain ⟨rfl, rfl, rfl, rfl⟩ := H
      go_enter Tryd.func18, Tryd.ntmps18
      go_wp2_with (first | ((with_reducible refine gate_dst (N := 6) rfl ?_); refine box_event ?hg (N := 6) ?hd (cs := #[.bool false, .slice none 0 0, .int .i64 0]) (t := 25) ?hr ?_; (case hd => rfl); (case hg => rfl); (case hr => first | (go_simp; done) | (go_simp; rfl) | (go_simp; simp only [x_u32u8, x_u8, x_u32, x_u64, x_mm]; first | done | rfl)); intro gb116 hg w11 hbox hb; have n0_ := Aside0.mk (below_step (by repeat (first | (with_reducible first | exact HB.out | apply below_alloc | apply pw_below_drewN | apply below_drew1) | exact HB.out)) hb); have n1_ := Aside0.mk (hbox); have n2_ := Aside0.mk ((by rw [hg]; exact (below_size (by repeat (first | (with_reducible first | exact HB.out | apply below_alloc | apply pw_below_drewN | apply below_drew1) | exact HB.out))) : w.heap.size ≤ gb116)); have n3_ := Aside0.mk ((by rw [hg]; exact (below_size (by repeat (first | (with_reducible first | exact HB.out | apply below_alloc | apply pw_below_drewN | apply below_drew1) | exact HB.out))) : w.heap.size ≤ gb116)); clear HB; have HB := n0_; have BK116 := n1_; have GW116 := n2_; have GE116 := n3_; clear n0_ n1_ n2_ n3_; clear hb hbox hg) | ((with_reducible refine gate_callee (f := 38) rfl ?_); refine goesL_ (some 11) rfl rfl Tryd.func38 (by kernel_rfl) rfl #[.slice A1 l1.length c1] rfl (by (try simp only [List.map_toArray, List.map_cons, List.map_nil]); first | done | rfl | (simp only [List.length_drop, List.length_take]; rfl)) ?_; (with_reducible refine (nat_Trim.calls k _ _ l1 t117 t118 _ ?side1 ?side2 A4.out).mono ?_); (case side1 => repeat (first | exact (Kd.C_below HR1.out HB.out) | (with_reducible refine Kd.C_alloc ?_ _) | (with_reducible refine Kd.C_drewN ?_ _) | (with_reducible refine Kd.C_drew ?_))); (case side2 => exact HC1.out); rintro e w12 ⟨v119, rfl, ho0, hb⟩; refine ⟨_, rfl, ?_⟩; have n0_ := Aside0.mk (Kd.R_lower ho0 (below_size (by repeat (first | (with_reducible first | exact HB.out | apply below_alloc | apply pw_below_drewN | apply below_drew1 | refine below_set ?_ GE116.out) | exact HB.out)))); have n1_ := Aside0.mk (blk_below (g := gb116) (o := .cells #[.bool false, .slice none 0 0, .int .i64 0] 25 (0, 0)) (by (with_reducible repeat (first | refine blk_drewN ?_ _ | refine blk_drew ?_ | refine blk_alloc ?_ _)); exact BK116.out) hb); have n2_ := Aside0.mk (below_step (by repeat (first | (with_reducible first | exact HB.out | apply below_alloc | apply pw_below_drewN | apply below_drew1 | refine below_set ?_ GE116.out) | exact HB.out)) hb); clear BK116; clear HB; have HO120 := n0_; have BK116 := n1_; have HB := n2_; clear n0_ n1_ n2_; (try clear hb); (try clear hb2); (try clear hk); (try clear hi); (try clear ho0); obtain ⟨Ao13, co13, eo13⟩ := Kd.R_slice HO120.out; subst eo13; have hcz14_0 : w12.cell? ⟨gb116, 0, none⟩ = some (.bool false) := (blk_cell BK116.out 0).trans rfl; have hcz14_1 : w12.cell? ⟨gb116, 1, none⟩ = some (.slice none 0 0) := (blk_cell BK116.out 1).trans rfl; have hcz14_2 : w12.cell? ⟨gb116, 2, none⟩ = some (.int .i64 0) := (blk_cell BK116.out 2).trans rfl; have hfz14_0 := blk_frozen BK116.out 0; have hfz14_1 := blk_frozen BK116.out 1; have hfz14_2 := blk_frozen BK116.out 2))
      refine bodyPost_ret (results_ct rfl _ _ gb116 25 #[.bool false, .slice none 0 0, .int .i64 0] (0, 0) _ rfl (by (with_reducible repeat (first | refine blk_drewN ?_ _ | refine blk_drew ?_ | refine blk_alloc ?_ _)); refine blk_put (cs := #[.bool false, .slice none 0 0, .int .i64 0]) ?_ 2 _ rfl; (with_reducible repeat (first | refine blk_drewN ?_ _ | refine blk_drew ?_ | refine blk_alloc ?_ _)); refine blk_put (cs := #[.bool false, .slice none 0 0, .int .i64 0]) ?_ 1 _ rfl; (with_reducible repeat (first | refine blk_drewN ?_ _ | refine blk_drew ?_ | refine blk_alloc ?_ _)); refine blk_put (cs := #[.bool false, .slice none 0 0, .int .i64 0]) ?_ 0 _ rfl; (with_reducible repeat (first | refine blk_drewN ?_ _ | refine blk_drew ?_ | refine blk_alloc ?_ _)); exact BK116.out) Tryd.underlying25 rfl (by kernel_rfl)) rfl ?_
      exact ⟨_, by first | rfl | (simp [errW_none, errW_some] <;> rfl) | (simp [*, errW_none, errW_some] <;> rfl), by first | exact Kd.R_nil _ _ _ _ _ | exact Kd.N_nil _ _ _ _ _ | exact Kd.V_nil _ _ _ _ _ | exact Kd.Q_nil _ _ _ _ _ | exact Kd.S_nil _ _ _ _ _, by repeat (first | (with_reducible first | exact HB.out | apply below_alloc | apply pw_below_drewN | apply below_drew1 | refine below_set ?_ GE116.out) | exact HB.out)⟩
    · rw [if_neg c10] at H
      have c10b0 : decide (90 < (t117.length : Int)) = false := decide_eq_false c10
      have c10b1 : decide (90 < t117.length) = false := decide_eq_false (by omega)
      clear c10
      by_cases c15 : a2 > (wrap64 (1200 - t118))
      · rw [if_pos c15] at H
        have c15b0 : decide ((wrap64 (1200 - t118)) < a2) = true := decide_eq_true c15
        clear c15
        simp only [Option.some.injEq, Prod.mk.injEq] at H
        obtain ⟨rfl, rfl, rfl, rfl⟩ := H
        go_enter Tryd.func18, Tryd.ntmps18
        go_wp2_with (first | ((with_reducible refine gate_dst (N := 6) rfl ?_); refine box_event ?hg (N := 6) ?hd (cs := #[.bool false, .slice none 0 0, .int .i64 0]) (t := 25) ?hr ?_; (case hd => rfl); (case hg => rfl); (case hr => first | (go_simp; done) | (go_simp; rfl) | (go_simp; simp only [x_u32u8, x_u8, x_u32, x_u64, x_mm]; first | done | rfl)); intro gb116 hg w16 hbox hb; have n0_ := Aside0.mk (below_step (by repeat (first | (with_reducible first | exact HB.out | apply below_alloc | apply pw_below_drewN | apply below_drew1) | exact HB.out)) hb); have n1_ := Aside0.mk (hbox); have n2_ := Aside0.mk ((by rw [hg]; exact (below_size (by repeat (first | (with_reducible first | exact HB.out | apply below_alloc | apply pw_below_drewN | apply below_drew1) | exact HB.out))) : w.heap.size ≤ gb116)); have n3_ := Aside0.mk ((by rw [hg]; exact (below_size (by repeat (first | (with_reducible first | exact HB.out | apply below_alloc | apply pw_below_drewN | apply below_drew1) | exact HB.out))) : w.heap.size ≤ gb116)); clear HB; have HB := n0_; have BK116 := n1_; have GW116 := n2_; have GE116 := n3_; clear n0_ n1_ n2_ n3_; clear hb hbox hg) | ((with_reducible refine gate_callee (f := 38) rfl ?_); refine goesL_ (some 11) rfl rfl Tryd.func38 (by kernel_rfl) rfl #[.slice A1 l1.length c1] rfl (by (try simp only [List.map_toArray, List.map_cons, List.map_nil]); first | done | rfl | (simp only [List.length_drop, List.length_take]; rfl)) ?_; (with_reducible refine (nat_Trim.calls k _ _ l1 t117 t118 _ ?side1 ?side2 A4.out).mono ?_); (case side1 => repeat (first | exact (Kd.C_below HR1.out HB.out) | (with_reducible refine Kd.C_alloc ?_ _) | (with_reducible refine Kd.C_drewN ?_ _) | (with_reducible refine Kd.C_drew ?_))); (case side2 => exact HC1.out); rintro e w17 ⟨v119, rfl, ho0, hb⟩; refine ⟨_, rfl, ?_⟩; have n0_ := Aside0.mk (Kd.R_lower ho0 (below_size (by repeat (first | (with_reducible first | exact HB.out | apply below_alloc | apply pw_below_drewN | apply below_drew1 | refine below_set ?_ GE116.out) | exact HB.out)))); have n1_ := Aside0.mk (blk_below (g := gb116) (o := .cells #[.bool false, .slice none 0 0, .int .i64 0] 25 (0, 0)) (by (with_reducible repeat (first | refine blk_drewN ?_ _ | refine blk_drew ?_ | refine blk_alloc ?_ _)); exact BK116.out) hb); have n2_ := Aside0.mk (below_step (by repeat (first | (with_reducible first | exact HB.out | apply below_alloc | apply pw_below_drewN | apply below_drew1 | refine below_set ?_ GE116.out) | exact HB.out)) hb); clear BK116; clear HB; have HO120 := n0_; have BK116 := n1_; have HB := n2_; clear n0_ n1_ n2_; (try clear hb); (try clear hb2); (try clear hk); (try clear hi); (try clear ho0); obtain ⟨Ao18, co18, eo18⟩ := Kd.R_slice HO120.out; subst eo18; have hcz19_0 : w17.cell? ⟨gb116, 0, none⟩ = some (.bool false) := (blk_cell BK116.out 0).trans rfl; have hcz19_1 : w17.cell? ⟨gb116, 1, none⟩ = some (.slice none 0 0) := (blk_cell BK116.out 1).trans rfl; have hcz19_2 : w17.cell? ⟨gb116, 2, none⟩ = some (.int .i64 0) := (blk_cell BK116.out 2).trans rfl; have hfz19_0 := blk_frozen BK116.out 0; have hfz19_1 := blk_frozen BK116.out 1; have hfz19_2 := blk_frozen BK116.out 2))
        refine bodyPost_ret (results_ct rfl _ _ gb116 25 #[.bool false, .slice none 0 0, .int .i64 0] (0, 0) _ rfl (by (with_reducible repeat (first | refine blk_drewN ?_ _ | refine blk_drew ?_ | refine blk_alloc ?_ _)); refine blk_put (cs := #[.bool false, .slice none 0 0, .int .i64 0]) ?_ 2 _ rfl; (with_reducible repeat (first | refine blk_drewN ?_ _ | refine blk_drew ?_ | refine blk_alloc ?_ _)); refine blk_put (cs := #[.bool false, .slice none 0 0, .int .i64 0]) ?_ 1 _ rfl; (with_reducible repeat (first | refine blk_drewN ?_ _ | refine blk_drew ?_ | refine blk_alloc ?_ _)); refine blk_put (cs := #[.bool false, .slice none 0 0, .int .i64 0]) ?_ 0 _ rfl; (with_reducible repeat (first | refine blk_drewN ?_ _ | refine blk_drew ?_ | refine blk_alloc ?_ _)); exact BK116.out) Tryd.underlying25 rfl (by kernel_rfl)) rfl ?_
        exact ⟨_, by first | rfl | (simp [errW_none, errW_some] <;> rfl) | (simp [*, errW_none, errW_some] <;> rfl), by first | exact Kd.R_nil _ _ _ _ _ | exact Kd.N_nil _ _ _ _ _ | exact Kd.V_nil _ _ _ _ _ | exact Kd.Q_nil _ _ _ _ _ | exact Kd.S_nil _ _ _ _ _, by repeat (first | (with_reducible first | exact HB.out | apply below_alloc | apply pw_below_drewN | apply below_drew1 | refine below_set ?_ GE116.out) | exact HB.out)⟩
      · rw [if_neg c15] at H
        have c15b0 : decide ((wrap64 (1200 - t118)) < a2) = false := decide_eq_false c15
        clear c15
        by_cases c20 : a2 < (wrap64 ((-1200) - t118))
        · rw [if_pos c20] at H
          have c20b0 : decide (a2 < (wrap64 ((-1200) - t118))) = true := decide_eq_true c20
          clear c20
          simp only [Option.some.injEq, Prod.mk.injEq] at H
          obtain ⟨rfl, rfl, rfl, rfl⟩ := H
          go_enter Tryd.func18, Tryd.ntmps18
          go_wp2_with (first | ((with_reducible refine gate_dst (N := 6) rfl ?_); refine box_event ?hg (N := 6) ?hd (cs := #[.bool false, .slice none 0 0, .int .i64 0]) (t := 25) ?hr ?_; (case hd => rfl); (case hg => rfl); (case hr => first | (go_simp; done) | (go_simp; rfl) | (go_simp; simp only [x_u32u8, x_u8, x_u32, x_u64, x_mm]; first | done | rfl)); intro gb116 hg w21 hbox hb; have n0_ := Aside0.mk (below_step (by repeat (first | (with_reducible first | exact HB.out | apply below_alloc | apply pw_below_drewN | apply below_drew1) | exact HB.out)) hb); have n1_ := Aside0.mk (hbox); have n2_ := Aside0.mk ((by rw [hg]; exact (below_size (by repeat (first | (with_reducible first | exact HB.out | apply below_alloc | apply pw_below_drewN | apply below_drew1) | exact HB.out))) : w.heap.size ≤ gb116)); have n3_ := Aside0.mk ((by rw [hg]; exact (below_size (by repeat (first | (with_reducible first | exact HB.out | apply below_alloc | apply pw_below_drewN | apply below_drew1) | exact HB.out))) : w.heap.size ≤ gb116)); clear HB; have HB := n0_; have BK116 := n1_; have GW116 := n2_; have GE116 := n3_; clear n0_ n1_ n2_ n3_; clear hb hbox hg) | ((with_reducible refine gate_callee (f := 38) rfl ?_); refine goesL_ (some 11) rfl rfl Tryd.func38 (by kernel_rfl) rfl #[.slice A1 l1.length c1] rfl (by (try simp only [List.map_toArray, List.map_cons, List.map_nil]); first | done | rfl | (simp only [List.length_drop, List.length_take]; rfl)) ?_; (with_reducible refine (nat_Trim.calls k _ _ l1 t117 t118 _ ?side1 ?side2 A4.out).mono ?_); (case side1 => repeat (first | exact (Kd.C_below HR1.out HB.out) | (with_reducible refine Kd.C_alloc ?_ _) | (with_reducible refine Kd.C_drewN ?_ _) | (with_reducible refine Kd.C_drew ?_))); (case side2 => exact HC1.out); rintro e w22 ⟨v119, rfl, ho0, hb⟩; refine ⟨_, rfl, ?_⟩; have n0_ := Aside0.mk (Kd.R_lower ho0 (below_size (by repeat (first | (with_reducible first | exact HB.out | apply below_alloc | apply pw_below_drewN | apply below_drew1 | refine below_set ?_ GE116.out) | exact HB.out)))); have n1_ := Aside0.mk (blk_below (g := gb116) (o := .cells #[.bool false, .slice none 0 0, .int .i64 0] 25 (0, 0)) (by (with_reducible repeat (first | refine blk_drewN ?_ _ | refine blk_drew ?_ | refine blk_alloc ?_ _)); exact BK116.out) hb); have n2_ := Aside0.mk (below_step (by repeat (first | (with_reducible first | exact HB.out | apply below_alloc | apply pw_below_drewN | apply below_drew1 | refine below_set ?_ GE116.out) | exact HB.out)) hb); clear BK116; clear HB; have HO120 := n0_; have BK116 := n1_; have HB := n2_; clear n0_ n1_ n2_; (try clear hb); (try clear hb2); (try clear hk); (try clear hi); (try clear ho0); obtain ⟨Ao23, co23, eo23⟩ := Kd.R_slice HO120.out; subst eo23; have hcz24_0 : w22.cell? ⟨gb116, 0, none⟩ = some (.bool false) := (blk_cell BK116.out 0).trans rfl; have hcz24_1 : w22.cell? ⟨gb116, 1, none⟩ = some (.slice none 0 0) := (blk_cell BK116.out 1).trans rfl; have hcz24_2 : w22.cell? ⟨gb116, 2, none⟩ = some (.int .i64 0) := (blk_cell BK116.out 2).trans rfl; have hfz24_0 := blk_frozen BK116.out 0; have hfz24_1 := blk_frozen BK116.out 1; have hfz24_2 := blk_frozen BK116.out 2))
          refine bodyPost_ret (results_ct rfl _ _ gb116 25 #[.bool false, .slice none 0 0, .int .i64 0] (0, 0) _ rfl (by (with_reducible repeat (first | refine blk_drewN ?_ _ | refine blk_drew ?_ | refine blk_alloc ?_ _)); refine blk_put (cs := #[.bool false, .slice none 0 0, .int .i64 0]) ?_ 2 _ rfl; (with_reducible repeat (first | refine blk_drewN ?_ _ | refine blk_drew ?_ | refine blk_alloc ?_ _)); refine blk_put (cs := #[.bool false, .slice none 0 0, .int .i64 0]) ?_ 1 _ rfl; (with_reducible repeat (first | refine blk_drewN ?_ _ | refine blk_drew ?_ | refine blk_alloc ?_ _)); refine blk_put (cs := #[.bool false, .slice none 0 0, .int .i64 0]) ?_ 0 _ rfl; (with_reducible repeat (first | refine blk_drewN ?_ _ | refine blk_drew ?_ | refine blk_alloc ?_ _)); exact BK116.out) Tryd.underlying25 rfl (by kernel_rfl)) rfl ?_
          exact ⟨_, by first | rfl | (simp [errW_none, errW_some] <;> rfl) | (simp [*, errW_none, errW_some] <;> rfl), by first | exact Kd.R_nil _ _ _ _ _ | exact Kd.N_nil _ _ _ _ _ | exact Kd.V_nil _ _ _ _ _ | exact Kd.Q_nil _ _ _ _ _ | exact Kd.S_nil _ _ _ _ _, by repeat (first | (with_reducible first | exact HB.out | apply below_alloc | apply pw_below_drewN | apply below_drew1 | refine below_set ?_ GE116.out) | exact HB.out)⟩
        · rw [if_neg c20] at H
          have c20b0 : decide (a2 < (wrap64 ((-1200) - t118))) = false := decide_eq_false c20
          clear c20
          simp only [Option.some.injEq, Prod.mk.injEq] at H
          obtain ⟨rfl, rfl, rfl, rfl⟩ := H
          go_enter Tryd.func18, Tryd.ntmps18
          go_wp2_with (first | ((with_reducible refine gate_dst (N := 6) rfl ?_); refine box_event ?hg (N := 6) ?hd (cs := #[.bool false, .slice none 0 0, .int .i64 0]) (t := 25) ?hr ?_; (case hd => rfl); (case hg => rfl); (case hr => first | (go_simp; done) | (go_simp; rfl) | (go_simp; simp only [x_u32u8, x_u8, x_u32, x_u64, x_mm]; first | done | rfl)); intro gb116 hg w25 hbox hb; have n0_ := Aside0.mk (below_step (by repeat (first | (with_reducible first | exact HB.out | apply below_alloc | apply pw_below_drewN | apply below_drew1) | exact HB.out)) hb); have n1_ := Aside0.mk (hbox); have n2_ := Aside0.mk ((by rw [hg]; exact (below_size (by repeat (first | (with_reducible first | exact HB.out | apply below_alloc | apply pw_below_drewN | apply below_drew1) | exact HB.out))) : w.heap.size ≤ gb116)); have n3_ := Aside0.mk ((by rw [hg]; exact (below_size (by repeat (first | (with_reducible first | exact HB.out | apply below_alloc | apply pw_below_drewN | apply below_drew1) | exact HB.out))) : w.heap.size ≤ gb116)); clear HB; have HB := n0_; have BK116 := n1_; have GW116 := n2_; have GE116 := n3_; clear n0_ n1_ n2_ n3_; clear hb hbox hg) | ((with_reducible refine gate_callee (f := 38) rfl ?_); refine goesL_ (some 11) rfl rfl Tryd.func38 (by kernel_rfl) rfl #[.slice A1 l1.length c1] rfl (by (try simp only [List.map_toArray, List.map_cons, List.map_nil]); first | done | rfl | (simp only [List.length_drop, List.length_take]; rfl)) ?_; (with_reducible refine (nat_Trim.calls k _ _ l1 t117 t118 _ ?side1 ?side2 A4.out).mono ?_); (case side1 => repeat (first | exact (Kd.C_below HR1.out HB.out) | (with_reducible refine Kd.C_alloc ?_ _) | (with_reducible refine Kd.C_drewN ?_ _) | (with_reducible refine Kd.C_drew ?_))); (case side2 => exact HC1.out); rintro e w26 ⟨v119, rfl, ho0, hb⟩; refine ⟨_, rfl, ?_⟩; have n0_ := Aside0.mk (Kd.R_lower ho0 (below_size (by repeat (first | (with_reducible first | exact HB.out | apply below_alloc | apply pw_below_drewN | apply below_drew1 | refine below_set ?_ GE116.out) | exact HB.out)))); have n1_ := Aside0.mk (blk_below (g := gb116) (o := .cells #[.bool false, .slice none 0 0, .int .i64 0] 25 (0, 0)) (by (with_reducible repeat (first | refine blk_drewN ?_ _ | refine blk_drew ?_ | refine blk_alloc ?_ _)); exact BK116.out) hb); have n2_ := Aside0.mk (below_step (by repeat (first | (with_reducible first | exact HB.out | apply below_alloc | apply pw_below_drewN | apply below_drew1 | refine below_set ?_ GE116.out) | exact HB.out)) hb); clear BK116; clear HB; have HO120 := n0_; have BK116 := n1_; have HB := n2_; clear n0_ n1_ n2_; (try clear hb); (try clear hb2); (try clear hk); (try clear hi); (try clear ho0); obtain ⟨Ao27, co27, eo27⟩ := Kd.R_slice HO120.out; subst eo27; have hcz28_0 : w26.cell? ⟨gb116, 0, none⟩ = some (.bool false) := (blk_cell BK116.out 0).trans rfl; have hcz28_1 : w26.cell? ⟨gb116, 1, none⟩ = some (.slice none 0 0) := (blk_cell BK116.out 1).trans rfl; have hcz28_2 : w26.cell? ⟨gb116, 2, none⟩ = some (.int .i64 0) := (blk_cell BK116.out 2).trans rfl; have hfz28_0 := blk_frozen BK116.out 0; have hfz28_1 := blk_frozen BK116.out 1; have hfz28_2 := blk_frozen BK116.out 2))
          refine bodyPost_ret (results_ct rfl _ _ gb116 25 #[.bool a0, .slice Ao27 t117.length co27, .int .i64 (wrap64 (a2 + t118))] (0, 0) _ rfl (by (with_reducible repeat (first | refine blk_drewN ?_ _ | refine blk_drew ?_ | refine blk_alloc ?_ _)); refine blk_put (cs := #[.bool a0, .slice Ao27 t117.length co27, .int .i64 0]) ?_ 2 _ rfl; (with_reducible repeat (first | refine blk_drewN ?_ _ | refine blk_drew ?_ | refine blk_alloc ?_ _)); refine blk_put (cs := #[.bool a0, .slice none 0 0, .int .i64 0]) ?_ 1 _ rfl; (with_reducible repeat (first | refine blk_drewN ?_ _ | refine blk_drew ?_ | refine blk_alloc ?_ _)); refine blk_put (cs := #[.bool false, .slice none 0 0, .int .i64 0]) ?_ 0 _ rfl; (with_reducible repeat (first | refine blk_drewN ?_ _ | refine blk_drew ?_ | refine blk_alloc ?_ _)); exact BK116.out) Tryd.underlying25 rfl (by kernel_rfl)) rfl ?_
          exact ⟨_, by first | rfl | (simp [errW_none, errW_some] <;> rfl) | (simp [*, errW_none, errW_some] <;> rfl), by (with_reducible repeat (first | apply Kd.R_alloc | apply Kd.R_drewN | apply Kd.R_drew)); exact Kd.R_mono (Kd.R_far (p := ⟨gb116, 2, none⟩) (Kd.R_far (p := ⟨gb116, 1, none⟩) (Kd.R_far (p := ⟨gb116, 0, none⟩) (Kd.R_types HO120.out BK116.out (by decide)) (fun _ hk => hk.2) (.bool a0)) (fun _ hk => hk.2) (.slice Ao27 t117.length co27)) (fun _ hk => hk.2) (.int .i64 (wrap64 (a2 + t118)))) (fun _ hk => trivial), by repeat (first | (with_reducible first | exact HB.out | apply below_alloc | apply pw_below_drewN | apply below_drew1 | refine below_set ?_ GE116.out) | exact HB.out)⟩

end Go.Proofs.YtmkdcokdilllcaaDoor.X
/- A number is made: the code and the document do it alike. -/
namespace Go.Proofs.YtmkdcokdilllcaaDoor.X
open Go.RowKit Go.Proofs.YtmkdcokdilllcaaDoorW.PrintWords Go.Proofs.YtmkdcokdilllcaaDoorW.PrintMore
set_option linter.unusedVariables false
set_option linter.unusedSimpArgs false
/-- A number: sign, the natural n, the power e of ten. -/
def makeS (neg : Bool) (n : Nat) (e : Int) : Bool × List Int × Int × Bool :=
  if (tz n).1 = 0 then (false, [], 0, true)
  else if (lim (tz n).1).length > 90 then (false, [], 0, false)
  else if e + ((tz n).2 : Int) > 1200 then (false, [], 0, false)
  else if e + ((tz n).2 : Int) < -1200 then (false, [], 0, false)
  else (neg, lim (tz n).1, e + ((tz n).2 : Int), true)
theorem num_make {a : List Int} (ha : Ok a) (la : a.length ≤ 33554432) (neg : Bool) (e : Int) (e0 : -4611686018427387904 ≤ e) (e1 : e ≤ 4611686018427387904) :
    Ev (fun k => num_Make.f k neg a e) (makeS neg (val a) e) := by
  have hz := tz_limbs (val_lt ha)
  refine Ev.congr (fun k => rfl) (Ev.bind (nat_trim ha (by omega)) ?_)
  unfold makeS
  generalize (tz (val a)).1 = m at *
  generalize (tz (val a)).2 = z at *
  have hz0 : (0 : Int) ≤ (z : Int) := Int.natCast_nonneg _
  have hz1 : (z : Int) ≤ 1073741824 := by omega
  generalize (z : Int) = x at *
  have w1 : wrap64 (1200 - x) = 1200 - x := wrap64_ok (by omega) (by omega)
  have w2 : wrap64 (-1200 - x) = -1200 - x := wrap64_ok (by omega) (by omega)
  have w3 : wrap64 (e + x) = e + x := wrap64_ok (by omega) (by omega)
  simp only [w1, w2, w3]
  by_cases h0 : m = 0
  · subst h0
    have c0 : ((lim 0).length : Int) = 0 := by rw [lim_zero]; rfl
    rw [if_pos rfl]
    exact Ev.congr (fun k => by rw [if_pos c0]) (Ev.now _)
  · have c0 : ¬ ((lim m).length : Int) = 0 := fun h => h0 ((lim_len_zero m).1 (by omega))
    rw [if_neg h0]
    refine Ev.congr (fun k => by rw [if_neg c0]) ?_
    by_cases h1 : (lim m).length > 90
    · rw [if_pos h1]
      exact Ev.congr (fun k => by rw [if_pos (by omega)]) (Ev.now _)
    · rw [if_neg h1]
      refine Ev.congr (fun k => by rw [if_neg (by omega)]) ?_
      by_cases h2 : e + x > 1200
      · rw [if_pos h2]
        exact Ev.congr (fun k => by rw [if_pos (by omega)]) (Ev.now _)
      · rw [if_neg h2]
        refine Ev.congr (fun k => by rw [if_neg (by omega)]) ?_
        by_cases h3 : e + x < -1200
        · rw [if_pos h3]
          exact Ev.congr (fun k => by rw [if_pos (by omega)]) (Ev.now _)
        · rw [if_neg h3]
          exact Ev.congr (fun k => by rw [if_neg (by omega)]) (Ev.now _)
end Go.Proofs.YtmkdcokdilllcaaDoor.X
/-
  DERIVED: THE SHELF's CONTRACTS AT THIS DUMP, IN PLAIN WORDS (tools/lay-plain.mjs out of 'TrydShelf.lean', which tools/lay-shelf.mjs wrote): THE SAME DECLARATIONS UNDER THE SAME NAMES: 'import', 'namespace', 'open', 'def', 'theorem' AND NOTHING ELSE: no command of the shelf's: FOR A HAND-IN. Each laying: the table of numbers ('.._ren') and one theorem, a field a fact of the dump's own or the kernel's comparison; each contract: ONE APPLICATION.
-/
namespace Go.Proofs
open Go.Shelf
def Tryd.lays169_ren : Go.Shelf.Ren := ⟨fun | 169 => 57 | n => n, fun | 70 => 78 | 9 => 9 | 0 => 0 | 72 => 80 | 37 => 77 | 127 => 102 | 3 => 3 | 5 => 5 | n => n, fun | n => n⟩
theorem Tryd.lays169 : Go.Proofs.Lays.n169 Tryd.prog Tryd.lays169_ren := {
  mixed := by kernel_rfl
  f169 := Tryd.func57.trans (congrArg some (by kernel_rfl))
  t0 := Tryd.underlying0
  a0 := Tryd.isAgg0
  z0 := Tryd.sizeOf0
  v0 := Tryd.zeroValue0
  t3 := Tryd.underlying3
  a3 := Tryd.isAgg3
  z3 := Tryd.sizeOf3
  v3 := Tryd.zeroValue3
  t9 := Tryd.underlying9
  a9 := Tryd.isAgg9
  z9 := Tryd.sizeOf9
  v9 := Tryd.zeroValue9
  t37 := Tryd.underlying77
  a37 := Tryd.isAgg77
  z37 := Tryd.sizeOf77
  v37 := Tryd.zeroValue77
  t70 := Tryd.underlying78
  a70 := Tryd.isAgg78
  z70 := Tryd.sizeOf78
  v70 := Tryd.zeroValue78
  t72 := Tryd.underlying80
  a72 := Tryd.isAgg80
  z72 := Tryd.sizeOf80
  v72 := Tryd.zeroValue80
  t127 := Tryd.underlying102
  a127 := Tryd.isAgg102
  z127 := Tryd.sizeOf102
  v127 := Tryd.zeroValue102 }
theorem Tryd.Builder_Extra_169 : Builder.Extra Tryd.prog Tryd.lays169_ren := {
  sizeBuilder := by kernel_rfl
  liesBuilder := by kernel_rfl
  t5 := Tryd.underlying5
  a5 := Tryd.isAgg5
  z5 := Tryd.sizeOf5
  v5 := Tryd.zeroValue5
  infoByte := by kernel_rfl
  cellsByte := by kernel_rfl
  sizeByte := by kernel_rfl
  neB5 := by decide }
open Go.RowKit in
/-- (*strings.Builder).String: "String returns the accumulated string.": WHATEVER THE BUILDER HOLDS. (LAID: no walk: one application.) -/
theorem Tryd.Builder_String_any (B b : Nat) (l : List UInt8) (w : World) (h : Lib.IsBuilder 80 5 B b (Lib.byteCells l) w) (hBw : B ≤ w.heap.size) :
    Calls Tryd.prog 57 #[.pointer (some ⟨b, 0, none⟩)] w fun e w' => e = .returned (.string ⟨l.toArray⟩) ∧ Below B w w' := Any.Builder_String_any Tryd.lays169 Tryd.Builder_Extra_169 B b l w h hBw
def Tryd.lays161_ren : Go.Shelf.Ren := ⟨fun | 161 => 56 | 231 => 71 | 227 => 72 | 233 => 73 | 235 => 74 | 228 => 86 | 197 => 87 | 151 => 88 | 260 => 98 | 152 => 99 | 137 => 66 | 119 => 107 | 224 => 108 | 225 => 109 | 217 => 81 | 266 => 92 | n => n, fun | 9 => 9 | 4 => 4 | 3 => 3 | 5 => 5 | 117 => 98 | 116 => 97 | 0 => 0 | 124 => 101 | 105 => 111 | 21 => 21 | 119 => 134 | 46 => 48 | 139 => 137 | 138 => 136 | n => n, fun | 3 => 3 | 4 => 4 | n => n⟩
theorem Tryd.lays161 : Go.Proofs.Lays.n161 Tryd.prog Tryd.lays161_ren := {
  mixed := by kernel_rfl
  f119 := Tryd.func107.trans (congrArg some (by kernel_rfl))
  f137 := Tryd.func66.trans (congrArg some (by kernel_rfl))
  f151 := Tryd.func88.trans (congrArg some (by kernel_rfl))
  f152 := Tryd.func99.trans (congrArg some (by kernel_rfl))
  f161 := Tryd.func56.trans (congrArg some (by kernel_rfl))
  f197 := Tryd.func87.trans (congrArg some (by kernel_rfl))
  f217 := Tryd.func81.trans (congrArg some (by kernel_rfl))
  f224 := Tryd.func108.trans (congrArg some (by kernel_rfl))
  f225 := Tryd.func109.trans (congrArg some (by kernel_rfl))
  f227 := Tryd.func72.trans (congrArg some (by kernel_rfl))
  f228 := Tryd.func86.trans (congrArg some (by kernel_rfl))
  f231 := Tryd.func71.trans (congrArg some (by kernel_rfl))
  f233 := Tryd.func73.trans (congrArg some (by kernel_rfl))
  f235 := Tryd.func74.trans (congrArg some (by kernel_rfl))
  f260 := Tryd.func98.trans (congrArg some (by kernel_rfl))
  f266 := Tryd.func92.trans (congrArg some (by kernel_rfl))
  t0 := Tryd.underlying0
  a0 := Tryd.isAgg0
  z0 := Tryd.sizeOf0
  v0 := Tryd.zeroValue0
  t3 := Tryd.underlying3
  a3 := Tryd.isAgg3
  z3 := Tryd.sizeOf3
  v3 := Tryd.zeroValue3
  t4 := Tryd.underlying4
  a4 := Tryd.isAgg4
  z4 := Tryd.sizeOf4
  v4 := Tryd.zeroValue4
  t5 := Tryd.underlying5
  a5 := Tryd.isAgg5
  z5 := Tryd.sizeOf5
  v5 := Tryd.zeroValue5
  t9 := Tryd.underlying9
  a9 := Tryd.isAgg9
  z9 := Tryd.sizeOf9
  v9 := Tryd.zeroValue9
  t21 := Tryd.underlying21
  a21 := Tryd.isAgg21
  z21 := Tryd.sizeOf21
  v21 := Tryd.zeroValue21
  t46 := Tryd.underlying48
  a46 := Tryd.isAgg48
  z46 := Tryd.sizeOf48
  v46 := Tryd.zeroValue48
  t105 := Tryd.underlying111
  a105 := Tryd.isAgg111
  z105 := Tryd.sizeOf111
  v105 := Tryd.zeroValue111
  t116 := Tryd.underlying97
  a116 := Tryd.isAgg97
  z116 := Tryd.sizeOf97
  t117 := Tryd.underlying98
  a117 := Tryd.isAgg98
  z117 := Tryd.sizeOf98
  v117 := Tryd.zeroValue98
  t119 := Tryd.underlying134
  a119 := Tryd.isAgg134
  z119 := Tryd.sizeOf134
  t124 := Tryd.underlying101
  a124 := Tryd.isAgg101
  z124 := Tryd.sizeOf101
  v124 := Tryd.zeroValue101
  t138 := Tryd.underlying136
  a138 := Tryd.isAgg136
  z138 := Tryd.sizeOf136
  v138 := Tryd.zeroValue136
  t139 := Tryd.underlying137
  a139 := Tryd.isAgg137
  z139 := Tryd.sizeOf137
  v139 := Tryd.zeroValue137
  g3 := by kernel_rfl
  g4 := by kernel_rfl }
open Go.RowKit in
/-- strings.TrimLeft: "TrimLeft returns a slice of the string s with all leading Unicode code points contained in cutset removed.": AT A cutset OF ONE ASCII BYTE. The world is as it was. (LAID: no walk: one application.) -/
theorem Tryd.strings_TrimLeft_one (s : ByteArray) (c : UInt8) (hc : c.toNat < 128) (w : World) :
    Calls Tryd.prog 56 #[.string s, .string ⟨#[c]⟩] w fun e w' => e = .returned (.string ⟨(Lib.trimLeftB s.data.toList c).toArray⟩) ∧ w' = w := Any.strings_TrimLeft_one Tryd.lays161 s c hc w
def Tryd.lays137_ren : Go.Shelf.Ren := ⟨fun | 137 => 66 | 217 => 81 | 266 => 92 | n => n, fun | 9 => 9 | 5 => 5 | 3 => 3 | n => n, fun | n => n⟩
theorem Tryd.lays137 : Go.Proofs.Lays.n137 Tryd.prog Tryd.lays137_ren := {
  mixed := by kernel_rfl
  f137 := Tryd.func66.trans (congrArg some (by kernel_rfl))
  f217 := Tryd.func81.trans (congrArg some (by kernel_rfl))
  f266 := Tryd.func92.trans (congrArg some (by kernel_rfl))
  t3 := Tryd.underlying3
  a3 := Tryd.isAgg3
  z3 := Tryd.sizeOf3
  v3 := Tryd.zeroValue3
  t5 := Tryd.underlying5
  a5 := Tryd.isAgg5
  z5 := Tryd.sizeOf5
  v5 := Tryd.zeroValue5
  t9 := Tryd.underlying9
  a9 := Tryd.isAgg9
  z9 := Tryd.sizeOf9
  v9 := Tryd.zeroValue9 }
open Go.RowKit in
/-- strings.IndexByte: "IndexByte returns the index of the first instance of c in s, or -1 if c is not present in s.": IT RETURNS 'Lib.indexByte s c'; the world is as it was. (LAID: no walk: one application.) -/
theorem Tryd.strings_IndexByte (s : ByteArray) (c : Int) (w : World) :
    Calls Tryd.prog 66 #[.string s, .int .u8 c] w fun e w' => e = .returned (.int .i64 (Lib.indexByte s.data.toList c.toNat.toUInt8)) ∧ w' = w := Any.strings_IndexByte Tryd.lays137 s c w
def Tryd.lays172_ren : Go.Shelf.Ren := ⟨fun | 172 => 67 | 244 => 82 | 245 => 83 | 247 => 93 | 279 => 94 | 280 => 95 | 281 => 96 | 282 => 97 | 287 => 104 | 316 => 105 | 171 => 62 | 205 => 106 | 321 => 115 | 322 => 116 | 243 => 79 | 246 => 90 | 283 => 100 | 284 => 101 | 285 => 102 | 286 => 103 | 129 => 111 | 317 => 110 | 318 => 112 | 319 => 113 | 320 => 114 | 337 => 117 | 338 => 118 | n => n, fun | 9 => 9 | 3 => 3 | 75 => 82 | 76 => 83 | 4 => 4 | 5 => 5 | 167 => 116 | 37 => 77 | 0 => 0 | 85 => 117 | 2 => 2 | 168 => 119 | 53 => 47 | 175 => 128 | 46 => 48 | 210 => 132 | 127 => 102 | 145 => 147 | 143 => 145 | 21 => 21 | 171 => 123 | 173 => 126 | 212 => 141 | 51 => 40 | 20 => 20 | 213 => 142 | 232 => 148 | 233 => 149 | 80 => 73 | n => n, fun | 15 => 1 | 16 => 2 | 17 => 5 | 18 => 6 | 19 => 7 | n => n⟩
theorem Tryd.lays172 : Go.Proofs.Lays.n172 Tryd.prog Tryd.lays172_ren := {
  mixed := by kernel_rfl
  f129 := Tryd.func111.trans (congrArg some (by kernel_rfl))
  f171 := Tryd.func62.trans (congrArg some (by kernel_rfl))
  f172 := Tryd.func67.trans (congrArg some (by kernel_rfl))
  f205 := Tryd.func106.trans (congrArg some (by kernel_rfl))
  f243 := Tryd.func79.trans (congrArg some (by kernel_rfl))
  f244 := Tryd.func82.trans (congrArg some (by kernel_rfl))
  f245 := Tryd.func83.trans (congrArg some (by kernel_rfl))
  f246 := Tryd.func90.trans (congrArg some (by kernel_rfl))
  f247 := Tryd.func93.trans (congrArg some (by kernel_rfl))
  f279 := Tryd.func94.trans (congrArg some (by kernel_rfl))
  f280 := Tryd.func95.trans (congrArg some (by kernel_rfl))
  f281 := Tryd.func96.trans (congrArg some (by kernel_rfl))
  f282 := Tryd.func97.trans (congrArg some (by kernel_rfl))
  f283 := Tryd.func100.trans (congrArg some (by kernel_rfl))
  f284 := Tryd.func101.trans (congrArg some (by kernel_rfl))
  f285 := Tryd.func102.trans (congrArg some (by kernel_rfl))
  f286 := Tryd.func103.trans (congrArg some (by kernel_rfl))
  f287 := Tryd.func104.trans (congrArg some (by kernel_rfl))
  f316 := Tryd.func105.trans (congrArg some (by kernel_rfl))
  f317 := Tryd.func110.trans (congrArg some (by kernel_rfl))
  f318 := Tryd.func112.trans (congrArg some (by kernel_rfl))
  f319 := Tryd.func113.trans (congrArg some (by kernel_rfl))
  f320 := Tryd.func114.trans (congrArg some (by kernel_rfl))
  f321 := Tryd.func115.trans (congrArg some (by kernel_rfl))
  f322 := Tryd.func116.trans (congrArg some (by kernel_rfl))
  f337 := Tryd.func117.trans (congrArg some (by kernel_rfl))
  f338 := Tryd.func118.trans (congrArg some (by kernel_rfl))
  t0 := Tryd.underlying0
  a0 := Tryd.isAgg0
  z0 := Tryd.sizeOf0
  v0 := Tryd.zeroValue0
  t2 := Tryd.underlying2
  a2 := Tryd.isAgg2
  z2 := Tryd.sizeOf2
  v2 := Tryd.zeroValue2
  t3 := Tryd.underlying3
  a3 := Tryd.isAgg3
  z3 := Tryd.sizeOf3
  v3 := Tryd.zeroValue3
  t4 := Tryd.underlying4
  a4 := Tryd.isAgg4
  z4 := Tryd.sizeOf4
  v4 := Tryd.zeroValue4
  t5 := Tryd.underlying5
  a5 := Tryd.isAgg5
  z5 := Tryd.sizeOf5
  v5 := Tryd.zeroValue5
  t9 := Tryd.underlying9
  a9 := Tryd.isAgg9
  z9 := Tryd.sizeOf9
  v9 := Tryd.zeroValue9
  t20 := Tryd.underlying20
  a20 := Tryd.isAgg20
  z20 := Tryd.sizeOf20
  v20 := Tryd.zeroValue20
  t21 := Tryd.underlying21
  a21 := Tryd.isAgg21
  z21 := Tryd.sizeOf21
  v21 := Tryd.zeroValue21
  t37 := Tryd.underlying77
  a37 := Tryd.isAgg77
  z37 := Tryd.sizeOf77
  v37 := Tryd.zeroValue77
  t46 := Tryd.underlying48
  a46 := Tryd.isAgg48
  z46 := Tryd.sizeOf48
  v46 := Tryd.zeroValue48
  t51 := Tryd.underlying40
  a51 := Tryd.isAgg40
  z51 := Tryd.sizeOf40
  v51 := Tryd.zeroValue40
  t53 := Tryd.underlying47
  a53 := Tryd.isAgg47
  z53 := Tryd.sizeOf47
  v53 := Tryd.zeroValue47
  t75 := Tryd.underlying82
  a75 := Tryd.isAgg82
  z75 := Tryd.sizeOf82
  v75 := Tryd.zeroValue82
  t76 := Tryd.underlying83
  a76 := Tryd.isAgg83
  z76 := Tryd.sizeOf83
  v76 := Tryd.zeroValue83
  t85 := Tryd.underlying117
  a85 := Tryd.isAgg117
  z85 := Tryd.sizeOf117
  v85 := Tryd.zeroValue117
  t127 := Tryd.underlying102
  a127 := Tryd.isAgg102
  z127 := Tryd.sizeOf102
  v127 := Tryd.zeroValue102
  t143 := Tryd.underlying145
  a143 := Tryd.isAgg145
  z143 := Tryd.sizeOf145
  v143 := Tryd.zeroValue145
  t145 := Tryd.underlying147
  a145 := Tryd.isAgg147
  z145 := Tryd.sizeOf147
  v145 := Tryd.zeroValue147
  t167 := Tryd.underlying116
  a167 := Tryd.isAgg116
  z167 := Tryd.sizeOf116
  v167 := Tryd.zeroValue116
  t168 := Tryd.underlying119
  a168 := Tryd.isAgg119
  z168 := Tryd.sizeOf119
  v168 := Tryd.zeroValue119
  t171 := Tryd.underlying123
  a171 := Tryd.isAgg123
  z171 := Tryd.sizeOf123
  v171 := Tryd.zeroValue123
  t173 := Tryd.underlying126
  a173 := Tryd.isAgg126
  z173 := Tryd.sizeOf126
  v173 := Tryd.zeroValue126
  t175 := Tryd.underlying128
  a175 := Tryd.isAgg128
  z175 := Tryd.sizeOf128
  v175 := Tryd.zeroValue128
  t210 := Tryd.underlying132
  a210 := Tryd.isAgg132
  z210 := Tryd.sizeOf132
  v210 := Tryd.zeroValue132
  t212 := Tryd.underlying141
  a212 := Tryd.isAgg141
  z212 := Tryd.sizeOf141
  v212 := Tryd.zeroValue141
  t213 := Tryd.underlying142
  a213 := Tryd.isAgg142
  z213 := Tryd.sizeOf142
  t232 := Tryd.underlying148
  a232 := Tryd.isAgg148
  z232 := Tryd.sizeOf148
  v232 := Tryd.zeroValue148
  t233 := Tryd.underlying149
  a233 := Tryd.isAgg149
  z233 := Tryd.sizeOf149
  v233 := Tryd.zeroValue149
  g15 := by kernel_rfl
  g16 := by kernel_rfl
  g17 := by kernel_rfl
  g18 := by kernel_rfl
  g19 := by kernel_rfl }
open Go.RowKit in
/-- strconv.Atoi: "Atoi is equivalent to ParseInt(s, 10, 0), converted to type int.": AT A DECIMAL NUMERAL OF AT MOST 18 BYTES: its value, and a nil error. The world behind the call: the one new row that the library's '[]byte(s)' lays. (LAID: no walk: one application.) -/
theorem Tryd.strconv_Atoi (s : ByteArray) (n : Int) (hl : s.size ≤ 18) (h : Lib.atoi s.data.toList = some n) (w : World) :
    Calls Tryd.prog 67 #[.string s] w fun e w' => e = .returned (.tuple #[.int .i64 n, .nilIface]) ∧ ∃ t, w' = Lib.bytesWorld w 5 t := Any.strconv_Atoi Tryd.lays172 s n hl h w
def Tryd.laysM171_ren : Go.Shelf.Ren := ⟨fun | 171 => 62 | 243 => 79 | 246 => 90 | 283 => 100 | 284 => 101 | 285 => 102 | 286 => 103 | 129 => 111 | 317 => 110 | 318 => 112 | 319 => 113 | 320 => 114 | 337 => 117 | 338 => 118 | n => n, fun | 3 => 3 | 9 => 9 | 2 => 2 | 4 => 4 | 171 => 123 | 0 => 0 | 53 => 47 | 37 => 77 | 5 => 5 | 173 => 126 | 212 => 141 | 51 => 40 | 20 => 20 | 213 => 142 | 46 => 48 | 232 => 148 | 233 => 149 | n => n, fun | 17 => 5 | 18 => 6 | 19 => 7 | n => n⟩
theorem Tryd.laysM171 : Go.Proofs.LaysM.n171 Tryd.prog Tryd.laysM171_ren := {
  mixed := by kernel_rfl
  f129 := Tryd.func111.trans (congrArg some (by kernel_rfl))
  f171 := Tryd.func62.trans (congrArg some (by kernel_rfl))
  f243 := Tryd.func79.trans (congrArg some (by kernel_rfl))
  f246 := Tryd.func90.trans (congrArg some (by kernel_rfl))
  f283 := Tryd.func100.trans (congrArg some (by kernel_rfl))
  f284 := Tryd.func101.trans (congrArg some (by kernel_rfl))
  f285 := Tryd.func102.trans (congrArg some (by kernel_rfl))
  f286 := Tryd.func103.trans (congrArg some (by kernel_rfl))
  f317 := Tryd.func110.trans (congrArg some (by kernel_rfl))
  f318 := Tryd.func112.trans (congrArg some (by kernel_rfl))
  f319 := Tryd.func113.trans (congrArg some (by kernel_rfl))
  f320 := Tryd.func114.trans (congrArg some (by kernel_rfl))
  f337 := Tryd.func117.trans (congrArg some (by kernel_rfl))
  f338 := Tryd.func118.trans (congrArg some (by kernel_rfl))
  t0 := Tryd.underlying0
  a0 := Tryd.isAgg0
  z0 := Tryd.sizeOf0
  v0 := Tryd.zeroValue0
  t2 := Tryd.underlying2
  a2 := Tryd.isAgg2
  z2 := Tryd.sizeOf2
  v2 := Tryd.zeroValue2
  t3 := Tryd.underlying3
  a3 := Tryd.isAgg3
  z3 := Tryd.sizeOf3
  v3 := Tryd.zeroValue3
  t4 := Tryd.underlying4
  a4 := Tryd.isAgg4
  z4 := Tryd.sizeOf4
  v4 := Tryd.zeroValue4
  t5 := Tryd.underlying5
  a5 := Tryd.isAgg5
  z5 := Tryd.sizeOf5
  v5 := Tryd.zeroValue5
  t9 := Tryd.underlying9
  a9 := Tryd.isAgg9
  z9 := Tryd.sizeOf9
  v9 := Tryd.zeroValue9
  t20 := Tryd.underlying20
  a20 := Tryd.isAgg20
  z20 := Tryd.sizeOf20
  v20 := Tryd.zeroValue20
  t37 := Tryd.underlying77
  a37 := Tryd.isAgg77
  z37 := Tryd.sizeOf77
  v37 := Tryd.zeroValue77
  t46 := Tryd.underlying48
  a46 := Tryd.isAgg48
  z46 := Tryd.sizeOf48
  v46 := Tryd.zeroValue48
  t51 := Tryd.underlying40
  a51 := Tryd.isAgg40
  z51 := Tryd.sizeOf40
  v51 := Tryd.zeroValue40
  t53 := Tryd.underlying47
  a53 := Tryd.isAgg47
  z53 := Tryd.sizeOf47
  v53 := Tryd.zeroValue47
  t171 := Tryd.underlying123
  a171 := Tryd.isAgg123
  z171 := Tryd.sizeOf123
  v171 := Tryd.zeroValue123
  t173 := Tryd.underlying126
  a173 := Tryd.isAgg126
  z173 := Tryd.sizeOf126
  v173 := Tryd.zeroValue126
  t212 := Tryd.underlying141
  a212 := Tryd.isAgg141
  z212 := Tryd.sizeOf141
  v212 := Tryd.zeroValue141
  t213 := Tryd.underlying142
  a213 := Tryd.isAgg142
  z213 := Tryd.sizeOf142
  t232 := Tryd.underlying148
  a232 := Tryd.isAgg148
  z232 := Tryd.sizeOf148
  v232 := Tryd.zeroValue148
  t233 := Tryd.underlying149
  a233 := Tryd.isAgg149
  z233 := Tryd.sizeOf149
  v233 := Tryd.zeroValue149
  g17 := by kernel_rfl
  g18 := by kernel_rfl
  g19 := by kernel_rfl
  i0 := by kernel_rfl
  i2 := by kernel_rfl
  i3 := by kernel_rfl
  i4 := by kernel_rfl
  i5 := by kernel_rfl
  i9 := by kernel_rfl
  i20 := by kernel_rfl
  i37 := by kernel_rfl
  i46 := by kernel_rfl
  i51 := by kernel_rfl
  i53 := by kernel_rfl
  i171 := by kernel_rfl
  i173 := by kernel_rfl
  i212 := by kernel_rfl
  i232 := by kernel_rfl
  i233 := by kernel_rfl
  m17 := by kernel_rfl
  m18 := by kernel_rfl
  m19 := by kernel_rfl }
open Go.RowKit Go.Sort Go.Lib in
/-- strconv.Itoa: "Itoa is equivalent to FormatInt(int64(i), 10).": i's DECIMAL NUMERAL ('Lib.itoa': a '-' where i is negative, then the digits), FOR EVERY int. The world behind the call: the world before it, new blocks behind the heap (the library's 'var a [24]byte'), draws. (LAID: no walk: one application.) -/
theorem Tryd.strconv_Itoa (n : Int) (h0 : -9223372036854775808 ≤ n) (h1 : n ≤ 9223372036854775807) (w : World) (htab : Lib.TabIs Tryd.prog w "internal/strconv.uint64pow10" .u64 Lib.pow10Tab) :
    Calls Tryd.prog 62 #[.int .i64 n] w fun e w' => e = .returned (.string ⟨(Lib.itoa n).toArray⟩) ∧ ∃ k os, w' = grow (w.drewN k) os := Any.strconv_Itoa Tryd.laysM171 n h0 h1 w htab
def Tryd.lays105_ren : Go.Shelf.Ren := ⟨fun | 105 => 35 | 212 => 58 | 99 => 59 | 165 => 60 | 166 => 55 | 170 => 61 | 169 => 57 | 263 => 75 | 264 => 76 | 206 => 77 | 240 => 70 | 241 => 78 | 276 => 85 | 277 => 89 | n => n, fun | 9 => 9 | 3 => 3 | 4 => 4 | 20 => 20 | 0 => 0 | 46 => 48 | 109 => 86 | 5 => 5 | 72 => 80 | 76 => 83 | 51 => 40 | 146 => 103 | 53 => 47 | 148 => 105 | 70 => 78 | 37 => 77 | 75 => 82 | 127 => 102 | 164 => 108 | 80 => 73 | n => n, fun | n => n⟩
theorem Tryd.lays105 : Go.Proofs.Lays.n105 Tryd.prog Tryd.lays105_ren := {
  mixed := by kernel_rfl
  f99 := Tryd.func59.trans (congrArg some (by kernel_rfl))
  f105 := Tryd.func35.trans (congrArg some (by kernel_rfl))
  f165 := Tryd.func60.trans (congrArg some (by kernel_rfl))
  f166 := Tryd.func55.trans (congrArg some (by kernel_rfl))
  f169 := Tryd.func57.trans (congrArg some (by kernel_rfl))
  f170 := Tryd.func61.trans (congrArg some (by kernel_rfl))
  f206 := Tryd.func77.trans (congrArg some (by kernel_rfl))
  f212 := Tryd.func58.trans (congrArg some (by kernel_rfl))
  f240 := Tryd.func70.trans (congrArg some (by kernel_rfl))
  f241 := Tryd.func78.trans (congrArg some (by kernel_rfl))
  f263 := Tryd.func75.trans (congrArg some (by kernel_rfl))
  f264 := Tryd.func76.trans (congrArg some (by kernel_rfl))
  f276 := Tryd.func85.trans (congrArg some (by kernel_rfl))
  f277 := Tryd.func89.trans (congrArg some (by kernel_rfl))
  t0 := Tryd.underlying0
  a0 := Tryd.isAgg0
  z0 := Tryd.sizeOf0
  v0 := Tryd.zeroValue0
  t3 := Tryd.underlying3
  a3 := Tryd.isAgg3
  z3 := Tryd.sizeOf3
  v3 := Tryd.zeroValue3
  t4 := Tryd.underlying4
  a4 := Tryd.isAgg4
  z4 := Tryd.sizeOf4
  v4 := Tryd.zeroValue4
  t5 := Tryd.underlying5
  a5 := Tryd.isAgg5
  z5 := Tryd.sizeOf5
  v5 := Tryd.zeroValue5
  t9 := Tryd.underlying9
  a9 := Tryd.isAgg9
  z9 := Tryd.sizeOf9
  v9 := Tryd.zeroValue9
  t20 := Tryd.underlying20
  a20 := Tryd.isAgg20
  z20 := Tryd.sizeOf20
  v20 := Tryd.zeroValue20
  t37 := Tryd.underlying77
  a37 := Tryd.isAgg77
  z37 := Tryd.sizeOf77
  v37 := Tryd.zeroValue77
  t46 := Tryd.underlying48
  a46 := Tryd.isAgg48
  z46 := Tryd.sizeOf48
  v46 := Tryd.zeroValue48
  t51 := Tryd.underlying40
  a51 := Tryd.isAgg40
  z51 := Tryd.sizeOf40
  v51 := Tryd.zeroValue40
  t53 := Tryd.underlying47
  a53 := Tryd.isAgg47
  z53 := Tryd.sizeOf47
  v53 := Tryd.zeroValue47
  t70 := Tryd.underlying78
  a70 := Tryd.isAgg78
  z70 := Tryd.sizeOf78
  v70 := Tryd.zeroValue78
  t72 := Tryd.underlying80
  a72 := Tryd.isAgg80
  z72 := Tryd.sizeOf80
  v72 := Tryd.zeroValue80
  t75 := Tryd.underlying82
  a75 := Tryd.isAgg82
  z75 := Tryd.sizeOf82
  v75 := Tryd.zeroValue82
  t76 := Tryd.underlying83
  a76 := Tryd.isAgg83
  z76 := Tryd.sizeOf83
  v76 := Tryd.zeroValue83
  t109 := Tryd.underlying86
  a109 := Tryd.isAgg86
  z109 := Tryd.sizeOf86
  v109 := Tryd.zeroValue86
  t127 := Tryd.underlying102
  a127 := Tryd.isAgg102
  z127 := Tryd.sizeOf102
  v127 := Tryd.zeroValue102
  t146 := Tryd.underlying103
  a146 := Tryd.isAgg103
  z146 := Tryd.sizeOf103
  v146 := Tryd.zeroValue103
  t148 := Tryd.underlying105
  a148 := Tryd.isAgg105
  z148 := Tryd.sizeOf105
  v148 := Tryd.zeroValue105
  t164 := Tryd.underlying108
  a164 := Tryd.isAgg108
  z164 := Tryd.sizeOf108
  v164 := Tryd.zeroValue108 }
theorem Tryd.Builder_Extra_105 : Builder.Extra Tryd.prog Tryd.lays105_ren := {
  sizeBuilder := by kernel_rfl
  liesBuilder := by kernel_rfl
  t5 := Tryd.underlying5
  a5 := Tryd.isAgg5
  z5 := Tryd.sizeOf5
  v5 := Tryd.zeroValue5
  infoByte := by kernel_rfl
  cellsByte := by kernel_rfl
  sizeByte := by kernel_rfl
  neB5 := by decide }
open Go.RowKit Go.Lib in
/-- **strings.Repeat: count ≥ 0, the result within one allocation: count copies of s.** (LAID: no walk: one application.) -/
theorem Tryd.strings_Repeat (s : ByteArray) (c : Nat) (w : World) (hc : c ≤ 9223372036854775807) (hlen : s.size * c ≤ 140737488355328) :
    Calls Tryd.prog 35 #[.string s, .int .i64 c] w fun e w' => e = .returned (.string ⟨(Lib.repeatL s.data.toList c).toArray⟩) ∧ Below w.heap.size w w' := Any.strings_Repeat Tryd.lays105 Tryd.Builder_Extra_105 s c w hc hlen
end Go.Proofs
/- num's reader: has, digits, exponent. -/
namespace Go.Proofs.YtmkdcokdilllcaaDoor.X
open Go.RowKit Go.Proofs.YtmkdcokdilllcaaDoorW.PrintWords Go.Proofs.YtmkdcokdilllcaaDoorW.PrintLast Go.Proofs.YtmkdcokdilllcaaDoorW.PrintMore
set_option linter.unusedVariables false
set_option linter.unusedSimpArgs false
theorem indexByte_neg (l : List UInt8) (c : UInt8) : Lib.indexByte l c < 0 ↔ c ∉ l := by
  have h0 : ∀ l : List UInt8, -1 ≤ Lib.indexByte l c := by
    intro l
    induction l with
    | nil => simp [Lib.indexByte]
    | cons b l ih =>
      unfold Lib.indexByte
      split
      · omega
      · split
        · omega
        · omega
  induction l with
  | nil => simp [Lib.indexByte]
  | cons b l ih =>
    unfold Lib.indexByte
    have := h0 l
    by_cases hb : b = c
    · subst hb; simp
    · have hb' : (b == c) = false := by simpa using hb
      rw [hb', List.mem_cons, not_or]
      by_cases h1 : Lib.indexByte l c = -1
      · simp [h1]
        exact ⟨fun h => hb h.symm, ih.1 (by omega)⟩
      · have h1' : (Lib.indexByte l c == -1) = false := by simpa using h1
        simp only [h1', Bool.false_eq_true, if_false]
        constructor
        · intro h; omega
        · intro ⟨_, h⟩
          have := ih.2 h
          omega
/-- The reader at b holds x. -/
def Rdr (b : Nat) (x : ByteArray) (w : World) : Prop := w.heap[b]? = some (.cells #[.string x] 72 (0, 0))
theorem Rdr.cell {b : Nat} {x : ByteArray} {w : World} (h : Rdr b x w) : w.cell? ⟨b, 0, none⟩ = some (.string x) := (blk_cell h 0).trans rfl
theorem Rdr.frozen {b : Nat} {x : ByteArray} {w : World} (h : Rdr b x w) : w.frozen? ⟨b, 0, none⟩ = false := Lib.frozen_of_heap h 0
theorem Rdr.set {b : Nat} {x : ByteArray} {w : World} (h : Rdr b x w) (y : ByteArray) : Rdr b y (w.setCell ⟨b, 0, none⟩ (.string y)) := blk_put h 0 _ rfl
theorem Rdr.lt {b : Nat} {x : ByteArray} {w : World} (h : Rdr b x w) : b < w.heap.size := (Array.getElem?_eq_some_iff.1 h).1
theorem size_cons {x : ByteArray} {c : UInt8} {l : List UInt8} (h : x.data.toList = c :: l) : 0 < x.size := by
  have : x.data.toList.length = x.size := data_length x
  rw [h] at this
  simp at this
  omega
theorem get_cons {x : ByteArray} {c : UInt8} {l : List UInt8} (h : x.data.toList = c :: l) : x[0]'(size_cons h) = c := by
  have h1 : x.data.toList[0]? = some c := by rw [h]; rfl
  rw [Array.getElem?_toList, Array.getElem?_eq_getElem (size_cons h)] at h1
  exact Option.some.inj h1
theorem toList_ne {x : ByteArray} {c : UInt8} {l : List UInt8} (h : x.data.toList = c :: l) : x.toList ≠ [] := by
  rw [Lib.toList_data, h]
  simp
theorem tail_cons {x : ByteArray} {c : UInt8} {l : List UInt8} (h : x.data.toList = c :: l) : (x.extract 1 x.size).data.toList = l := by
  rw [ByteArray.data_extract, Array.toList_extract, h, ← data_length x, h]
  simp [List.extract]
set_option maxHeartbeats 1000000 in
theorem has_empty (b : Nat) (t : ByteArray) (w : World) (x : ByteArray) (hb : Rdr b x w) (hx : x.data.toList = []) :
    Calls Tryd.prog 46 #[.pointer (some ⟨b, 0, none⟩), .string t] w fun e w' => e = .returned (.bool false) ∧ w' = w := by
  have hc := hb.cell
  have hx2 : x.toList = [] := by rw [Lib.toList_data, hx]
  clear hx
  go_enter Tryd.func46, Tryd.ntmps46
  go_wp2_with fail
  go_ret
  exact ⟨rfl, rfl⟩
set_option maxHeartbeats 1000000 in
theorem has_no (b : Nat) (t : ByteArray) (w : World) (x : ByteArray) (c : UInt8) (l : List UInt8) (hb : Rdr b x w) (hx : x.data.toList = c :: l) (hm : c ∉ t.data.toList) :
    Calls Tryd.prog 46 #[.pointer (some ⟨b, 0, none⟩), .string t] w fun e w' => e = .returned (.bool false) ∧ w' = w := by
  have hc := hb.cell
  have hne := toList_ne hx
  have hs := size_cons hx
  have HX := Aside0.mk hx
  have hneg := (indexByte_neg t.data.toList c).2 hm
  clear hx hm
  go_enter Tryd.func46, Tryd.ntmps46
  go_wp2_with fail
  rw [show x[0]'(size_cons HX.out) = c from get_cons HX.out]
  refine (Tryd.strings_IndexByte _ _ _).mono ?_
  rintro e w' ⟨rfl, rfl⟩
  rw [show ((c.toNat : Int)).toNat.toUInt8 = c by simp]
  have hd : decide (Lib.indexByte t.data.toList c < 0) = true := decide_eq_true hneg
  go_wp2_with fail
  go_ret
  exact ⟨rfl, rfl⟩
set_option maxHeartbeats 1000000 in
theorem has_yes (b : Nat) (t : ByteArray) (w : World) (x : ByteArray) (c : UInt8) (l : List UInt8) (hb : Rdr b x w) (hx : x.data.toList = c :: l) (hm : c ∈ t.data.toList) :
    Calls Tryd.prog 46 #[.pointer (some ⟨b, 0, none⟩), .string t] w fun e w' => e = .returned (.bool true) ∧ w' = w.setCell ⟨b, 0, none⟩ (.string (x.extract 1 x.size)) := by
  have hc := hb.cell
  have hf := hb.frozen
  have hne := toList_ne hx
  have hs := size_cons hx
  have HX := Aside0.mk hx
  have hneg : ¬ Lib.indexByte t.data.toList c < 0 := fun h => (indexByte_neg t.data.toList c).1 h hm
  clear hx hm
  go_enter Tryd.func46, Tryd.ntmps46
  go_wp2_with fail
  rw [show x[0]'(size_cons HX.out) = c from get_cons HX.out]
  refine (Tryd.strings_IndexByte _ _ _).mono ?_
  rintro e w' ⟨rfl, rfl⟩
  rw [show ((c.toNat : Int)).toNat.toUInt8 = c by simp]
  have hd : decide (Lib.indexByte t.data.toList c < 0) = false := decide_eq_false (by omega)
  have he : x.toList.isEmpty = false := by rw [List.isEmpty_eq_false_iff]; exact hne
  go_wp2_with fail
  go_ret
  exact ⟨rfl, rfl⟩
def isDig (c : UInt8) : Bool := decide (48 ≤ c.toNat) && decide (c.toNat ≤ 57)
/-- How many digits are ahead. -/
def nDig (l : List UInt8) : Nat := (l.takeWhile isDig).length
theorem nDig_le (l : List UInt8) : nDig l ≤ l.length := (List.takeWhile_sublist _).length_le
theorem nDig_lt {l : List UInt8} {i : Nat} (h : i < nDig l) : ∃ c, l[i]? = some c ∧ isDig c = true := by
  induction l generalizing i with
  | nil => simp [nDig] at h
  | cons c l ih =>
    unfold nDig at h
    rw [List.takeWhile_cons] at h
    by_cases hc : isDig c = true
    · rw [if_pos hc] at h
      rcases i with _ | i
      · exact ⟨c, rfl, hc⟩
      · exact ih (by unfold nDig; simpa using h)
    · rw [if_neg hc] at h
      simp at h
theorem nDig_at {l : List UInt8} {c : UInt8} (h : l[nDig l]? = some c) : isDig c = false := by
  induction l with
  | nil => simp at h
  | cons d l ih =>
    unfold nDig at h
    rw [List.takeWhile_cons] at h
    by_cases hd : isDig d = true
    · rw [if_pos hd, List.length_cons, List.getElem?_cons_succ] at h
      exact ih h
    · rw [if_neg hd] at h
      simp at h
      subst h
      simpa using hd
theorem at_data {x : ByteArray} {i : Nat} (h : i < x.size) : x.data.toList[i]? = some (x[i]'h) := by
  rw [Array.getElem?_toList, Array.getElem?_eq_getElem h]
  rfl
theorem dig_read {x : ByteArray} {i : Nat} (h : i < nDig x.data.toList) : ∃ hs : i < x.size, 48 ≤ (x[i]'hs).toNat ∧ (x[i]'hs).toNat ≤ 57 := by
  have hs : i < x.size := by have := nDig_le x.data.toList; rw [data_length] at this; omega
  obtain ⟨c, h1, h2⟩ := nDig_lt h
  rw [at_data hs] at h1
  obtain rfl := Option.some.inj h1
  refine ⟨hs, ?_⟩
  simpa [isDig] using h2
theorem dig_stop {x : ByteArray} (hs : nDig x.data.toList < x.size) : ¬ (48 ≤ (x[nDig x.data.toList]'hs).toNat ∧ (x[nDig x.data.toList]'hs).toNat ≤ 57) := by
  have := nDig_at (at_data hs)
  simp [isDig] at this
  omega
/-- The chain of a thrown error. -/
def thrown (c : Int) : List PanicEntry := [{ v := .iface 26 (.int .i64 c), recovered := false }]
set_option maxHeartbeats 4000000 in
theorem digits_any (b : Nat) (w : World) (x : ByteArray) (hb : Rdr b x w) (hm : x.size ≤ 9223372036854775807) :
    Calls Tryd.prog 47 #[.pointer (some ⟨b, 0, none⟩)] w fun e w' =>
      (nDig x.data.toList = 0 ∧ e = .panicked (thrown 2) ∧ w' = w) ∨ (nDig x.data.toList ≠ 0 ∧ e = .returned (.string (x.extract 0 (nDig x.data.toList))) ∧ w' = w.setCell ⟨b, 0, none⟩ (.string (x.extract (nDig x.data.toList) x.size))) := by
  have hc := hb.cell
  have hf := hb.frozen
  have hn := nDig_le x.data.toList
  rw [data_length] at hn
  have HR := Aside0.mk (fun i h => @dig_read x i h)
  have HS := Aside0.mk (fun h => @dig_stop x h)
  generalize nDig x.data.toList = n at *
  go_enter Tryd.func47, Tryd.ntmps47
  go_wp2
  go_step3
  go_wp2
  go_step3
  go_wp2
  go_loop [3] (fun v => ∃ i : Nat, i ≤ n ∧ v = .int .i64 i) (fun v => n - (intOf v).toNat)
  case atStart => exact ⟨0, Nat.zero_le _, rfl⟩
  case round =>
    obtain ⟨i, hi, rfl⟩ := hrel
    by_cases hlt : i < n
    · obtain ⟨hs, h1, h2⟩ := HR.out i hlt
      go_wp2_with fail
      · exfalso
        rcases ‹((((i : Int) == (x.size : Int)) = true ∨ ((x[i]'hs).toNat : Int) < 48) ∨ 57 < ((x[i]'hs).toNat : Int))› with (hC | hC) | hC
        · have := eq_of_beq hC
          omega
        · omega
        · omega
      · exfalso
        rcases ‹((((i : Int) == (x.size : Int)) = true ∨ ((x[i]'hs).toNat : Int) < 48) ∨ 57 < ((x[i]'hs).toNat : Int))› with (hC | hC) | hC
        · have := eq_of_beq hC
          omega
        · omega
        · omega
      · refine ⟨⟨i + 1, by omega, by simp⟩, ?_⟩
        simp only [intOf]
        omega
    · obtain rfl : i = n := by omega
      go_wp2_with fail
      · refine ⟨rfl, .inl ⟨?_, rfl, rfl⟩⟩
        have := eq_of_beq ‹((x.size : Int) == 0) = true›
        have : (i : Int) = x.size := ‹_›
        omega
      · try rw [Exit.noGoto_ret]
        go_ret
        have h1 : (i : Int) = x.size := ‹_›
        have h2 := ‹((x.size : Int) == 0) = false›
        obtain rfl : i = x.size := by omega
        refine .inr ⟨?_, by rw [ByteArray.extract_zero_size]; rfl, ?_⟩
        · intro h
          rw [h] at h2
          cases h2
        · rw [ByteArray.extract_eq_empty_iff.2 (by omega)]
      · refine ⟨rfl, .inl ⟨?_, rfl, rfl⟩⟩
        have := eq_of_beq ‹((i : Int) == 0) = true›
        omega
      · try rw [Exit.noGoto_ret]
        go_ret
        have h2 := ‹((i : Int) == 0) = false›
        refine .inr ⟨?_, rfl, rfl⟩
        intro h
        rw [h] at h2
        cases h2
      · exfalso
        have h1 : i < x.size := ‹_›
        have h2 := HS.out h1
        have h3 : 48 ≤ ((x[i]'h1).toNat : Int) := ‹_›
        have h4 := ‹(((i : Int) == (x.size : Int)) = false ∧ 48 ≤ ((x[i]'h1).toNat : Int)) ∧ ((x[i]'h1).toNat : Int) ≤ 57›
        omega
      · refine ⟨rfl, .inl ⟨?_, rfl, rfl⟩⟩
        have := eq_of_beq ‹((i : Int) == 0) = true›
        omega
      · try rw [Exit.noGoto_ret]
        go_ret
        have h2 := ‹((i : Int) == 0) = false›
        refine .inr ⟨?_, rfl, rfl⟩
        intro h
        rw [h] at h2
        cases h2
end Go.Proofs.YtmkdcokdilllcaaDoor.X
/- num's reader: the exponent. -/
namespace Go.Proofs.YtmkdcokdilllcaaDoor.X
open Go.RowKit Go.Proofs.YtmkdcokdilllcaaDoorW.PrintWords Go.Proofs.YtmkdcokdilllcaaDoorW.PrintLast Go.Proofs.YtmkdcokdilllcaaDoorW.PrintMore
set_option linter.unusedVariables false
set_option linter.unusedSimpArgs false
theorem Rdr.below {b : Nat} {x : ByteArray} {w w' : World} (h : Rdr b x w) (hb : Below w.heap.size w w') : Rdr b x w' := by
  unfold Rdr
  rw [hb.block b h.lt]
  exact h
/-- Is the next byte one of these? -/
def hasF (t x : ByteArray) : Bool := match x.data.toList with
  | [] => false
  | c :: _ => decide (c ∈ t.data.toList)
/-- What is left then. -/
def hasR (t x : ByteArray) : ByteArray := if hasF t x = true then x.extract 1 x.size else x
theorem has_any (b : Nat) (t : ByteArray) (w : World) (x : ByteArray) (hb : Rdr b x w) :
    Calls Tryd.prog 46 #[.pointer (some ⟨b, 0, none⟩), .string t] w fun e w' => e = .returned (.bool (hasF t x)) ∧ Rdr b (hasR t x) w' ∧ Below b w w' := by
  rcases hx : x.data.toList with _ | ⟨c, l⟩
  · have h1 : hasF t x = false := by simp only [hasF, hx]
    have h2 : hasR t x = x := by simp [hasR, h1]
    rw [h1, h2]
    refine (has_empty b t w x hb hx).mono ?_
    rintro e w' ⟨rfl, rfl⟩
    exact ⟨rfl, hb, Below.refl _ _⟩
  · by_cases hm : c ∈ t.data.toList
    · have h1 : hasF t x = true := by simp only [hasF, hx]; exact decide_eq_true hm
      have h2 : hasR t x = x.extract 1 x.size := by simp [hasR, h1]
      rw [h1, h2]
      refine (has_yes b t w x c l hb hx hm).mono ?_
      rintro e w' ⟨rfl, rfl⟩
      exact ⟨rfl, hb.set _, (Below.refl _ _).setCell (p := ⟨b, 0, none⟩) (Nat.le_refl b) _⟩
    · have h1 : hasF t x = false := by simp only [hasF, hx]; exact decide_eq_false hm
      have h2 : hasR t x = x := by simp [hasR, h1]
      rw [h1, h2]
      refine (has_no b t w x c l hb hx hm).mono ?_
      rintro e w' ⟨rfl, rfl⟩
      exact ⟨rfl, hb, Below.refl _ _⟩
theorem hasR_size (t x : ByteArray) : (hasR t x).size ≤ x.size := by
  unfold hasR
  split
  · rw [ByteArray.size_extract]; omega
  · exact Nat.le_refl _
/-- The digits ahead, and what is left behind them. -/
def digF (x : ByteArray) : ByteArray := x.extract 0 (nDig x.data.toList)
def digR (x : ByteArray) : ByteArray := x.extract (nDig x.data.toList) x.size
theorem digR_size (x : ByteArray) : (digR x).size ≤ x.size := by
  unfold digR
  rw [ByteArray.size_extract]; omega
theorem digits_calls (b : Nat) (w : World) (x : ByteArray) (hb : Rdr b x w) (hm : x.size ≤ 9223372036854775807) :
    Calls Tryd.prog 47 #[.pointer (some ⟨b, 0, none⟩)] w fun e w' =>
      (nDig x.data.toList = 0 ∧ e = .panicked (thrown 2) ∧ Below b w w') ∨ (nDig x.data.toList ≠ 0 ∧ e = .returned (.string (digF x)) ∧ Rdr b (digR x) w' ∧ Below b w w') := by
  refine (digits_any b w x hb hm).mono ?_
  rintro e w' (⟨h, rfl, rfl⟩ | ⟨h, rfl, rfl⟩)
  · exact .inl ⟨h, rfl, Below.refl _ _⟩
  · exact .inr ⟨h, rfl, hb.set _, (Below.refl _ _).setCell (p := ⟨b, 0, none⟩) (Nat.le_refl b) _⟩
theorem digF_data (x : ByteArray) : (digF x).data.toList = x.data.toList.takeWhile isDig := by
  unfold digF
  rw [ByteArray.data_extract, Array.toList_extract, List.extract, Nat.sub_zero, List.drop_zero]
  unfold nDig
  generalize x.data.toList = l
  induction l with
  | nil => rfl
  | cons c l ih =>
    rw [List.takeWhile_cons]
    split
    · rw [List.length_cons, List.take_succ_cons, ih]
    · rfl
theorem decFrom_some (l : List UInt8) (h : ∀ c ∈ l, isDig c = true) (a : Nat) : ∃ n, Lib.decFrom a l = some n := by
  induction l generalizing a with
  | nil => exact ⟨a, rfl⟩
  | cons c l ih =>
    have hc := h c (List.mem_cons_self)
    simp [isDig] at hc
    unfold Lib.decFrom
    simp only [Lib.digitVal, hc, and_self, if_true]
    exact ih (fun d hd => h d (List.mem_cons_of_mem _ hd)) _
theorem decFrom_bound (l : List UInt8) (a n : Nat) (h : Lib.decFrom a l = some n) : n < (a + 1) * 10 ^ l.length := by
  induction l generalizing a with
  | nil => simp [Lib.decFrom] at h; subst h; simp
  | cons c l ih =>
    unfold Lib.decFrom Lib.digitVal at h
    by_cases hc : 48 ≤ c.toNat ∧ c.toNat ≤ 57
    · rw [if_pos hc] at h
      have h1 := ih _ h
      have h2 : (a * 10 + (c.toNat - 48) + 1) * 10 ^ l.length ≤ (a + 1) * 10 * 10 ^ l.length := Nat.mul_le_mul_right _ (by omega)
      rw [List.length_cons, Nat.pow_succ, Nat.mul_comm (10 ^ l.length) 10, ← Nat.mul_assoc]
      exact Nat.lt_of_lt_of_le h1 h2
    · rw [if_neg hc] at h
      cases h
/-- The digits of an exponent, without noughts ahead. -/
def expD (x : ByteArray) : List UInt8 := Lib.trimLeftB (digF x).data.toList 48
theorem trim_mem (l : List UInt8) (c : UInt8) : ∀ d ∈ Lib.trimLeftB l c, d ∈ l := fun d hd => (List.dropWhile_sublist _).subset hd
theorem mem_takeWhile {p : UInt8 → Bool} {l : List UInt8} {c : UInt8} (h : c ∈ l.takeWhile p) : p c = true := by
  induction l with
  | nil => simp at h
  | cons b l ih =>
    rw [List.takeWhile_cons] at h
    split at h
    · rcases List.mem_cons.1 h with h | h
      · subst h; assumption
      · exact ih h
    · simp at h
theorem expD_dig (x : ByteArray) : ∀ c ∈ expD x, isDig c = true := by
  intro c hc
  have h1 := trim_mem _ _ c hc
  rw [digF_data] at h1
  exact mem_takeWhile h1
def expV (x : ByteArray) : Int := if (expD x).length ≤ 6 then (((Lib.decFrom 0 (expD x)).getD 0 : Nat) : Int) else 1048576
theorem expV_bound (x : ByteArray) : 0 ≤ expV x ∧ expV x ≤ 1048576 := by
  unfold expV
  split
  · rename_i h
    obtain ⟨n, hn⟩ := decFrom_some _ (expD_dig x) 0
    have h1 := decFrom_bound _ _ _ hn
    have h2 : 10 ^ (expD x).length ≤ 10 ^ 6 := Nat.pow_le_pow_right (by decide) h
    rw [hn, Option.getD_some]
    omega
  · omega
/-- What stands behind an exponent's sign. -/
def expS (x : ByteArray) : ByteArray := if hasF ⟨#[45]⟩ (hasR ⟨#[101, 69]⟩ x) = true then hasR ⟨#[45]⟩ (hasR ⟨#[101, 69]⟩ x) else hasR ⟨#[43]⟩ (hasR ⟨#[45]⟩ (hasR ⟨#[101, 69]⟩ x))
/-- The exponent, and what is left. -/
def expF (x : ByteArray) : Option (Int × ByteArray) :=
  if hasF ⟨#[101, 69]⟩ x = true then
    (if nDig (expS x).data.toList = 0 then none else some (if hasF ⟨#[45]⟩ (hasR ⟨#[101, 69]⟩ x) = true then -expV (expS x) else expV (expS x), digR (expS x)))
  else some (0, x)
theorem expS_size (x : ByteArray) : (expS x).size ≤ x.size := by
  have h1 := hasR_size ⟨#[101, 69]⟩ x
  have h2 := hasR_size ⟨#[45]⟩ (hasR ⟨#[101, 69]⟩ x)
  have h3 := hasR_size ⟨#[43]⟩ (hasR ⟨#[45]⟩ (hasR ⟨#[101, 69]⟩ x))
  unfold expS
  split <;> omega
theorem cat48_size (l : List UInt8) : (ByteArray.mk #[48] ++ ByteArray.mk l.toArray).size = l.length + 1 := by
  rw [ByteArray.size_append]
  simp [ByteArray.size]
  omega
theorem cat48_atoi (l : List UInt8) (h : ∀ c ∈ l, isDig c = true) : Lib.atoi (ByteArray.mk #[48] ++ ByteArray.mk l.toArray).data.toList = some (((Lib.decFrom 0 l).getD 0 : Nat) : Int) := by
  obtain ⟨n, hn⟩ := decFrom_some l h 0
  rw [hn, ByteArray.data_append]
  simp [Lib.atoi, Lib.decNat, Lib.decFrom, Lib.digitVal, hn]
theorem bw_below (w : World) (e : TypeId) (s : ByteArray) : Below w.heap.size w (Lib.bytesWorld w e s) := ⟨rfl, rfl, rfl, by rw [Lib.bytesWorld_size]; omega, fun k hk => Lib.bytesWorld_at_old w e s k hk⟩
theorem exp_atoi (x : ByteArray) (h : (expD x).length ≤ 6) : Lib.atoi (ByteArray.mk #[48] ++ ByteArray.mk (expD x).toArray).data.toList = some (expV x) := by
  rw [cat48_atoi _ (expD_dig x)]
  simp only [expV, h, if_true]
set_option maxHeartbeats 4000000 in
theorem exponent_calls (b : Nat) (w : World) (x : ByteArray) (hb : Rdr b x w) (hm : x.size ≤ 2000) :
    Calls Tryd.prog 48 #[.pointer (some ⟨b, 0, none⟩)] w fun e w' =>
      (expF x = none ∧ e = .panicked (thrown 2) ∧ Below b w w') ∨ (∃ v y, expF x = some (v, y) ∧ e = .returned (.int .i64 v) ∧ Rdr b y w' ∧ Below b w w') := by
  have HS := Aside0.mk (expS_size x)
  go_enter Tryd.func48, Tryd.ntmps48
  go_wp2_with fail
  refine (has_any b _ w x hb).mono ?_
  rintro e w1 ⟨rfl, h1, b1⟩
  by_cases he : hasF ⟨#[101, 69]⟩ x = true
  · rw [he]
    go_wp2_with fail
    refine (has_any b _ w1 _ h1).mono ?_
    rintro e w2 ⟨rfl, h2, b2⟩
    by_cases hl : hasF ⟨#[45]⟩ (hasR ⟨#[101, 69]⟩ x) = true
    · rw [hl]
      have EE : expS x = hasR ⟨#[45]⟩ (hasR ⟨#[101, 69]⟩ x) := by simp only [expS, hl, if_true]
      generalize hy : hasR ⟨#[45]⟩ (hasR ⟨#[101, 69]⟩ x) = y at *
      clear hy
      go_wp2_with fail
      refine (digits_calls b w2 _ h2 (by rw [← EE]; have := HS.out; omega)).mono ?_
      rintro e w4 (⟨hz, rfl, b4⟩ | ⟨hz, rfl, h4, b4⟩)
      · go_wp2_with fail
        exact ⟨rfl, .inl ⟨by simp only [expF, he, if_true]; rw [EE, if_pos hz], rfl, (b1.trans b2).trans b4⟩⟩
      go_wp2_with fail
      refine (Tryd.strings_TrimLeft_one _ 48 (by decide) _).mono ?_
      rintro e w5 ⟨rfl, rfl⟩
      rw [show (Lib.trimLeftB (digF y).data.toList 48).toArray = (expD y).toArray from rfl]
      have HV := expV_bound y
      have HF : expF x = some (-expV y, digR y) := by simp only [expF, he, if_true]; rw [EE, if_neg hz, if_pos hl]
      by_cases hl6 : (expD y).length ≤ 6
      · have hsz : ((ByteArray.mk (expD y).toArray).size : Int) = ((expD y).length : Nat) := by simp [ByteArray.size]
        have HA := Aside0.mk (exp_atoi y hl6)
        go_wp2_with fail
        refine (Tryd.strconv_Atoi _ (expV y) (by rw [cat48_size]; omega) HA.out _).mono ?_
        rintro e w6 ⟨rfl, t, rfl⟩
        have b6 := bw_below w5 5 t
        have h6 := h4.below b6
        have c6 := (b1.trans b2).trans (b4.trans (b6.mono (Nat.le_of_lt h4.lt)))
        clear b6
        generalize Lib.bytesWorld w5 5 t = w7 at *
        clear HA
        generalize expV y = v at *
        go_wp2_with fail
        go_ret
        exact .inr ⟨_, _, HF, by go_num, h6, c6⟩
      · have hsz : ((ByteArray.mk (expD y).toArray).size : Int) = ((expD y).length : Nat) := by simp [ByteArray.size]
        have hv : expV y = 1048576 := by simp only [expV, hl6, if_false]
        rw [hv] at HF
        go_wp2_with fail
        go_ret
        exact .inr ⟨_, _, HF, rfl, h4, (b1.trans b2).trans b4⟩
    · rw [Bool.not_eq_true] at hl
      rw [hl]
      have EE : expS x = hasR ⟨#[43]⟩ (hasR ⟨#[45]⟩ (hasR ⟨#[101, 69]⟩ x)) := by simp [expS, hl]
      go_wp2_with fail
      refine (has_any b _ w2 _ h2).mono ?_
      rintro e w3 ⟨rfl, h3, b3⟩
      generalize hy : hasR ⟨#[43]⟩ (hasR ⟨#[45]⟩ (hasR ⟨#[101, 69]⟩ x)) = y at *
      clear hy
      go_wp2_with fail
      refine (digits_calls b w3 _ h3 (by rw [← EE]; have := HS.out; omega)).mono ?_
      rintro e w4 (⟨hz, rfl, b4⟩ | ⟨hz, rfl, h4, b4⟩)
      · go_wp2_with fail
        exact ⟨rfl, .inl ⟨by simp only [expF, he, if_true]; rw [EE, if_pos hz], rfl, (b1.trans (b2.trans b3)).trans b4⟩⟩
      go_wp2_with fail
      refine (Tryd.strings_TrimLeft_one _ 48 (by decide) _).mono ?_
      rintro e w5 ⟨rfl, rfl⟩
      rw [show (Lib.trimLeftB (digF y).data.toList 48).toArray = (expD y).toArray from rfl]
      have HV := expV_bound y
      have HF : expF x = some (expV y, digR y) := by simp only [expF, he, if_true]; rw [EE, if_neg hz]; rw [hl, if_neg (by simp)]
      by_cases hl6 : (expD y).length ≤ 6
      · have hsz : ((ByteArray.mk (expD y).toArray).size : Int) = ((expD y).length : Nat) := by simp [ByteArray.size]
        have HA := Aside0.mk (exp_atoi y hl6)
        go_wp2_with fail
        refine (Tryd.strconv_Atoi _ (expV y) (by rw [cat48_size]; omega) HA.out _).mono ?_
        rintro e w6 ⟨rfl, t, rfl⟩
        have b6 := bw_below w5 5 t
        have h6 := h4.below b6
        have c6 := (b1.trans (b2.trans b3)).trans (b4.trans (b6.mono (Nat.le_of_lt h4.lt)))
        clear b6
        generalize Lib.bytesWorld w5 5 t = w7 at *
        clear HA
        generalize expV y = v at *
        go_wp2_with fail
        go_ret
        exact .inr ⟨_, _, HF, by rfl, h6, c6⟩
      · have hsz : ((ByteArray.mk (expD y).toArray).size : Int) = ((expD y).length : Nat) := by simp [ByteArray.size]
        have hv : expV y = 1048576 := by simp only [expV, hl6, if_false]
        rw [hv] at HF
        go_wp2_with fail
        go_ret
        exact .inr ⟨_, _, HF, rfl, h4, (b1.trans (b2.trans b3)).trans b4⟩
  · rw [Bool.not_eq_true] at he
    rw [he]
    go_wp2_with fail
    go_ret
    exact .inr ⟨0, x, by simp [expF, he], rfl, by simpa [hasR, he] using h1, b1⟩
end Go.Proofs.YtmkdcokdilllcaaDoor.X
