/- The text of a number is read as it, also with zeros behind a point and as a power of ten less: the law NumBack; no condition. -/
import Derived.Test.YtmkdcokdilllcaaDoorMb2
import Derived.Test.YtmkdcokdilllcaaDoorMb3
import Derived.Test.YtmkdcokdilllcaaDoorMb4
import Derived.Test.YtmkdcokdilllcaaDoorMb6
import Derived.Test.YtmkdcokdilllcaaDoorMb5
-- A walk, written by a program of this session (xp.py).
namespace Go.Proofs.YtmkdcokdilllcaaDoor.X
open Go.RowKit Go.Proofs.YtmkdcokdilllcaaDoorW.PrintWords Go.Proofs.YtmkdcokdilllcaaDoorW.PrintLast Go.Proofs.YtmkdcokdilllcaaDoorW.PrintMore
attribute [local go_sem] max2_int min2_int max_two min_two max_three min_three max_four min_four
set_option linter.unusedVariables false
set_option linter.unusedSimpArgs false

/-! ### erratumref01_Digits: function 16 -/
def erratumref01_Digits.l0 : Nat → ByteArray → List Int → Option (ByteArray)
  | 0, _, _ => none
  | k + 1, x3, x4 => if (x4.length : Int) > 0 then ((erratumref01_Small.f k x4 10).bind fun bt335 => (if 0 ≤ bt335.2 then (if bt335.2 ≤ ((bt335.2 + 1) % 4294967296) then (if ((bt335.2 + 1) % 4294967296) ≤ 10 then (if ((⟨#[48, 49, 50, 51, 52, 53, 54, 55, 56, 57]⟩ : ByteArray).extract (bt335.2 : Int).toNat (((bt335.2 + 1) % 4294967296) : Int).toNat).size + x3.size ≤ 9223372036854775807 then (erratumref01_Digits.l0 k (((⟨#[48, 49, 50, 51, 52, 53, 54, 55, 56, 57]⟩ : ByteArray).extract (bt335.2 : Int).toNat (((bt335.2 + 1) % 4294967296) : Int).toNat) ++ x3) bt335.1) else (none)) else (none)) else (none)) else (none))) else (if x3.toList = ([] : List UInt8) then (some (⟨#[48]⟩ : ByteArray)) else (some x3))
def erratumref01_Digits.f (k : Nat) (l0 : List Int) : Option (ByteArray) := (erratumref01_Norm.f k l0).bind fun t332 => (erratumref01_Digits.l0 k (⟨#[]⟩ : ByteArray) t332)
set_option maxHeartbeats 8000000 in
set_option maxRecDepth 100000 in
theorem erratumref01_Digits.calls (k : Nat) (A0 : Option Addr) (c0 : Nat) (l0 : List Int) (r : ByteArray) (w : World) (hr0 : Kd.C (Kd.int .u32) w A0 l0.length l0) (hc0 : l0.length ≤ c0) (h : erratumref01_Digits.f k l0 = some r) :
    Calls Tryd.prog 16 #[.slice A0 l0.length c0] w fun e w' => e = .returned (.string r) ∧ Below w.heap.size w w' := by
  have HR0 := Aside0.mk hr0
  have HC0 := Aside0.mk hc0
  clear hr0 hc0
  have HB := Aside0.mk (Below.refl w.heap.size w)
  have H : ((erratumref01_Norm.f k l0).bind fun t332 => (erratumref01_Digits.l0 k (⟨#[]⟩ : ByteArray) t332)) = some r := h
  clear h
  replace H := Option.bind_eq_some_iff.mp H
  obtain ⟨t332, A20, H⟩ := H
  replace H : (erratumref01_Digits.l0 k (⟨#[]⟩ : ByteArray) t332) = some r := H
  have A2 := Aside0.mk A20
  clear A20
  have H' := Aside0.mk H
  clear H
  go_enter Tryd.func16, Tryd.ntmps16
  go_wp2_with (first | ((with_reducible refine gate_callee (f := 37) rfl ?_); refine goesL_ (some 8) rfl rfl Tryd.func37 (by kernel_rfl) rfl #[.slice A0 l0.length c0] rfl (by (try simp only [List.map_toArray, List.map_cons, List.map_nil]); first | done | rfl | (simp only [List.length_drop, List.length_take]; rfl)) ?_; (with_reducible refine (erratumref01_Norm.calls k _ _ l0 t332 _ ?side1 ?side2 A2.out).mono ?_); (case side1 => repeat (first | exact HR0.out | (with_reducible refine Kd.C_alloc ?_ _) | (with_reducible refine Kd.C_drewN ?_ _) | (with_reducible refine Kd.C_drew ?_))); (case side2 => exact HC0.out); rintro e w3 ⟨v333, rfl, ho0, hb⟩; refine ⟨_, rfl, ?_⟩; have n0_ := Aside0.mk (Kd.R_lower ho0 (below_size (by repeat (first | (with_reducible first | exact HB.out | apply below_alloc | apply pw_below_drewN | apply below_drew1) | exact HB.out)))); have n1_ := Aside0.mk (below_step (by repeat (first | (with_reducible first | exact HB.out | apply below_alloc | apply pw_below_drewN | apply below_drew1) | exact HB.out)) hb); clear HB; have HO334 := n0_; have HB := n1_; clear n0_ n1_; (try clear hb); (try clear hb2); (try clear hk); (try clear hi); (try clear ho0)))
  try (any_goals (with_reducible refine halt_absurd ?_; (try simp only [ByteArray.size_extract, ByteArray.size_append, ba_size_mk, List.size_toArray, List.length_cons, List.length_nil] at *) <;> omega))
  go_loopg [3, 4] k (fun kq v3 v4 w' => ∃ (x3_1 : ByteArray) (x4_1 : List Int), v3 = .string x3_1 ∧ Aside0 (erratumref01_Digits.l0 kq x3_1 x4_1 = some r) ∧ Aside0 (kq ≤ k) ∧ Aside0 (Kd.R (Kd.int .u32) 40 w' w.heap.size (fun _ => True) v4 x4_1) ∧ Aside0 (Below w.heap.size w w'))
  case atStart => exact ⟨((⟨#[]⟩ : ByteArray)), (t332), (by first | rfl | (simp; done) | (simp [*]; done)), H', ⟨Nat.le_refl _⟩, ⟨by (with_reducible repeat (first | apply Kd.R_alloc | apply Kd.R_drewN | apply Kd.R_drew)); exact HO334.out⟩, ⟨by repeat (first | (with_reducible first | exact HB.out | apply below_alloc | apply pw_below_drewN | apply below_drew1) | exact HB.out)⟩⟩
  case round =>
    clear H'
    try clear c1
    try clear p2
    try clear c3
    obtain ⟨x3_1, x4_1, rfl, HA, HK1, HO_4, HB⟩ := hrel
    cases gk with
    | zero => exact absurd HA.out (by simp [erratumref01_Digits.l0])
    | succ k1 =>
      have H := HA.out
      clear HA
      simp only [erratumref01_Digits.l0] at H
      by_cases c4 : (x4_1.length : Int) > 0
      · rw [if_pos c4] at H
        have c4b0 : decide (0 < (x4_1.length : Int)) = true := decide_eq_true c4
        have c4b1 : decide (0 < x4_1.length) = true := decide_eq_true (by omega)
        clear c4
        replace H := Option.bind_eq_some_iff.mp H
        obtain ⟨⟨t335, t336⟩, A50, H⟩ := H
        replace H : (if 0 ≤ t336 then (if t336 ≤ ((t336 + 1) % 4294967296) then (if ((t336 + 1) % 4294967296) ≤ 10 then (if ((⟨#[48, 49, 50, 51, 52, 53, 54, 55, 56, 57]⟩ : ByteArray).extract (t336 : Int).toNat (((t336 + 1) % 4294967296) : Int).toNat).size + x3_1.size ≤ 9223372036854775807 then (erratumref01_Digits.l0 k1 (((⟨#[48, 49, 50, 51, 52, 53, 54, 55, 56, 57]⟩ : ByteArray).extract (t336 : Int).toNat (((t336 + 1) % 4294967296) : Int).toNat) ++ x3_1) t335) else (none)) else (none)) else (none)) else (none)) = some r := H
        have A5 := Aside0.mk A50
        clear A50
        by_cases c6 : 0 ≤ t336
        · rw [if_pos c6] at H
          have c6b0 := eq_true c6
          have c6b1 : decide (0 ≤ t336) = true := decide_eq_true c6
          clear c6
          by_cases c7 : t336 ≤ ((t336 + 1) % 4294967296)
          · rw [if_pos c7] at H
            have c7b0 := eq_true c7
            have c7b1 : decide (t336 ≤ ((t336 + 1) % 4294967296)) = true := decide_eq_true c7
            by_cases c8 : ((t336 + 1) % 4294967296) ≤ 10
            · rw [if_pos c8] at H
              have c8b0 := eq_true c8
              have c8b1 : decide (((t336 + 1) % 4294967296) ≤ 10) = true := decide_eq_true c8
              by_cases c9 : ((⟨#[48, 49, 50, 51, 52, 53, 54, 55, 56, 57]⟩ : ByteArray).extract (t336 : Int).toNat (((t336 + 1) % 4294967296) : Int).toNat).size + x3_1.size ≤ 9223372036854775807
              · rw [if_pos c9] at H
                have c9b0 := eq_true c9
                have c9b1 : decide (((⟨#[48, 49, 50, 51, 52, 53, 54, 55, 56, 57]⟩ : ByteArray).extract (t336 : Int).toNat (((t336 + 1) % 4294967296) : Int).toNat).size + x3_1.size ≤ 9223372036854775807) = true := decide_eq_true c9
                try have c9b2 : (9223372036854775807 < ((⟨#[48, 49, 50, 51, 52, 53, 54, 55, 56, 57]⟩ : ByteArray).extract (t336 : Int).toNat (((t336 + 1) % 4294967296) : Int).toNat).size + x3_1.size) = False := eq_false (Nat.not_lt.2 c9)
                have H' := Aside0.mk H
                clear H
                obtain ⟨Ao10, co10, eo10⟩ := Kd.R_slice HO_4.out
                subst eo10
                go_wp2_with (first | ((with_reducible refine gate_callee (f := 32) rfl ?_); refine goesL_ (some 14) rfl rfl Tryd.func32 (by kernel_rfl) rfl #[.slice Ao10 x4_1.length co10, .int .u32 10] rfl (by (try simp only [List.map_toArray, List.map_cons, List.map_nil]); first | done | rfl | (simp only [List.length_drop, List.length_take]; rfl)) ?_; (with_reducible refine (erratumref01_Small.calls k1 _ _ x4_1 10 t335 t336 _ ?side1 ?side2 A5.out).mono ?_); (case side1 => repeat (first | exact (Kd.R_reads' HO_4.out).2.2 | (with_reducible refine Kd.C_alloc ?_ _) | (with_reducible refine Kd.C_drewN ?_ _) | (with_reducible refine Kd.C_drew ?_))); (case side2 => exact (Kd.R_reads' HO_4.out).2.1); rintro e w11 ⟨v337, rfl, ho0, hb⟩; refine ⟨_, rfl, ?_⟩; have n0_ := Aside0.mk (Kd.R_elder' (by (with_reducible repeat (first | apply Kd.R_alloc | apply Kd.R_drewN | apply Kd.R_drew)); exact HO_4.out) (Kd.R_base ho0) hb); have n1_ := Aside0.mk (Kd.R_lower (Kd.R_new' ho0 (Kd.R_lt (by (with_reducible repeat (first | apply Kd.R_alloc | apply Kd.R_drewN | apply Kd.R_drew)); exact HO_4.out))) (below_size (by repeat (first | (with_reducible first | exact HB.out | apply below_alloc | apply pw_below_drewN | apply below_drew1) | exact HB.out)))); have n2_ := Aside0.mk (below_step (by repeat (first | (with_reducible first | exact HB.out | apply below_alloc | apply pw_below_drewN | apply below_drew1) | exact HB.out)) hb); clear HO_4; clear HB; have HO_4 := n0_; have HO338 := n1_; have HB := n2_; clear n0_ n1_ n2_; (try clear hb); (try clear hb2); (try clear hk); (try clear hi); (try clear ho0)))
                try (any_goals (with_reducible refine halt_absurd ?_; (try simp only [ByteArray.size_extract, ByteArray.size_append, ba_size_mk, List.size_toArray, List.length_cons, List.length_nil] at *) <;> omega))
                go_roundg k1
                case measure => have := HK1.out; omega
                case rel => exact ⟨(((⟨#[48, 49, 50, 51, 52, 53, 54, 55, 56, 57]⟩ : ByteArray).extract (t336 : Int).toNat (((t336 + 1) % 4294967296) : Int).toNat) ++ x3_1), (t335), (by first | rfl | (simp; done) | (simp [*]; done)), H', ⟨by have := HK1.out; omega⟩, ⟨by (with_reducible repeat (first | apply Kd.R_alloc | apply Kd.R_drewN | apply Kd.R_drew)); exact Kd.R_mono HO338.out (fun _ hk => trivial)⟩, ⟨by repeat (first | (with_reducible first | exact HB.out | apply below_alloc | apply pw_below_drewN | apply below_drew1) | exact HB.out)⟩⟩
              · rw [if_neg c9] at H
                exact absurd H (by simp)
            · rw [if_neg c8] at H
              exact absurd H (by simp)
          · rw [if_neg c7] at H
            exact absurd H (by simp)
        · rw [if_neg c6] at H
          exact absurd H (by simp)
      · rw [if_neg c4] at H
        have c4b0 : decide (0 < (x4_1.length : Int)) = false := decide_eq_false c4
        have c4b1 : decide (0 < x4_1.length) = false := decide_eq_false (by omega)
        clear c4
        by_cases c12 : x3_1.toList = ([] : List UInt8)
        · rw [if_pos c12] at H
          have c12b0 : (x3_1.toList == ([] : List UInt8)) = true := beq_iff_eq.mpr c12
          have c12b1 : (x3_1.toList != ([] : List UInt8)) = false := bne_eq_false_iff_eq.mpr c12
          clear c12
          obtain rfl := Option.some.inj H
          obtain ⟨Ao13, co13, eo13⟩ := Kd.R_slice HO_4.out
          subst eo13
          go_wp2
          try (any_goals (with_reducible refine halt_absurd ?_; (try simp only [ByteArray.size_extract, ByteArray.size_append, ba_size_mk, List.size_toArray, List.length_cons, List.length_nil] at *) <;> omega))
          go_ret
          exact ⟨by first | rfl | (simp [errW_none, errW_some] <;> rfl) | (simp [*, errW_none, errW_some] <;> rfl), by repeat (first | (with_reducible first | exact HB.out | apply below_alloc | apply pw_below_drewN | apply below_drew1) | exact HB.out)⟩
        · rw [if_neg c12] at H
          have c12b0 : (x3_1.toList == ([] : List UInt8)) = false := beq_eq_false_iff_ne.mpr c12
          have c12b1 : (x3_1.toList != ([] : List UInt8)) = true := bne_iff_ne.mpr c12
          obtain rfl := Option.some.inj H
          obtain ⟨Ao14, co14, eo14⟩ := Kd.R_slice HO_4.out
          subst eo14
          go_wp2
          try (any_goals (with_reducible refine halt_absurd ?_; (try simp only [ByteArray.size_extract, ByteArray.size_append, ba_size_mk, List.size_toArray, List.length_cons, List.length_nil] at *) <;> omega))
          go_ret
          exact ⟨by first | rfl | (simp [errW_none, errW_some] <;> rfl) | (simp [*, errW_none, errW_some] <;> rfl), by repeat (first | (with_reducible first | exact HB.out | apply below_alloc | apply pw_below_drewN | apply below_drew1) | exact HB.out)⟩

end Go.Proofs.YtmkdcokdilllcaaDoor.X
-- A walk, written by a program of this session (xp.py).
namespace Go.Proofs.YtmkdcokdilllcaaDoor.X
open Go.RowKit Go.Proofs.YtmkdcokdilllcaaDoorW.PrintWords Go.Proofs.YtmkdcokdilllcaaDoorW.PrintLast Go.Proofs.YtmkdcokdilllcaaDoorW.PrintMore
attribute [local go_sem] max2_int min2_int max_two min_two max_three min_three max_four min_four
set_option linter.unusedVariables false
set_option linter.unusedSimpArgs false

/-! ### erratumlaw02_text: function 17 -/
def erratumlaw02_text.f (k : Nat) (a0 : Int) : Option (ByteArray) := if a0 < 0 then ((erratumref01_Digits.f k (([(wrap64 (-a0)) % 4294967296] : List Int))).bind fun t342 => (if 1 + t342.size ≤ 9223372036854775807 then (some ((⟨#[45]⟩ : ByteArray) ++ t342)) else (none))) else ((erratumref01_Digits.f k (([(a0) % 4294967296] : List Int))).bind fun t346 => (some t346))
set_option maxHeartbeats 8000000 in
set_option maxRecDepth 100000 in
theorem erratumlaw02_text.calls (k : Nat) (a0 : Int) (r : ByteArray) (w : World) (h : erratumlaw02_text.f k a0 = some r) :
    Calls Tryd.prog 17 #[.int .i64 a0] w fun e w' => e = .returned (.string r) ∧ Below w.heap.size w w' := by
  have HB := Aside0.mk (Below.refl w.heap.size w)
  have H : (if a0 < 0 then ((erratumref01_Digits.f k (([(wrap64 (-a0)) % 4294967296] : List Int))).bind fun t342 => (if 1 + t342.size ≤ 9223372036854775807 then (some ((⟨#[45]⟩ : ByteArray) ++ t342)) else (none))) else ((erratumref01_Digits.f k (([(a0) % 4294967296] : List Int))).bind fun t346 => (some t346))) = some r := h
  clear h
  by_cases c2 : a0 < 0
  · rw [if_pos c2] at H
    have c2b0 : decide (a0 < 0) = true := decide_eq_true c2
    clear c2
    obtain ⟨y339, hy339⟩ : ∃ y_ : List Int, y_ = (([(wrap64 (-a0)) % 4294967296] : List Int)) := ⟨_, rfl⟩
    replace H : ((erratumref01_Digits.f k y339).bind fun t342 => (if 1 + t342.size ≤ 9223372036854775807 then (some ((⟨#[45]⟩ : ByteArray) ++ t342)) else (none))) = some r := by first | (rw [hy339]; with_reducible exact H) | (have H2_ := (Option.bind_some _ _).symm.trans H; rw [hy339]; with_reducible exact H2_) | (have H2_ := (Option.bind_some _ _).symm.trans H; with_reducible exact H2_) | with_reducible exact H | (rw [hy339]; exact H) | exact H
    have Ny339 := Aside0.mk hy339
    clear hy339
    replace H := Option.bind_eq_some_iff.mp H
    obtain ⟨t342, A30, H⟩ := H
    replace H : (if 1 + t342.size ≤ 9223372036854775807 then (some ((⟨#[45]⟩ : ByteArray) ++ t342)) else (none)) = some r := H
    have A3 := Aside0.mk A30
    clear A30
    by_cases c4 : 1 + t342.size ≤ 9223372036854775807
    · rw [if_pos c4] at H
      have c4b0 := eq_true c4
      have c4b1 : decide (1 + t342.size ≤ 9223372036854775807) = true := decide_eq_true c4
      try have c4b2 : (9223372036854775807 < 1 + t342.size) = False := eq_false (Nat.not_lt.2 c4)
      obtain rfl := Option.some.inj H
      go_enter Tryd.func17, Tryd.ntmps17
      go_wp2_with (first | ((with_reducible refine gate_dst (N := 8) rfl ?_); refine Kd.R_lit (Kd.int .u32) _ 40 ?hg (N := 8) ?hd (xs := ([(wrap64 (-a0)) % 4294967296] : List Int)) (inner := [.int .u32 ((wrap64 (-a0)) % 4294967296)]) (ok := fun _ => True) (okp := fun _ => True) ?hr ?hp (fun _ hk => hk) trivial (Below.refl _ _) (Nat.le_refl _) (by simp) ?_; (case hd => rfl); (case hg => rfl); (case hr => first | (go_simp; done) | (go_simp; rfl) | (go_simp; simp only [x_u32u8, x_u8, x_u32, x_u64, x_mm]; first | done | rfl)); (case hp => exact (Reps.one (show Kd.M (Kd.int .u32) _ _ _ ((wrap64 (-a0)) % 4294967296) [.int .u32 ((wrap64 (-a0)) % 4294967296)] from rfl) (Reps.none _ _))); intro v340 w5 ho6 hb hg_ hnew_; clear hg_ hnew_; (first | rw [← Ny339.out] at ho6 | (simp only [Int.reduceToNat] at ho6; rw [← Ny339.out] at ho6)); have n0_ := Aside0.mk (Kd.R_lower ho6 (below_size (by repeat (first | (with_reducible first | exact HB.out | apply below_alloc | apply pw_below_drewN | apply below_drew1) | exact HB.out)))); have n1_ := Aside0.mk (below_step (by repeat (first | (with_reducible first | exact HB.out | apply below_alloc | apply pw_below_drewN | apply below_drew1) | exact HB.out)) hb); clear HB; have HO341 := n0_; have HB := n1_; clear n0_ n1_; clear hb ho6; obtain ⟨Ao7, co7, eo7⟩ := Kd.R_slice HO341.out; subst eo7) | ((with_reducible refine gate_callee (f := 16) rfl ?_); refine goesL_ (some 9) rfl rfl Tryd.func16 (by kernel_rfl) rfl #[.slice Ao7 y339.length co7] rfl (by (try simp only [List.map_toArray, List.map_cons, List.map_nil]); first | done | rfl | (simp only [List.length_drop, List.length_take]; rfl)) ?_; (with_reducible refine (erratumref01_Digits.calls k _ _ y339 t342 _ ?side1 ?side2 A3.out).mono ?_); (case side1 => repeat (first | exact (Kd.R_reads' HO341.out).2.2 | (with_reducible refine Kd.C_alloc ?_ _) | (with_reducible refine Kd.C_drewN ?_ _) | (with_reducible refine Kd.C_drew ?_))); (case side2 => exact (Kd.R_reads' HO341.out).2.1); rintro e w8 ⟨rfl, hb⟩; refine ⟨_, rfl, ?_⟩; have n0_ := Aside0.mk (Kd.R_below (by (with_reducible repeat (first | apply Kd.R_alloc | apply Kd.R_drewN | apply Kd.R_drew)); exact HO341.out) hb); have n1_ := Aside0.mk (below_step (by repeat (first | (with_reducible first | exact HB.out | apply below_alloc | apply pw_below_drewN | apply below_drew1) | exact HB.out)) hb); clear HO341; clear HB; have HO341 := n0_; have HB := n1_; clear n0_ n1_; (try clear hb); (try clear hb2); (try clear hk); (try clear hi)))
      try (any_goals (with_reducible refine halt_absurd ?_; (try simp only [ByteArray.size_extract, ByteArray.size_append, ba_size_mk, List.size_toArray, List.length_cons, List.length_nil] at *) <;> omega))
      go_ret
      exact ⟨by first | rfl | (simp [errW_none, errW_some] <;> rfl) | (simp [*, errW_none, errW_some] <;> rfl), by repeat (first | (with_reducible first | exact HB.out | apply below_alloc | apply pw_below_drewN | apply below_drew1) | exact HB.out)⟩
    · rw [if_neg c4] at H
      exact absurd H (by simp)
  · rw [if_neg c2] at H
    have c2b0 : decide (a0 < 0) = false := decide_eq_false c2
    clear c2
    obtain ⟨y343, hy343⟩ : ∃ y_ : List Int, y_ = (([(a0) % 4294967296] : List Int)) := ⟨_, rfl⟩
    replace H : ((erratumref01_Digits.f k y343).bind fun t346 => (some t346)) = some r := by first | (rw [hy343]; with_reducible exact H) | (have H2_ := (Option.bind_some _ _).symm.trans H; rw [hy343]; with_reducible exact H2_) | (have H2_ := (Option.bind_some _ _).symm.trans H; with_reducible exact H2_) | with_reducible exact H | (rw [hy343]; exact H) | exact H
    have Ny343 := Aside0.mk hy343
    clear hy343
    replace H := Option.bind_eq_some_iff.mp H
    obtain ⟨t346, A90, H⟩ := H
    replace H : (some t346) = some r := H
    have A9 := Aside0.mk A90
    clear A90
    obtain rfl := Option.some.inj H
    go_enter Tryd.func17, Tryd.ntmps17
    go_wp2_with (first | ((with_reducible refine gate_dst (N := 13) rfl ?_); refine Kd.R_lit (Kd.int .u32) _ 40 ?hg (N := 13) ?hd (xs := ([(a0) % 4294967296] : List Int)) (inner := [.int .u32 ((a0) % 4294967296)]) (ok := fun _ => True) (okp := fun _ => True) ?hr ?hp (fun _ hk => hk) trivial (Below.refl _ _) (Nat.le_refl _) (by simp) ?_; (case hd => rfl); (case hg => rfl); (case hr => first | (go_simp; done) | (go_simp; rfl) | (go_simp; simp only [x_u32u8, x_u8, x_u32, x_u64, x_mm]; first | done | rfl)); (case hp => exact (Reps.one (show Kd.M (Kd.int .u32) _ _ _ ((a0) % 4294967296) [.int .u32 ((a0) % 4294967296)] from rfl) (Reps.none _ _))); intro v344 w10 ho11 hb hg_ hnew_; clear hg_ hnew_; (first | rw [← Ny343.out] at ho11 | (simp only [Int.reduceToNat] at ho11; rw [← Ny343.out] at ho11)); have n0_ := Aside0.mk (Kd.R_lower ho11 (below_size (by repeat (first | (with_reducible first | exact HB.out | apply below_alloc | apply pw_below_drewN | apply below_drew1) | exact HB.out)))); have n1_ := Aside0.mk (below_step (by repeat (first | (with_reducible first | exact HB.out | apply below_alloc | apply pw_below_drewN | apply below_drew1) | exact HB.out)) hb); clear HB; have HO345 := n0_; have HB := n1_; clear n0_ n1_; clear hb ho11; obtain ⟨Ao12, co12, eo12⟩ := Kd.R_slice HO345.out; subst eo12) | ((with_reducible refine gate_callee (f := 16) rfl ?_); refine goesL_ (some 14) rfl rfl Tryd.func16 (by kernel_rfl) rfl #[.slice Ao12 y343.length co12] rfl (by (try simp only [List.map_toArray, List.map_cons, List.map_nil]); first | done | rfl | (simp only [List.length_drop, List.length_take]; rfl)) ?_; (with_reducible refine (erratumref01_Digits.calls k _ _ y343 t346 _ ?side1 ?side2 A9.out).mono ?_); (case side1 => repeat (first | exact (Kd.R_reads' HO345.out).2.2 | (with_reducible refine Kd.C_alloc ?_ _) | (with_reducible refine Kd.C_drewN ?_ _) | (with_reducible refine Kd.C_drew ?_))); (case side2 => exact (Kd.R_reads' HO345.out).2.1); rintro e w13 ⟨rfl, hb⟩; refine ⟨_, rfl, ?_⟩; have n0_ := Aside0.mk (Kd.R_below (by (with_reducible repeat (first | apply Kd.R_alloc | apply Kd.R_drewN | apply Kd.R_drew)); exact HO345.out) hb); have n1_ := Aside0.mk (below_step (by repeat (first | (with_reducible first | exact HB.out | apply below_alloc | apply pw_below_drewN | apply below_drew1) | exact HB.out)) hb); clear HO345; clear HB; have HO345 := n0_; have HB := n1_; clear n0_ n1_; (try clear hb); (try clear hb2); (try clear hk); (try clear hi)))
    try (any_goals (with_reducible refine halt_absurd ?_; (try simp only [ByteArray.size_extract, ByteArray.size_append, ba_size_mk, List.size_toArray, List.length_cons, List.length_nil] at *) <;> omega))
    go_ret
    exact ⟨by first | rfl | (simp [errW_none, errW_some] <;> rfl) | (simp [*, errW_none, errW_some] <;> rfl), by repeat (first | (with_reducible first | exact HB.out | apply below_alloc | apply pw_below_drewN | apply below_drew1) | exact HB.out)⟩

end Go.Proofs.YtmkdcokdilllcaaDoor.X
-- A walk, written by a program of this session (xp.py).
namespace Go.Proofs.YtmkdcokdilllcaaDoor.X
open Go.RowKit Go.Proofs.YtmkdcokdilllcaaDoorW.PrintWords Go.Proofs.YtmkdcokdilllcaaDoorW.PrintLast Go.Proofs.YtmkdcokdilllcaaDoorW.PrintMore
attribute [local go_sem] max2_int min2_int max_two min_two max_three min_three max_four min_four
set_option linter.unusedVariables false
set_option linter.unusedSimpArgs false

/-! ### erratumlaw02_NumBack: function 4 -/
mutual
def erratumlaw02_NumBack.j0 : Nat → Int → Bool → Bool → List Int → Int → Option (Bool)
  | 0, _, _, _, _, _ => none
  | k + 1, x1, x26, x266000, x266001, x266002 => if x26 = true then ((erratumlaw02_awake.f k).bind fun t267 => (some t267)) else ((num_Text.f k x266000 x266001 x266002).bind fun t268 => ((num_Parse.f k t268).bind fun bt269 => ((erratumlaw00_Place.f x1 40).bind fun t276 => ((erratumref01_Digits.f k x266001).bind fun t277 => (if x266000 = true then (erratumlaw02_NumBack.j1 k bt269.2.2.2 t276 t277 (⟨#[45]⟩ : ByteArray) x266000 x266001 x266002 bt269.1 bt269.2.1 bt269.2.2.1) else (erratumlaw02_NumBack.j1 k bt269.2.2.2 t276 t277 (⟨#[]⟩ : ByteArray) x266000 x266001 x266002 bt269.1 bt269.2.1 bt269.2.2.1))))))
def erratumlaw02_NumBack.j1 : Nat → Int → Int → ByteArray → ByteArray → Bool → List Int → Int → Bool → List Int → Int → Option (Bool)
  | 0, _, _, _, _, _, _, _, _, _, _ => none
  | k + 1, x7, x8, x9, x10, x266000, x266001, x266002, x276000, x276001, x276002 => erratumlaw02_NumBack.l0 k x7 x8 x9 x10 (⟨#[]⟩ : ByteArray) 0 x266000 x266001 x266002 x276000 x276001 x276002
def erratumlaw02_NumBack.l0 : Nat → Int → Int → ByteArray → ByteArray → ByteArray → Int → Bool → List Int → Int → Bool → List Int → Int → Option (Bool)
  | 0, _, _, _, _, _, _, _, _, _, _, _, _ => none
  | k + 1, x7, x8, x9, x10, x11, x12, x266000, x266001, x266002, x276000, x276001, x276002 => if x12 < x8 then (if x11.size + 1 ≤ 9223372036854775807 then (erratumlaw02_NumBack.l0 k x7 x8 x9 x10 (x11 ++ (⟨#[48]⟩ : ByteArray)) (wrap64 (x12 + 1)) x266000 x266001 x266002 x276000 x276001 x276002) else (none)) else (if x10.size + x9.size ≤ 9223372036854775807 then (if (x10 ++ x9).size + 1 ≤ 9223372036854775807 then (if ((x10 ++ x9) ++ (⟨#[46]⟩ : ByteArray)).size + x11.size ≤ 9223372036854775807 then (if (((x10 ++ x9) ++ (⟨#[46]⟩ : ByteArray)) ++ x11).size + 2 ≤ 9223372036854775807 then ((erratumlaw02_text.f k x266002).bind fun t278 => (if ((((x10 ++ x9) ++ (⟨#[46]⟩ : ByteArray)) ++ x11) ++ (⟨#[48, 101]⟩ : ByteArray)).size + t278.size ≤ 9223372036854775807 then ((num_Parse.f k (((((x10 ++ x9) ++ (⟨#[46]⟩ : ByteArray)) ++ x11) ++ (⟨#[48, 101]⟩ : ByteArray)) ++ t278)).bind fun bt279 => (if (x266001.length : Int) = 0 then (erratumlaw02_NumBack.j3 k x7 0 x9 x10 (⟨#[]⟩ : ByteArray) bt279.2.2.2 x266000 x266001 x266002 x276000 x276001 x276002 bt279.1 bt279.2.1 bt279.2.2.1) else (erratumlaw02_NumBack.j3 k x7 x8 x9 x10 x11 bt279.2.2.2 x266000 x266001 x266002 x276000 x276001 x276002 bt279.1 bt279.2.1 bt279.2.2.1))) else (none))) else (none)) else (none)) else (none)) else (none))
def erratumlaw02_NumBack.j3 : Nat → Int → Int → ByteArray → ByteArray → ByteArray → Int → Bool → List Int → Int → Bool → List Int → Int → Bool → List Int → Int → Option (Bool)
  | 0, _, _, _, _, _, _, _, _, _, _, _, _, _, _, _ => none
  | k + 1, x7, x8, x9, x10, x11, x14, x266000, x266001, x266002, x276000, x276001, x276002, x286000, x286001, x286002 => if x10.size + x9.size ≤ 9223372036854775807 then (if (x10 ++ x9).size + x11.size ≤ 9223372036854775807 then (if ((x10 ++ x9) ++ x11).size + 1 ≤ 9223372036854775807 then ((erratumlaw02_text.f k (wrap64 (x266002 - x8))).bind fun t286 => (if (((x10 ++ x9) ++ x11) ++ (⟨#[69]⟩ : ByteArray)).size + t286.size ≤ 9223372036854775807 then ((num_Parse.f k ((((x10 ++ x9) ++ x11) ++ (⟨#[69]⟩ : ByteArray)) ++ t286)).bind fun bt287 => (if x7 = 0 then ((erratumlaw00_SameNum.f k x276000 x276001 x276002 x266000 x266001 x266002).bind fun t294 => (if t294 = true then (if x14 = 0 then ((erratumlaw00_SameNum.f k x286000 x286001 x286002 x266000 x266001 x266002).bind fun t295 => (if t295 = true then (if bt287.2.2.2 = 0 then ((erratumlaw00_SameNum.f k bt287.1 bt287.2.1 bt287.2.2.1 x266000 x266001 x266002).bind fun t296 => (if t296 = true then ((erratumlaw02_awake.f k).bind fun t297 => (some t297)) else (some false))) else (some false)) else (some false))) else (some false)) else (some false))) else (some false))) else (none))) else (none)) else (none)) else (none)
end
def erratumlaw02_NumBack.f (k : Nat) (a0_0 : Bool) (l0_1 : List Int) (a0_2 : Int) (a1 : Int) : Option (Bool) := if (l0_1.length : Int) > 30 then (erratumlaw02_NumBack.j0 k a1 true a0_0 l0_1 a0_2) else ((erratumref02_Check.f k a0_0 l0_1 a0_2).bind fun t266 => (erratumlaw02_NumBack.j0 k a1 (!t266) a0_0 l0_1 a0_2))
set_option maxHeartbeats 8000000 in
set_option maxRecDepth 100000 in
theorem erratumlaw02_NumBack.calls (k : Nat) (a0_0 : Bool) (A0_1 : Option Addr) (c0_1 : Nat) (l0_1 : List Int) (a0_2 : Int) (a1 : Int) (r : Bool) (w : World) (hT : r = true) (hL : Laid w) (hr0_1 : Kd.C (Kd.int .u32) w A0_1 l0_1.length l0_1) (hc0_1 : l0_1.length ≤ c0_1) (h : erratumlaw02_NumBack.f k a0_0 l0_1 a0_2 a1 = some r) :
    Calls Tryd.prog 4 #[.agg #[.bool a0_0, .slice A0_1 l0_1.length c0_1, .int .i64 a0_2], .int .i64 a1] w fun e w' => e = .returned (.bool r) ∧ Below w.heap.size w w' := by
  replace hL := Aside0.mk hL
  have hu25 := Tryd.underlying25
  have HR0_1 := Aside0.mk hr0_1
  have HC0_1 := Aside0.mk hc0_1
  clear hr0_1 hc0_1
  have HB := Aside0.mk (Below.refl w.heap.size w)
  have H : (if (l0_1.length : Int) > 30 then (erratumlaw02_NumBack.j0 k a1 true a0_0 l0_1 a0_2) else ((erratumref02_Check.f k a0_0 l0_1 a0_2).bind fun t266 => (erratumlaw02_NumBack.j0 k a1 (!t266) a0_0 l0_1 a0_2))) = some r := h
  clear h
  have HC3 := Aside0.mk H
  clear H
  go_enter Tryd.func4, Tryd.ntmps4
  go_upto_region 1 with (first | ((with_reducible refine gate_dst (N := 2) rfl ?_); refine box_event ?hg (N := 2) ?hd (cs := #[.bool a0_0, .slice A0_1 l0_1.length c0_1, .int .i64 a0_2]) (t := 25) ?hr ?_; (case hd => rfl); (case hg => rfl); (case hr => first | (go_simp; done) | (go_simp; rfl) | (go_simp; simp only [x_u32u8, x_u8, x_u32, x_u64, x_mm]; first | done | rfl)); intro gb265 hg w4 hbox hb; have n0_ := Aside0.mk (below_step (by repeat (first | (with_reducible first | exact HB.out | apply below_alloc | apply pw_below_drewN | apply below_drew1) | exact HB.out)) hb); have n1_ := Aside0.mk (hbox); have n2_ := Aside0.mk ((by rw [hg]; exact (below_size (by repeat (first | (with_reducible first | exact HB.out | apply below_alloc | apply pw_below_drewN | apply below_drew1) | exact HB.out))) : w.heap.size ≤ gb265)); have n3_ := Aside0.mk ((by rw [hg]; exact (below_size (by repeat (first | (with_reducible first | exact HB.out | apply below_alloc | apply pw_below_drewN | apply below_drew1) | exact HB.out))) : w.heap.size ≤ gb265)); clear HB; have HB := n0_; have BK265 := n1_; have GW265 := n2_; have GE265 := n3_; clear n0_ n1_ n2_ n3_; clear hb hbox hg))
  try (any_goals (with_reducible refine halt_absurd ?_; (try simp only [ByteArray.size_extract, ByteArray.size_append, ba_size_mk, List.size_toArray, List.length_cons, List.length_nil] at *) <;> omega))
  (try simp only [Act.put, List.setIfInBounds_toArray, List.set_cons_zero, List.set_cons_succ])
  go_cut [26] (fun v26 wc => ∃ (kq : Nat) (x26_2 : Bool), v26 = .bool x26_2 ∧ Aside0 (erratumlaw02_NumBack.j0 kq a1 x26_2 a0_0 l0_1 a0_2 = some r) ∧ Aside0 (kq ≤ k) ∧ Aside0 (wc.heap[gb265]? = some (.cells #[.bool a0_0, (.slice A0_1 l0_1.length c0_1), .int .i64 a0_2] 25 (0, 0))) ∧ Aside0 (Below w.heap.size w wc))
  case first =>
    have H := HC3.out
    clear HC3
    by_cases c5 : (l0_1.length : Int) > 30
    · rw [if_pos c5] at H
      have c5b0 : decide (30 < (l0_1.length : Int)) = true := decide_eq_true c5
      have c5b1 : decide (30 < l0_1.length) = true := decide_eq_true (by omega)
      clear c5
      (first | rw [c5b0] | (simp only [i64_w, i32_w]; rw [c5b0]) | skip)
      have H' := Aside0.mk H
      clear H
      have hcz6_0 : w4.cell? ⟨gb265, 0, none⟩ = some (.bool a0_0) := (blk_cell BK265.out 0).trans rfl
      have hcz6_1 : w4.cell? ⟨gb265, 1, none⟩ = some (.slice A0_1 l0_1.length c0_1) := (blk_cell BK265.out 1).trans rfl
      have hcz6_2 : w4.cell? ⟨gb265, 2, none⟩ = some (.int .i64 a0_2) := (blk_cell BK265.out 2).trans rfl
      have hfz6_0 := blk_frozen BK265.out 0
      have hfz6_1 := blk_frozen BK265.out 1
      have hfz6_2 := blk_frozen BK265.out 2
      go_wp2
      try (any_goals (with_reducible refine halt_absurd ?_; (try simp only [ByteArray.size_extract, ByteArray.size_append, ba_size_mk, List.size_toArray, List.length_cons, List.length_nil] at *) <;> omega))
      go_meet
      case rel => exact ⟨_, (true), (by first | rfl | (simp; done) | (simp [*]; done)), H', ⟨by first | omega | exact Nat.le_refl _⟩, ⟨by (with_reducible repeat (first | refine blk_drewN ?_ _ | refine blk_drew ?_ | refine blk_alloc ?_ _)); exact BK265.out⟩, ⟨by repeat (first | (with_reducible first | exact HB.out | apply below_alloc | apply pw_below_drewN | apply below_drew1 | refine below_set ?_ GE265.out) | exact HB.out)⟩⟩
    · rw [if_neg c5] at H
      have c5b0 : decide (30 < (l0_1.length : Int)) = false := decide_eq_false c5
      have c5b1 : decide (30 < l0_1.length) = false := decide_eq_false (by omega)
      clear c5
      (first | rw [c5b0] | (simp only [i64_w, i32_w]; rw [c5b0]) | skip)
      replace H := Option.bind_eq_some_iff.mp H
      obtain ⟨t266, A70, H⟩ := H
      replace H : (erratumlaw02_NumBack.j0 k a1 (!t266) a0_0 l0_1 a0_2) = some r := H
      have A7 := Aside0.mk A70
      clear A70
      have H' := Aside0.mk H
      clear H
      have hcz8_0 : w4.cell? ⟨gb265, 0, none⟩ = some (.bool a0_0) := (blk_cell BK265.out 0).trans rfl
      have hcz8_1 : w4.cell? ⟨gb265, 1, none⟩ = some (.slice A0_1 l0_1.length c0_1) := (blk_cell BK265.out 1).trans rfl
      have hcz8_2 : w4.cell? ⟨gb265, 2, none⟩ = some (.int .i64 a0_2) := (blk_cell BK265.out 2).trans rfl
      have hfz8_0 := blk_frozen BK265.out 0
      have hfz8_1 := blk_frozen BK265.out 1
      have hfz8_2 := blk_frozen BK265.out 2
      go_wp2_with (first | (go_at_call 13; (with_reducible refine (erratumref02_Check.calls k a0_0 _ _ l0_1 a0_2 t266 _ ?side1 ?side2 A7.out).mono ?_); (case side1 => repeat (first | exact (Kd.C_below HR0_1.out HB.out) | (with_reducible refine Kd.C_alloc ?_ _) | (with_reducible refine Kd.C_drewN ?_ _) | (with_reducible refine Kd.C_drew ?_))); (case side2 => exact HC0_1.out); rintro e w9 ⟨rfl, hb⟩; have n0_ := Aside0.mk (blk_below (g := gb265) (o := .cells #[.bool a0_0, .slice A0_1 l0_1.length c0_1, .int .i64 a0_2] 25 (0, 0)) (by (with_reducible repeat (first | refine blk_drewN ?_ _ | refine blk_drew ?_ | refine blk_alloc ?_ _)); exact BK265.out) hb); have n1_ := Aside0.mk (below_step (by repeat (first | (with_reducible first | exact HB.out | apply below_alloc | apply pw_below_drewN | apply below_drew1 | refine below_set ?_ GE265.out) | exact HB.out)) hb); clear BK265; clear HB; have BK265 := n0_; have HB := n1_; clear n0_ n1_; (try clear hb); (try clear hb2); (try clear hk); (try clear hi)))
      try (any_goals (with_reducible refine halt_absurd ?_; (try simp only [ByteArray.size_extract, ByteArray.size_append, ba_size_mk, List.size_toArray, List.length_cons, List.length_nil] at *) <;> omega))
      go_meet
      case rel => exact ⟨_, (!t266), (by first | rfl | (simp; done) | (simp [*]; done)), H', ⟨by first | omega | exact Nat.le_refl _⟩, ⟨by (with_reducible repeat (first | refine blk_drewN ?_ _ | refine blk_drew ?_ | refine blk_alloc ?_ _)); exact BK265.out⟩, ⟨by repeat (first | (with_reducible first | exact HB.out | apply below_alloc | apply pw_below_drewN | apply below_drew1 | refine below_set ?_ GE265.out) | exact HB.out)⟩⟩
  case rest =>
    clear HC3
    try clear p2
    try clear c4
    try clear c5
    try clear c5b0
    try clear c5b1
    try clear hcz6_0
    try clear hcz6_1
    try clear hcz6_2
    try clear hcz8_0
    try clear hcz8_1
    try clear hcz8_2
    try clear hfz6_0
    try clear hfz6_1
    try clear hfz6_2
    try clear hfz8_0
    try clear hfz8_1
    try clear hfz8_2
    obtain ⟨kq, x26_2, rfl, HA, HJ2, BK265, HB⟩ := hcut
    cases kq with
    | zero => exact absurd HA.out (by simp [erratumlaw02_NumBack.j0])
    | succ kj2 =>
      have H := HA.out
      clear HA
      simp only [erratumlaw02_NumBack.j0] at H
      by_cases c10 : x26_2 = true
      · subst c10
        have H1 : ((erratumlaw02_awake.f kj2).bind fun t267 => (some t267)) = some r := by rw [if_pos rfl] at H; exact H
        clear H
        have H := H1
        clear H1
        replace H := Option.bind_eq_some_iff.mp H
        obtain ⟨t267, A110, H⟩ := H
        replace H : (some t267) = some r := H
        have A11 := Aside0.mk A110
        clear A110
        obtain rfl := Option.some.inj H
        go_wp2_with (first | ((with_reducible refine gate_callee (f := 9) rfl ?_); refine goesL_ (some 27) rfl rfl Tryd.func9 (by kernel_rfl) rfl #[] rfl (by (try simp only [List.map_toArray, List.map_cons, List.map_nil]); first | done | rfl | (simp only [List.length_drop, List.length_take]; rfl)) ?_; (with_reducible refine (erratumlaw02_awake.calls kj2  t267 _ ?side1 A11.out).mono ?_); (case side1 => first | exact hL.out | exact hL.out.drewN _ | exact hL.out.drew | exact hL.out.below (by repeat (first | (with_reducible first | exact HB.out | apply below_alloc | apply pw_below_drewN | apply below_drew1 | refine below_set ?_ GE265.out) | exact HB.out))); rintro e w12 ⟨rfl, hb⟩; refine ⟨_, rfl, ?_⟩; have n0_ := Aside0.mk (blk_below (g := gb265) (o := .cells #[.bool a0_0, .slice A0_1 l0_1.length c0_1, .int .i64 a0_2] 25 (0, 0)) (by (with_reducible repeat (first | refine blk_drewN ?_ _ | refine blk_drew ?_ | refine blk_alloc ?_ _)); exact BK265.out) hb); have n1_ := Aside0.mk (below_step (by repeat (first | (with_reducible first | exact HB.out | apply below_alloc | apply pw_below_drewN | apply below_drew1 | refine below_set ?_ GE265.out) | exact HB.out)) hb); clear BK265; clear HB; have BK265 := n0_; have HB := n1_; clear n0_ n1_; (try clear hb); (try clear hb2); (try clear hk); (try clear hi)))
        try (any_goals (with_reducible refine halt_absurd ?_; (try simp only [ByteArray.size_extract, ByteArray.size_append, ba_size_mk, List.size_toArray, List.length_cons, List.length_nil] at *) <;> omega))
        go_ret
        exact ⟨by first | rfl | (simp [errW_none, errW_some] <;> rfl) | (simp [*, errW_none, errW_some] <;> rfl), by repeat (first | (with_reducible first | exact HB.out | apply below_alloc | apply pw_below_drewN | apply below_drew1 | refine below_set ?_ GE265.out) | exact HB.out)⟩
      · replace c10 := Bool.eq_false_iff.mpr c10
        subst c10
        have H1 : ((num_Text.f kj2 a0_0 l0_1 a0_2).bind fun t268 => ((num_Parse.f kj2 t268).bind fun bt269 => ((erratumlaw00_Place.f a1 40).bind fun t276 => ((erratumref01_Digits.f kj2 l0_1).bind fun t277 => (if a0_0 = true then (erratumlaw02_NumBack.j1 kj2 bt269.2.2.2 t276 t277 (⟨#[45]⟩ : ByteArray) a0_0 l0_1 a0_2 bt269.1 bt269.2.1 bt269.2.2.1) else (erratumlaw02_NumBack.j1 kj2 bt269.2.2.2 t276 t277 (⟨#[]⟩ : ByteArray) a0_0 l0_1 a0_2 bt269.1 bt269.2.1 bt269.2.2.1)))))) = some r := by rw [if_neg (show ¬ (false = true) by decide)] at H; exact H
        clear H
        have H := H1
        clear H1
        replace H := Option.bind_eq_some_iff.mp H
        obtain ⟨t268, A130, H⟩ := H
        replace H : ((num_Parse.f kj2 t268).bind fun bt269 => ((erratumlaw00_Place.f a1 40).bind fun t276 => ((erratumref01_Digits.f kj2 l0_1).bind fun t277 => (if a0_0 = true then (erratumlaw02_NumBack.j1 kj2 bt269.2.2.2 t276 t277 (⟨#[45]⟩ : ByteArray) a0_0 l0_1 a0_2 bt269.1 bt269.2.1 bt269.2.2.1) else (erratumlaw02_NumBack.j1 kj2 bt269.2.2.2 t276 t277 (⟨#[]⟩ : ByteArray) a0_0 l0_1 a0_2 bt269.1 bt269.2.1 bt269.2.2.1))))) = some r := H
        have A13 := Aside0.mk A130
        clear A130
        replace H := Option.bind_eq_some_iff.mp H
        obtain ⟨⟨t269, t270, t273, t274⟩, A140, H⟩ := H
        replace H : ((erratumlaw00_Place.f a1 40).bind fun t276 => ((erratumref01_Digits.f kj2 l0_1).bind fun t277 => (if a0_0 = true then (erratumlaw02_NumBack.j1 kj2 t274 t276 t277 (⟨#[45]⟩ : ByteArray) a0_0 l0_1 a0_2 t269 t270 t273) else (erratumlaw02_NumBack.j1 kj2 t274 t276 t277 (⟨#[]⟩ : ByteArray) a0_0 l0_1 a0_2 t269 t270 t273)))) = some r := H
        have A14 := Aside0.mk A140
        clear A140
        replace H := Option.bind_eq_some_iff.mp H
        obtain ⟨t276, A150, H⟩ := H
        replace H : ((erratumref01_Digits.f kj2 l0_1).bind fun t277 => (if a0_0 = true then (erratumlaw02_NumBack.j1 kj2 t274 t276 t277 (⟨#[45]⟩ : ByteArray) a0_0 l0_1 a0_2 t269 t270 t273) else (erratumlaw02_NumBack.j1 kj2 t274 t276 t277 (⟨#[]⟩ : ByteArray) a0_0 l0_1 a0_2 t269 t270 t273))) = some r := H
        have A15 := Aside0.mk A150
        clear A150
        replace H := Option.bind_eq_some_iff.mp H
        obtain ⟨t277, A160, H⟩ := H
        replace H : (if a0_0 = true then (erratumlaw02_NumBack.j1 kj2 t274 t276 t277 (⟨#[45]⟩ : ByteArray) a0_0 l0_1 a0_2 t269 t270 t273) else (erratumlaw02_NumBack.j1 kj2 t274 t276 t277 (⟨#[]⟩ : ByteArray) a0_0 l0_1 a0_2 t269 t270 t273)) = some r := H
        have A16 := Aside0.mk A160
        clear A160
        have HC17 := Aside0.mk H
        clear H
        have hcz18_0 : wc.cell? ⟨gb265, 0, none⟩ = some (.bool a0_0) := (blk_cell BK265.out 0).trans rfl
        have hcz18_1 : wc.cell? ⟨gb265, 1, none⟩ = some (.slice A0_1 l0_1.length c0_1) := (blk_cell BK265.out 1).trans rfl
        have hcz18_2 : wc.cell? ⟨gb265, 2, none⟩ = some (.int .i64 a0_2) := (blk_cell BK265.out 2).trans rfl
        have hfz18_0 := blk_frozen BK265.out 0
        have hfz18_1 := blk_frozen BK265.out 1
        have hfz18_2 := blk_frozen BK265.out 2
        go_upto_if 41 with (first | ((with_reducible refine gate_callee (f := 14) rfl ?_); refine goesL_ (some 29) rfl rfl Tryd.func14 (by kernel_rfl) rfl #[.agg #[.bool a0_0, .slice A0_1 l0_1.length c0_1, .int .i64 a0_2]] rfl (by (try simp only [List.map_toArray, List.map_cons, List.map_nil]); first | done | rfl | (simp only [List.length_drop, List.length_take]; rfl)) ?_; (with_reducible refine (num_Text.calls kj2 a0_0 _ _ l0_1 a0_2 t268 _ ?side1 ?side2 ?side3 A13.out).mono ?_); (case side1 => first | exact hL.out | exact hL.out.drewN _ | exact hL.out.drew | exact hL.out.below (by repeat (first | (with_reducible first | exact HB.out | apply below_alloc | apply pw_below_drewN | apply below_drew1 | refine below_set ?_ GE265.out) | exact HB.out))); (case side2 => repeat (first | exact (Kd.C_below HR0_1.out HB.out) | (with_reducible refine Kd.C_alloc ?_ _) | (with_reducible refine Kd.C_drewN ?_ _) | (with_reducible refine Kd.C_drew ?_))); (case side3 => exact HC0_1.out); rintro e w19 ⟨rfl, hb⟩; refine ⟨_, rfl, ?_⟩; have n0_ := Aside0.mk (blk_below (g := gb265) (o := .cells #[.bool a0_0, .slice A0_1 l0_1.length c0_1, .int .i64 a0_2] 25 (0, 0)) (by (with_reducible repeat (first | refine blk_drewN ?_ _ | refine blk_drew ?_ | refine blk_alloc ?_ _)); exact BK265.out) hb); have n1_ := Aside0.mk (below_step (by repeat (first | (with_reducible first | exact HB.out | apply below_alloc | apply pw_below_drewN | apply below_drew1 | refine below_set ?_ GE265.out) | exact HB.out)) hb); clear BK265; clear HB; have BK265 := n0_; have HB := n1_; clear n0_ n1_; (try clear hb); (try clear hb2); (try clear hk); (try clear hi)) | ((with_reducible refine gate_callee (f := 10) rfl ?_); refine goesL_ (some 32) rfl rfl Tryd.func10 (by kernel_rfl) rfl #[.string t268] rfl (by (try simp only [List.map_toArray, List.map_cons, List.map_nil]); first | done | rfl | (simp only [List.length_drop, List.length_take]; rfl)) ?_; (with_reducible refine (num_Parse.calls kj2 t268 t269 t270 t273 t274 _ ?side1 A14.out).mono ?_); (case side1 => first | exact hL.out | exact hL.out.drewN _ | exact hL.out.drew | exact hL.out.below (by repeat (first | (with_reducible first | exact HB.out | apply below_alloc | apply pw_below_drewN | apply below_drew1 | refine below_set ?_ GE265.out) | exact HB.out))); rintro e w20 ⟨v271, rfl, ho0, hb⟩; refine ⟨_, rfl, ?_⟩; have n0_ := Aside0.mk (Kd.R_lower ho0 (below_size (by repeat (first | (with_reducible first | exact HB.out | apply below_alloc | apply pw_below_drewN | apply below_drew1 | refine below_set ?_ GE265.out) | exact HB.out)))); have n1_ := Aside0.mk (blk_below (g := gb265) (o := .cells #[.bool a0_0, .slice A0_1 l0_1.length c0_1, .int .i64 a0_2] 25 (0, 0)) (by (with_reducible repeat (first | refine blk_drewN ?_ _ | refine blk_drew ?_ | refine blk_alloc ?_ _)); exact BK265.out) hb); have n2_ := Aside0.mk (below_step (by repeat (first | (with_reducible first | exact HB.out | apply below_alloc | apply pw_below_drewN | apply below_drew1 | refine below_set ?_ GE265.out) | exact HB.out)) hb); clear BK265; clear HB; have HO272 := n0_; have BK265 := n1_; have HB := n2_; clear n0_ n1_ n2_; (try clear hb); (try clear hb2); (try clear hk); (try clear hi); (try clear ho0)) | ((with_reducible refine gate_dst (N := 6) rfl ?_); refine box_event ?hg (N := 6) ?hd (cs := #[.bool false, .slice none 0 0, .int .i64 0]) (t := 25) ?hr ?_; (case hd => rfl); (case hg => rfl); (case hr => first | (go_simp; done) | (go_simp; rfl) | (go_simp; simp only [x_u32u8, x_u8, x_u32, x_u64, x_mm]; first | done | rfl)); intro gb275 hg w21 hbox hb; have n0_ := Aside0.mk (Kd.R_below (by (with_reducible repeat (first | apply Kd.R_alloc | apply Kd.R_drewN | apply Kd.R_drew)); exact HO272.out) hb); have n1_ := Aside0.mk (blk_below (g := gb265) (o := .cells #[.bool a0_0, .slice A0_1 l0_1.length c0_1, .int .i64 a0_2] 25 (0, 0)) (by (with_reducible repeat (first | refine blk_drewN ?_ _ | refine blk_drew ?_ | refine blk_alloc ?_ _)); exact BK265.out) hb); have n2_ := Aside0.mk (below_step (by repeat (first | (with_reducible first | exact HB.out | apply below_alloc | apply pw_below_drewN | apply below_drew1 | refine below_set ?_ GE265.out) | exact HB.out)) hb); have n3_ := Aside0.mk (hbox); have n4_ := Aside0.mk ((by rw [hg]; exact (below_size (by repeat (first | (with_reducible first | exact HB.out | apply below_alloc | apply pw_below_drewN | apply below_drew1 | refine below_set ?_ GE265.out) | exact HB.out))) : w.heap.size ≤ gb275)); have n5_ := Aside0.mk ((by rw [hg]; exact (below_size (by repeat (first | (with_reducible first | exact HB.out | apply below_alloc | apply pw_below_drewN | apply below_drew1 | refine below_set ?_ GE265.out) | exact HB.out))) : w.heap.size ≤ gb275)); have n6_ := Aside0.mk ((by rw [hg]; exact Nat.ne_of_lt (blk_lt (g := gb265) (o := .cells #[.bool a0_0, .slice A0_1 l0_1.length c0_1, .int .i64 a0_2] 25 (0, 0)) (by (with_reducible repeat (first | refine blk_drewN ?_ _ | refine blk_drew ?_ | refine blk_alloc ?_ _)); exact BK265.out)) : gb265 ≠ gb275)); have n7_ := Aside0.mk ((by rw [hg]; exact Nat.ne_of_gt (blk_lt (g := gb265) (o := .cells #[.bool a0_0, .slice A0_1 l0_1.length c0_1, .int .i64 a0_2] 25 (0, 0)) (by (with_reducible repeat (first | refine blk_drewN ?_ _ | refine blk_drew ?_ | refine blk_alloc ?_ _)); exact BK265.out)) : gb275 ≠ gb265)); clear HO272; clear BK265; clear HB; have HO272 := n0_; have BK265 := n1_; have HB := n2_; have BK275 := n3_; have GW275 := n4_; have GE275 := n5_; have NB265_275 := n6_; have NB275_265 := n7_; clear n0_ n1_ n2_ n3_ n4_ n5_ n6_ n7_; clear hb hbox hg; have hnb22 := NB275_265.out; have hnc22 := NB265_275.out; have hcz23_0 : w21.cell? ⟨gb275, 0, none⟩ = some (.bool false) := (blk_cell BK275.out 0).trans rfl; have hcz23_1 : w21.cell? ⟨gb275, 1, none⟩ = some (.slice none 0 0) := (blk_cell BK275.out 1).trans rfl; have hcz23_2 : w21.cell? ⟨gb275, 2, none⟩ = some (.int .i64 0) := (blk_cell BK275.out 2).trans rfl; have hfz23_0 := blk_frozen BK275.out 0; have hfz23_1 := blk_frozen BK275.out 1; have hfz23_2 := blk_frozen BK275.out 2; obtain ⟨Ao24, co24, eo24⟩ := Kd.R_slice HO272.out; subst eo24) | ((with_reducible refine gate_callee (f := 15) rfl ?_); refine goesL_ (some 36) rfl rfl Tryd.func15 (by kernel_rfl) rfl #[.int .i64 a1, .int .i64 40] rfl (by (try simp only [List.map_toArray, List.map_cons, List.map_nil]); first | done | rfl | (simp only [List.length_drop, List.length_take]; rfl)) ?_; (with_reducible refine (erratumlaw00_Place.calls a1 40 t276 _ A15.out).mono ?_); rintro e w' ⟨rfl, ⟨nd, rfl⟩⟩; refine ⟨_, rfl, ?_⟩; have hcz25_0 : w21.cell? ⟨gb265, 0, none⟩ = some (.bool a0_0) := (blk_cell BK265.out 0).trans rfl; have hcz25_1 : w21.cell? ⟨gb265, 1, none⟩ = some (.slice A0_1 l0_1.length c0_1) := (blk_cell BK265.out 1).trans rfl; have hcz25_2 : w21.cell? ⟨gb265, 2, none⟩ = some (.int .i64 a0_2) := (blk_cell BK265.out 2).trans rfl; have hfz25_0 := blk_frozen BK265.out 0; have hfz25_1 := blk_frozen BK265.out 1; have hfz25_2 := blk_frozen BK265.out 2) | ((with_reducible refine gate_callee (f := 16) rfl ?_); refine goesL_ (some 39) rfl rfl Tryd.func16 (by kernel_rfl) rfl #[.slice A0_1 l0_1.length c0_1] rfl (by (try simp only [List.map_toArray, List.map_cons, List.map_nil]); first | done | rfl | (simp only [List.length_drop, List.length_take]; rfl)) ?_; (with_reducible refine (erratumref01_Digits.calls kj2 _ _ l0_1 t277 _ ?side1 ?side2 A16.out).mono ?_); (case side1 => exact Kd.C_below HR0_1.out (by repeat (first | (with_reducible first | exact HB.out | apply below_alloc | apply pw_below_drewN | apply below_drew1 | refine below_set ?_ GE265.out | refine below_set ?_ GE275.out) | exact HB.out))); (case side2 => exact HC0_1.out); rintro e w26 ⟨rfl, hb⟩; refine ⟨_, rfl, ?_⟩; have n0_ := Aside0.mk (Kd.R_below (by (with_reducible repeat (first | apply Kd.R_alloc | apply Kd.R_drewN | apply Kd.R_drew)); exact (Kd.R_mono (Kd.R_far (p := ⟨gb275, 2, none⟩) (Kd.R_far (p := ⟨gb275, 1, none⟩) (Kd.R_far (p := ⟨gb275, 0, none⟩) (Kd.R_types HO272.out BK275.out (by decide)) (fun _ hk => hk.2) (.bool t269)) (fun _ hk => hk.2) (.slice Ao24 t270.length co24)) (fun _ hk => hk.2) (.int .i64 t273)) (fun _ h_ => h_.1))) hb); have n1_ := Aside0.mk (blk_below (g := gb265) (o := .cells #[.bool a0_0, .slice A0_1 l0_1.length c0_1, .int .i64 a0_2] 25 (0, 0)) (by (with_reducible repeat (first | refine blk_drewN ?_ _ | refine blk_drew ?_ | refine blk_alloc ?_ _)); refine blk_far ?_ NB265_275.out _; (with_reducible repeat (first | refine blk_drewN ?_ _ | refine blk_drew ?_ | refine blk_alloc ?_ _)); refine blk_far ?_ NB265_275.out _; (with_reducible repeat (first | refine blk_drewN ?_ _ | refine blk_drew ?_ | refine blk_alloc ?_ _)); refine blk_far ?_ NB265_275.out _; (with_reducible repeat (first | refine blk_drewN ?_ _ | refine blk_drew ?_ | refine blk_alloc ?_ _)); exact BK265.out) hb); have n2_ := Aside0.mk (blk_below (g := gb275) (o := .cells #[.bool t269, .slice Ao24 t270.length co24, .int .i64 t273] 25 (0, 0)) (by (with_reducible repeat (first | refine blk_drewN ?_ _ | refine blk_drew ?_ | refine blk_alloc ?_ _)); refine blk_put (cs := #[.bool t269, .slice Ao24 t270.length co24, .int .i64 0]) ?_ 2 _ rfl; (with_reducible repeat (first | refine blk_drewN ?_ _ | refine blk_drew ?_ | refine blk_alloc ?_ _)); refine blk_put (cs := #[.bool t269, .slice none 0 0, .int .i64 0]) ?_ 1 _ rfl; (with_reducible repeat (first | refine blk_drewN ?_ _ | refine blk_drew ?_ | refine blk_alloc ?_ _)); refine blk_put (cs := #[.bool false, .slice none 0 0, .int .i64 0]) ?_ 0 _ rfl; (with_reducible repeat (first | refine blk_drewN ?_ _ | refine blk_drew ?_ | refine blk_alloc ?_ _)); exact BK275.out) hb); have n3_ := Aside0.mk (below_step (by repeat (first | (with_reducible first | exact HB.out | apply below_alloc | apply pw_below_drewN | apply below_drew1 | refine below_set ?_ GE265.out | refine below_set ?_ GE275.out) | exact HB.out)) hb); clear HO272; clear BK265; clear BK275; clear HB; have HO272 := n0_; have BK265 := n1_; have BK275 := n2_; have HB := n3_; clear n0_ n1_ n2_ n3_; (try clear hb); (try clear hb2); (try clear hk); (try clear hi); have hcz27_0 : w26.cell? ⟨gb265, 0, none⟩ = some (.bool a0_0) := (blk_cell BK265.out 0).trans rfl; have hcz27_1 : w26.cell? ⟨gb265, 1, none⟩ = some (.slice A0_1 l0_1.length c0_1) := (blk_cell BK265.out 1).trans rfl; have hcz27_2 : w26.cell? ⟨gb265, 2, none⟩ = some (.int .i64 a0_2) := (blk_cell BK265.out 2).trans rfl; have hfz27_0 := blk_frozen BK265.out 0; have hfz27_1 := blk_frozen BK265.out 1; have hfz27_2 := blk_frozen BK265.out 2))
        try (any_goals (with_reducible refine halt_absurd ?_; (try simp only [ByteArray.size_extract, ByteArray.size_append, ba_size_mk, List.size_toArray, List.length_cons, List.length_nil] at *) <;> omega))
        (try simp only [Act.put, List.setIfInBounds_toArray, List.set_cons_zero, List.set_cons_succ])
        go_cut [10] (fun v10 wc => ∃ (kq : Nat) (x10_16 : ByteArray), v10 = .string x10_16 ∧ Aside0 (erratumlaw02_NumBack.j1 kq t274 t276 t277 x10_16 a0_0 l0_1 a0_2 t269 t270 t273 = some r) ∧ Aside0 (kq ≤ kj2) ∧ Aside0 (Kd.R (Kd.int .u32) 40 wc w.heap.size (fun _ => True) (.slice Ao24 t270.length co24) t270) ∧ Aside0 (wc.heap[gb265]? = some (.cells #[.bool a0_0, (.slice A0_1 l0_1.length c0_1), .int .i64 a0_2] 25 (0, 0))) ∧ Aside0 (wc.heap[gb275]? = some (.cells #[.bool t269, (.slice Ao24 t270.length co24), .int .i64 t273] 25 (0, 0))) ∧ Aside0 (Below w.heap.size w wc))
        case first =>
          have H := HC17.out
          clear HC17
          by_cases c28 : a0_0 = true
          · subst c28
            have H1 : (erratumlaw02_NumBack.j1 kj2 t274 t276 t277 (⟨#[45]⟩ : ByteArray) true l0_1 a0_2 t269 t270 t273) = some r := by rw [if_pos rfl] at H; exact H
            clear H
            have H := H1
            clear H1
            have H' := Aside0.mk H
            clear H
            go_wp2
            try (any_goals (with_reducible refine halt_absurd ?_; (try simp only [ByteArray.size_extract, ByteArray.size_append, ba_size_mk, List.size_toArray, List.length_cons, List.length_nil] at *) <;> omega))
            go_meet
            case rel => exact ⟨_, ((⟨#[45]⟩ : ByteArray)), (by first | rfl | (simp; done) | (simp [*]; done)), H', ⟨by have := HJ2.out; first | omega | exact Nat.le_refl _⟩, ⟨by (with_reducible repeat (first | apply Kd.R_alloc | apply Kd.R_drewN | apply Kd.R_drew)); exact HO272.out⟩, ⟨by (with_reducible repeat (first | refine blk_drewN ?_ _ | refine blk_drew ?_ | refine blk_alloc ?_ _)); exact BK265.out⟩, ⟨by (with_reducible repeat (first | refine blk_drewN ?_ _ | refine blk_drew ?_ | refine blk_alloc ?_ _)); exact BK275.out⟩, ⟨by repeat (first | (with_reducible first | exact HB.out | apply below_alloc | apply pw_below_drewN | apply below_drew1 | refine below_set ?_ GE265.out | refine below_set ?_ GE275.out) | exact HB.out)⟩⟩
          · replace c28 := Bool.eq_false_iff.mpr c28
            subst c28
            have H1 : (erratumlaw02_NumBack.j1 kj2 t274 t276 t277 (⟨#[]⟩ : ByteArray) false l0_1 a0_2 t269 t270 t273) = some r := by rw [if_neg (show ¬ (false = true) by decide)] at H; exact H
            clear H
            have H := H1
            clear H1
            have H' := Aside0.mk H
            clear H
            go_wp2
            try (any_goals (with_reducible refine halt_absurd ?_; (try simp only [ByteArray.size_extract, ByteArray.size_append, ba_size_mk, List.size_toArray, List.length_cons, List.length_nil] at *) <;> omega))
            go_meet
            case rel => exact ⟨_, ((⟨#[]⟩ : ByteArray)), (by first | rfl | (simp; done) | (simp [*]; done)), H', ⟨by have := HJ2.out; first | omega | exact Nat.le_refl _⟩, ⟨by (with_reducible repeat (first | apply Kd.R_alloc | apply Kd.R_drewN | apply Kd.R_drew)); exact HO272.out⟩, ⟨by (with_reducible repeat (first | refine blk_drewN ?_ _ | refine blk_drew ?_ | refine blk_alloc ?_ _)); exact BK265.out⟩, ⟨by (with_reducible repeat (first | refine blk_drewN ?_ _ | refine blk_drew ?_ | refine blk_alloc ?_ _)); exact BK275.out⟩, ⟨by repeat (first | (with_reducible first | exact HB.out | apply below_alloc | apply pw_below_drewN | apply below_drew1 | refine below_set ?_ GE265.out | refine below_set ?_ GE275.out) | exact HB.out)⟩⟩
        case rest =>
          clear HC17
          try clear c1
          try clear c2
          try clear p2
          try clear c4
          try clear c5
          try clear c5b0
          try clear c5b1
          try clear c9
          try clear c10
          try clear c14
          try clear c15
          try clear c16
          try clear c22
          try clear c28
          try clear hcz18_0
          try clear hcz18_1
          try clear hcz18_2
          try clear hcz23_0
          try clear hcz23_1
          try clear hcz23_2
          try clear hcz25_0
          try clear hcz25_1
          try clear hcz25_2
          try clear hcz27_0
          try clear hcz27_1
          try clear hcz27_2
          try clear hcz6_0
          try clear hcz6_1
          try clear hcz6_2
          try clear hcz8_0
          try clear hcz8_1
          try clear hcz8_2
          try clear hfz18_0
          try clear hfz18_1
          try clear hfz18_2
          try clear hfz23_0
          try clear hfz23_1
          try clear hfz23_2
          try clear hfz25_0
          try clear hfz25_1
          try clear hfz25_2
          try clear hfz27_0
          try clear hfz27_1
          try clear hfz27_2
          try clear hfz6_0
          try clear hfz6_1
          try clear hfz6_2
          try clear hfz8_0
          try clear hfz8_1
          try clear hfz8_2
          try clear p2
          obtain ⟨kq, x10_16, rfl, HA, HJ16, HO_276001, BK265, BK275, HB⟩ := hcut
          cases kq with
          | zero => exact absurd HA.out (by simp [erratumlaw02_NumBack.j1])
          | succ kj16 =>
            have H := HA.out
            clear HA
            simp only [erratumlaw02_NumBack.j1] at H
            have H' := Aside0.mk H
            clear H
            go_wp2
            try (any_goals (with_reducible refine halt_absurd ?_; (try simp only [ByteArray.size_extract, ByteArray.size_append, ba_size_mk, List.size_toArray, List.length_cons, List.length_nil] at *) <;> omega))
            go_loopg [11, 12] kj16 (fun kq v11 v12 w' => ∃ (x11_3 : ByteArray) (x12_3 : Int), v11 = .string x11_3 ∧ v12 = .int .i64 x12_3 ∧ Aside0 (erratumlaw02_NumBack.l0 kq t274 t276 t277 x10_16 x11_3 x12_3 a0_0 l0_1 a0_2 t269 t270 t273 = some r) ∧ Aside0 (kq ≤ kj16) ∧ Aside0 (Kd.R (Kd.int .u32) 40 w' w.heap.size (fun _ => True) (.slice Ao24 t270.length co24) t270) ∧ Aside0 (w'.heap[gb265]? = some (.cells #[.bool a0_0, (.slice A0_1 l0_1.length c0_1), .int .i64 a0_2] 25 (0, 0))) ∧ Aside0 (w'.heap[gb275]? = some (.cells #[.bool t269, (.slice Ao24 t270.length co24), .int .i64 t273] 25 (0, 0))) ∧ Aside0 (Below w.heap.size w w'))
            case atStart => exact ⟨((⟨#[]⟩ : ByteArray)), (0), (by first | rfl | (simp; done) | (simp [*]; done)), (by first | rfl | (simp; done) | (simp [*]; done)), H', ⟨Nat.le_refl _⟩, ⟨by (with_reducible repeat (first | apply Kd.R_alloc | apply Kd.R_drewN | apply Kd.R_drew)); exact HO_276001.out⟩, ⟨by (with_reducible repeat (first | refine blk_drewN ?_ _ | refine blk_drew ?_ | refine blk_alloc ?_ _)); exact BK265.out⟩, ⟨by (with_reducible repeat (first | refine blk_drewN ?_ _ | refine blk_drew ?_ | refine blk_alloc ?_ _)); exact BK275.out⟩, ⟨by repeat (first | (with_reducible first | exact HB.out | apply below_alloc | apply pw_below_drewN | apply below_drew1 | refine below_set ?_ GE265.out | refine below_set ?_ GE275.out) | exact HB.out)⟩⟩
            case round =>
              clear H'
              try clear c1
              try clear c2
              try clear p2
              try clear c4
              try clear c5
              try clear c5b0
              try clear c5b1
              try clear c9
              try clear c10
              try clear c14
              try clear c15
              try clear c16
              try clear c22
              try clear c28
              try clear hcz18_0
              try clear hcz18_1
              try clear hcz18_2
              try clear hcz23_0
              try clear hcz23_1
              try clear hcz23_2
              try clear hcz25_0
              try clear hcz25_1
              try clear hcz25_2
              try clear hcz27_0
              try clear hcz27_1
              try clear hcz27_2
              try clear hcz6_0
              try clear hcz6_1
              try clear hcz6_2
              try clear hcz8_0
              try clear hcz8_1
              try clear hcz8_2
              try clear hfz18_0
              try clear hfz18_1
              try clear hfz18_2
              try clear hfz23_0
              try clear hfz23_1
              try clear hfz23_2
              try clear hfz25_0
              try clear hfz25_1
              try clear hfz25_2
              try clear hfz27_0
              try clear hfz27_1
              try clear hfz27_2
              try clear hfz6_0
              try clear hfz6_1
              try clear hfz6_2
              try clear hfz8_0
              try clear hfz8_1
              try clear hfz8_2
              try clear p2
              obtain ⟨x11_3, x12_3, rfl, rfl, HA, HK3, HO_276001, BK265, BK275, HB⟩ := hrel
              cases gk with
              | zero => exact absurd HA.out (by simp [erratumlaw02_NumBack.l0])
              | succ k3 =>
                have H := HA.out
                clear HA
                simp only [erratumlaw02_NumBack.l0] at H
                by_cases c29 : x12_3 < t276
                · rw [if_pos c29] at H
                  have c29b0 : decide (x12_3 < t276) = true := decide_eq_true c29
                  clear c29
                  by_cases c30 : x11_3.size + 1 ≤ 9223372036854775807
                  · rw [if_pos c30] at H
                    have c30b0 := eq_true c30
                    have c30b1 : decide (x11_3.size + 1 ≤ 9223372036854775807) = true := decide_eq_true c30
                    try have c30b2 : (9223372036854775807 < x11_3.size + 1) = False := eq_false (Nat.not_lt.2 c30)
                    have H' := Aside0.mk H
                    clear H
                    go_wp2
                    try (any_goals (with_reducible refine halt_absurd ?_; (try simp only [ByteArray.size_extract, ByteArray.size_append, ba_size_mk, List.size_toArray, List.length_cons, List.length_nil] at *) <;> omega))
                    go_roundg k3
                    case measure => have := HJ2.out; have := HJ16.out; have := HK3.out; omega
                    case rel => exact ⟨(x11_3 ++ (⟨#[48]⟩ : ByteArray)), (wrap64 (x12_3 + 1)), (by first | rfl | (simp; done) | (simp [*]; done)), (by first | rfl | (simp; done) | (simp [*]; done)), H', ⟨by have := HJ2.out; have := HJ16.out; have := HK3.out; omega⟩, ⟨by (with_reducible repeat (first | apply Kd.R_alloc | apply Kd.R_drewN | apply Kd.R_drew)); exact HO_276001.out⟩, ⟨by (with_reducible repeat (first | refine blk_drewN ?_ _ | refine blk_drew ?_ | refine blk_alloc ?_ _)); exact BK265.out⟩, ⟨by (with_reducible repeat (first | refine blk_drewN ?_ _ | refine blk_drew ?_ | refine blk_alloc ?_ _)); exact BK275.out⟩, ⟨by repeat (first | (with_reducible first | exact HB.out | apply below_alloc | apply pw_below_drewN | apply below_drew1 | refine below_set ?_ GE265.out | refine below_set ?_ GE275.out) | exact HB.out)⟩⟩
                  · rw [if_neg c30] at H
                    exact absurd H (by simp)
                · rw [if_neg c29] at H
                  have c29b0 : decide (x12_3 < t276) = false := decide_eq_false c29
                  clear c29
                  by_cases c31 : x10_16.size + t277.size ≤ 9223372036854775807
                  · rw [if_pos c31] at H
                    have c31b0 := eq_true c31
                    have c31b1 : decide (x10_16.size + t277.size ≤ 9223372036854775807) = true := decide_eq_true c31
                    try have c31b2 : (9223372036854775807 < x10_16.size + t277.size) = False := eq_false (Nat.not_lt.2 c31)
                    by_cases c32 : (x10_16 ++ t277).size + 1 ≤ 9223372036854775807
                    · rw [if_pos c32] at H
                      have c32b0 := eq_true c32
                      have c32b1 : decide ((x10_16 ++ t277).size + 1 ≤ 9223372036854775807) = true := decide_eq_true c32
                      try have c32b2 : (9223372036854775807 < (x10_16 ++ t277).size + 1) = False := eq_false (Nat.not_lt.2 c32)
                      by_cases c33 : ((x10_16 ++ t277) ++ (⟨#[46]⟩ : ByteArray)).size + x11_3.size ≤ 9223372036854775807
                      · rw [if_pos c33] at H
                        have c33b0 := eq_true c33
                        have c33b1 : decide (((x10_16 ++ t277) ++ (⟨#[46]⟩ : ByteArray)).size + x11_3.size ≤ 9223372036854775807) = true := decide_eq_true c33
                        try have c33b2 : (9223372036854775807 < ((x10_16 ++ t277) ++ (⟨#[46]⟩ : ByteArray)).size + x11_3.size) = False := eq_false (Nat.not_lt.2 c33)
                        by_cases c34 : (((x10_16 ++ t277) ++ (⟨#[46]⟩ : ByteArray)) ++ x11_3).size + 2 ≤ 9223372036854775807
                        · rw [if_pos c34] at H
                          have c34b0 := eq_true c34
                          have c34b1 : decide ((((x10_16 ++ t277) ++ (⟨#[46]⟩ : ByteArray)) ++ x11_3).size + 2 ≤ 9223372036854775807) = true := decide_eq_true c34
                          try have c34b2 : (9223372036854775807 < (((x10_16 ++ t277) ++ (⟨#[46]⟩ : ByteArray)) ++ x11_3).size + 2) = False := eq_false (Nat.not_lt.2 c34)
                          replace H := Option.bind_eq_some_iff.mp H
                          obtain ⟨t278, A350, H⟩ := H
                          replace H : (if ((((x10_16 ++ t277) ++ (⟨#[46]⟩ : ByteArray)) ++ x11_3) ++ (⟨#[48, 101]⟩ : ByteArray)).size + t278.size ≤ 9223372036854775807 then ((num_Parse.f k3 (((((x10_16 ++ t277) ++ (⟨#[46]⟩ : ByteArray)) ++ x11_3) ++ (⟨#[48, 101]⟩ : ByteArray)) ++ t278)).bind fun bt279 => (if (l0_1.length : Int) = 0 then (erratumlaw02_NumBack.j3 k3 t274 0 t277 x10_16 (⟨#[]⟩ : ByteArray) bt279.2.2.2 a0_0 l0_1 a0_2 t269 t270 t273 bt279.1 bt279.2.1 bt279.2.2.1) else (erratumlaw02_NumBack.j3 k3 t274 t276 t277 x10_16 x11_3 bt279.2.2.2 a0_0 l0_1 a0_2 t269 t270 t273 bt279.1 bt279.2.1 bt279.2.2.1))) else (none)) = some r := H
                          have A35 := Aside0.mk A350
                          clear A350
                          by_cases c36 : ((((x10_16 ++ t277) ++ (⟨#[46]⟩ : ByteArray)) ++ x11_3) ++ (⟨#[48, 101]⟩ : ByteArray)).size + t278.size ≤ 9223372036854775807
                          · rw [if_pos c36] at H
                            have c36b0 := eq_true c36
                            have c36b1 : decide (((((x10_16 ++ t277) ++ (⟨#[46]⟩ : ByteArray)) ++ x11_3) ++ (⟨#[48, 101]⟩ : ByteArray)).size + t278.size ≤ 9223372036854775807) = true := decide_eq_true c36
                            try have c36b2 : (9223372036854775807 < ((((x10_16 ++ t277) ++ (⟨#[46]⟩ : ByteArray)) ++ x11_3) ++ (⟨#[48, 101]⟩ : ByteArray)).size + t278.size) = False := eq_false (Nat.not_lt.2 c36)
                            replace H := Option.bind_eq_some_iff.mp H
                            obtain ⟨⟨t279, t280, t283, t284⟩, A370, H⟩ := H
                            replace H : (if (l0_1.length : Int) = 0 then (erratumlaw02_NumBack.j3 k3 t274 0 t277 x10_16 (⟨#[]⟩ : ByteArray) t284 a0_0 l0_1 a0_2 t269 t270 t273 t279 t280 t283) else (erratumlaw02_NumBack.j3 k3 t274 t276 t277 x10_16 x11_3 t284 a0_0 l0_1 a0_2 t269 t270 t273 t279 t280 t283)) = some r := H
                            have A37 := Aside0.mk A370
                            clear A370
                            have HC38 := Aside0.mk H
                            clear H
                            have hnb39 := NB265_275.out
                            have hnc39 := NB275_265.out
                            have hcz40_0 : wr.cell? ⟨gb265, 0, none⟩ = some (.bool a0_0) := (blk_cell BK265.out 0).trans rfl
                            have hcz40_1 : wr.cell? ⟨gb265, 1, none⟩ = some (.slice A0_1 l0_1.length c0_1) := (blk_cell BK265.out 1).trans rfl
                            have hcz40_2 : wr.cell? ⟨gb265, 2, none⟩ = some (.int .i64 a0_2) := (blk_cell BK265.out 2).trans rfl
                            have hfz40_0 := blk_frozen BK265.out 0
                            have hfz40_1 := blk_frozen BK265.out 1
                            have hfz40_2 := blk_frozen BK265.out 2
                            go_upto_if 67 with (first | ((with_reducible refine gate_callee (f := 17) rfl ?_); refine goesL_ (some 59) rfl rfl Tryd.func17 (by kernel_rfl) rfl #[.int .i64 a0_2] rfl (by (try simp only [List.map_toArray, List.map_cons, List.map_nil]); first | done | rfl | (simp only [List.length_drop, List.length_take]; rfl)) ?_; (with_reducible refine (erratumlaw02_text.calls k3 a0_2 t278 _ A35.out).mono ?_); rintro e w41 ⟨rfl, hb⟩; refine ⟨_, rfl, ?_⟩; have n0_ := Aside0.mk (Kd.R_below (by (with_reducible repeat (first | apply Kd.R_alloc | apply Kd.R_drewN | apply Kd.R_drew)); exact HO_276001.out) hb); have n1_ := Aside0.mk (blk_below (g := gb265) (o := .cells #[.bool a0_0, .slice A0_1 l0_1.length c0_1, .int .i64 a0_2] 25 (0, 0)) (by (with_reducible repeat (first | refine blk_drewN ?_ _ | refine blk_drew ?_ | refine blk_alloc ?_ _)); exact BK265.out) hb); have n2_ := Aside0.mk (blk_below (g := gb275) (o := .cells #[.bool t269, .slice Ao24 t270.length co24, .int .i64 t273] 25 (0, 0)) (by (with_reducible repeat (first | refine blk_drewN ?_ _ | refine blk_drew ?_ | refine blk_alloc ?_ _)); exact BK275.out) hb); have n3_ := Aside0.mk (below_step (by repeat (first | (with_reducible first | exact HB.out | apply below_alloc | apply pw_below_drewN | apply below_drew1 | refine below_set ?_ GE265.out | refine below_set ?_ GE275.out) | exact HB.out)) hb); clear HO_276001; clear BK265; clear BK275; clear HB; have HO_276001 := n0_; have BK265 := n1_; have BK275 := n2_; have HB := n3_; clear n0_ n1_ n2_ n3_; (try clear hb); (try clear hb2); (try clear hk); (try clear hi)) | ((with_reducible refine gate_callee (f := 10) rfl ?_); refine goesL_ (some 61) rfl rfl Tryd.func10 (by kernel_rfl) rfl #[.string (((((x10_16 ++ t277) ++ (⟨#[46]⟩ : ByteArray)) ++ x11_3) ++ (⟨#[48, 101]⟩ : ByteArray)) ++ t278)] rfl (by (try simp only [List.map_toArray, List.map_cons, List.map_nil]); first | done | rfl | (simp only [List.length_drop, List.length_take]; rfl)) ?_; (with_reducible refine (num_Parse.calls k3 (((((x10_16 ++ t277) ++ (⟨#[46]⟩ : ByteArray)) ++ x11_3) ++ (⟨#[48, 101]⟩ : ByteArray)) ++ t278) t279 t280 t283 t284 _ ?side1 A37.out).mono ?_); (case side1 => first | exact hL.out | exact hL.out.drewN _ | exact hL.out.drew | exact hL.out.below (by repeat (first | (with_reducible first | exact HB.out | apply below_alloc | apply pw_below_drewN | apply below_drew1 | refine below_set ?_ GE265.out | refine below_set ?_ GE275.out) | exact HB.out))); rintro e w42 ⟨v281, rfl, ho0, hb⟩; refine ⟨_, rfl, ?_⟩; have n0_ := Aside0.mk (Kd.R_elder' (by (with_reducible repeat (first | apply Kd.R_alloc | apply Kd.R_drewN | apply Kd.R_drew)); exact HO_276001.out) (Kd.R_base ho0) hb); have n1_ := Aside0.mk (Kd.R_lower (Kd.R_new' ho0 (Kd.R_lt (by (with_reducible repeat (first | apply Kd.R_alloc | apply Kd.R_drewN | apply Kd.R_drew)); exact HO_276001.out))) (below_size (by repeat (first | (with_reducible first | exact HB.out | apply below_alloc | apply pw_below_drewN | apply below_drew1 | refine below_set ?_ GE265.out | refine below_set ?_ GE275.out) | exact HB.out)))); have n2_ := Aside0.mk (blk_below (g := gb265) (o := .cells #[.bool a0_0, .slice A0_1 l0_1.length c0_1, .int .i64 a0_2] 25 (0, 0)) (by (with_reducible repeat (first | refine blk_drewN ?_ _ | refine blk_drew ?_ | refine blk_alloc ?_ _)); exact BK265.out) hb); have n3_ := Aside0.mk (blk_below (g := gb275) (o := .cells #[.bool t269, .slice Ao24 t270.length co24, .int .i64 t273] 25 (0, 0)) (by (with_reducible repeat (first | refine blk_drewN ?_ _ | refine blk_drew ?_ | refine blk_alloc ?_ _)); exact BK275.out) hb); have n4_ := Aside0.mk (below_step (by repeat (first | (with_reducible first | exact HB.out | apply below_alloc | apply pw_below_drewN | apply below_drew1 | refine below_set ?_ GE265.out | refine below_set ?_ GE275.out) | exact HB.out)) hb); clear HO_276001; clear BK265; clear BK275; clear HB; have HO_276001 := n0_; have HO282 := n1_; have BK265 := n2_; have BK275 := n3_; have HB := n4_; clear n0_ n1_ n2_ n3_ n4_; (try clear hb); (try clear hb2); (try clear hk); (try clear hi); (try clear ho0)) | ((with_reducible refine gate_dst (N := 13) rfl ?_); refine box_event ?hg (N := 13) ?hd (cs := #[.bool false, .slice none 0 0, .int .i64 0]) (t := 25) ?hr ?_; (case hd => rfl); (case hg => rfl); (case hr => first | (go_simp; done) | (go_simp; rfl) | (go_simp; simp only [x_u32u8, x_u8, x_u32, x_u64, x_mm]; first | done | rfl)); intro gb285 hg w43 hbox hb; have n0_ := Aside0.mk (Kd.R_below (by (with_reducible repeat (first | apply Kd.R_alloc | apply Kd.R_drewN | apply Kd.R_drew)); exact HO_276001.out) hb); have n1_ := Aside0.mk (Kd.R_below (by (with_reducible repeat (first | apply Kd.R_alloc | apply Kd.R_drewN | apply Kd.R_drew)); exact HO282.out) hb); have n2_ := Aside0.mk (blk_below (g := gb265) (o := .cells #[.bool a0_0, .slice A0_1 l0_1.length c0_1, .int .i64 a0_2] 25 (0, 0)) (by (with_reducible repeat (first | refine blk_drewN ?_ _ | refine blk_drew ?_ | refine blk_alloc ?_ _)); exact BK265.out) hb); have n3_ := Aside0.mk (blk_below (g := gb275) (o := .cells #[.bool t269, .slice Ao24 t270.length co24, .int .i64 t273] 25 (0, 0)) (by (with_reducible repeat (first | refine blk_drewN ?_ _ | refine blk_drew ?_ | refine blk_alloc ?_ _)); exact BK275.out) hb); have n4_ := Aside0.mk (below_step (by repeat (first | (with_reducible first | exact HB.out | apply below_alloc | apply pw_below_drewN | apply below_drew1 | refine below_set ?_ GE265.out | refine below_set ?_ GE275.out) | exact HB.out)) hb); have n5_ := Aside0.mk (hbox); have n6_ := Aside0.mk ((by rw [hg]; exact (below_size (by repeat (first | (with_reducible first | exact HB.out | apply below_alloc | apply pw_below_drewN | apply below_drew1 | refine below_set ?_ GE265.out | refine below_set ?_ GE275.out) | exact HB.out))) : w.heap.size ≤ gb285)); have n7_ := Aside0.mk ((by rw [hg]; exact (below_size (by repeat (first | (with_reducible first | exact HB.out | apply below_alloc | apply pw_below_drewN | apply below_drew1 | refine below_set ?_ GE265.out | refine below_set ?_ GE275.out) | exact HB.out))) : w.heap.size ≤ gb285)); have n8_ := Aside0.mk ((by rw [hg]; exact Nat.ne_of_lt (blk_lt (g := gb265) (o := .cells #[.bool a0_0, .slice A0_1 l0_1.length c0_1, .int .i64 a0_2] 25 (0, 0)) (by (with_reducible repeat (first | refine blk_drewN ?_ _ | refine blk_drew ?_ | refine blk_alloc ?_ _)); exact BK265.out)) : gb265 ≠ gb285)); have n9_ := Aside0.mk ((by rw [hg]; exact Nat.ne_of_gt (blk_lt (g := gb265) (o := .cells #[.bool a0_0, .slice A0_1 l0_1.length c0_1, .int .i64 a0_2] 25 (0, 0)) (by (with_reducible repeat (first | refine blk_drewN ?_ _ | refine blk_drew ?_ | refine blk_alloc ?_ _)); exact BK265.out)) : gb285 ≠ gb265)); have n10_ := Aside0.mk ((by rw [hg]; exact Nat.ne_of_lt (blk_lt (g := gb275) (o := .cells #[.bool t269, .slice Ao24 t270.length co24, .int .i64 t273] 25 (0, 0)) (by (with_reducible repeat (first | refine blk_drewN ?_ _ | refine blk_drew ?_ | refine blk_alloc ?_ _)); exact BK275.out)) : gb275 ≠ gb285)); have n11_ := Aside0.mk ((by rw [hg]; exact Nat.ne_of_gt (blk_lt (g := gb275) (o := .cells #[.bool t269, .slice Ao24 t270.length co24, .int .i64 t273] 25 (0, 0)) (by (with_reducible repeat (first | refine blk_drewN ?_ _ | refine blk_drew ?_ | refine blk_alloc ?_ _)); exact BK275.out)) : gb285 ≠ gb275)); clear HO_276001; clear HO282; clear BK265; clear BK275; clear HB; have HO_276001 := n0_; have HO282 := n1_; have BK265 := n2_; have BK275 := n3_; have HB := n4_; have BK285 := n5_; have GW285 := n6_; have GE285 := n7_; have NB265_285 := n8_; have NB285_265 := n9_; have NB275_285 := n10_; have NB285_275 := n11_; clear n0_ n1_ n2_ n3_ n4_ n5_ n6_ n7_ n8_ n9_ n10_ n11_; clear hb hbox hg; have hnb44 := NB285_265.out; have hnc44 := NB265_285.out; have hnb45 := NB285_275.out; have hnc45 := NB275_285.out; have hcz46_0 : w43.cell? ⟨gb285, 0, none⟩ = some (.bool false) := (blk_cell BK285.out 0).trans rfl; have hcz46_1 : w43.cell? ⟨gb285, 1, none⟩ = some (.slice none 0 0) := (blk_cell BK285.out 1).trans rfl; have hcz46_2 : w43.cell? ⟨gb285, 2, none⟩ = some (.int .i64 0) := (blk_cell BK285.out 2).trans rfl; have hfz46_0 := blk_frozen BK285.out 0; have hfz46_1 := blk_frozen BK285.out 1; have hfz46_2 := blk_frozen BK285.out 2; obtain ⟨Ao47, co47, eo47⟩ := Kd.R_slice HO282.out; subst eo47; have hcz48_0 : w43.cell? ⟨gb265, 0, none⟩ = some (.bool a0_0) := (blk_cell BK265.out 0).trans rfl; have hcz48_1 : w43.cell? ⟨gb265, 1, none⟩ = some (.slice A0_1 l0_1.length c0_1) := (blk_cell BK265.out 1).trans rfl; have hcz48_2 : w43.cell? ⟨gb265, 2, none⟩ = some (.int .i64 a0_2) := (blk_cell BK265.out 2).trans rfl; have hfz48_0 := blk_frozen BK265.out 0; have hfz48_1 := blk_frozen BK265.out 1; have hfz48_2 := blk_frozen BK265.out 2))
                            try (any_goals (with_reducible refine halt_absurd ?_; (try simp only [ByteArray.size_extract, ByteArray.size_append, ba_size_mk, List.size_toArray, List.length_cons, List.length_nil] at *) <;> omega))
                            (try simp only [Act.put, List.setIfInBounds_toArray, List.set_cons_zero, List.set_cons_succ])
                            go_cut [8, 11] (fun v8 v11 wc => ∃ (kq : Nat) (x8_37 : Int) (x11_37 : ByteArray), v8 = .int .i64 x8_37 ∧ v11 = .string x11_37 ∧ Aside0 (erratumlaw02_NumBack.j3 kq t274 x8_37 t277 x10_16 x11_37 t284 a0_0 l0_1 a0_2 t269 t270 t273 t279 t280 t283 = some r) ∧ Aside0 (kq ≤ k3) ∧ Aside0 (Kd.R (Kd.int .u32) 40 wc w.heap.size (fun k_ => some k_ ≠ ((.slice Ao47 t280.length co47) : Value).ownBlock) (.slice Ao24 t270.length co24) t270) ∧ Aside0 (Kd.R (Kd.int .u32) 40 wc w.heap.size (fun k_ => some k_ ≠ ((.slice Ao24 t270.length co24) : Value).ownBlock) (.slice Ao47 t280.length co47) t280) ∧ Aside0 (wc.heap[gb265]? = some (.cells #[.bool a0_0, (.slice A0_1 l0_1.length c0_1), .int .i64 a0_2] 25 (0, 0))) ∧ Aside0 (wc.heap[gb275]? = some (.cells #[.bool t269, (.slice Ao24 t270.length co24), .int .i64 t273] 25 (0, 0))) ∧ Aside0 (wc.heap[gb285]? = some (.cells #[.bool t279, (.slice Ao47 t280.length co47), .int .i64 t283] 25 (0, 0))) ∧ Aside0 (Below w.heap.size w wc))
                            case first =>
                              have H := HC38.out
                              clear HC38
                              by_cases c49 : (l0_1.length : Int) = 0
                              · rw [if_pos c49] at H
                                have c49b0 : ((l0_1.length : Int) == 0) = true := beq_iff_eq.mpr c49
                                have c49b1 : ((l0_1.length : Int) != 0) = false := bne_eq_false_iff_eq.mpr c49
                                clear c49
                                (first | rw [c49b0] | (simp only [i64_w, i32_w]; rw [c49b0]) | skip)
                                have H' := Aside0.mk H
                                clear H
                                go_wp2
                                try (any_goals (with_reducible refine halt_absurd ?_; (try simp only [ByteArray.size_extract, ByteArray.size_append, ba_size_mk, List.size_toArray, List.length_cons, List.length_nil] at *) <;> omega))
                                go_meet
                                case rel => exact ⟨_, (0), ((⟨#[]⟩ : ByteArray)), (by first | rfl | (simp; done) | (simp [*]; done)), (by first | rfl | (simp; done) | (simp [*]; done)), H', ⟨by have := HJ2.out; have := HJ16.out; have := HK3.out; first | omega | exact Nat.le_refl _⟩, ⟨by (with_reducible repeat (first | apply Kd.R_alloc | apply Kd.R_drewN | apply Kd.R_drew)); exact Kd.R_mono (Kd.R_far (p := ⟨gb285, 2, none⟩) (Kd.R_far (p := ⟨gb285, 1, none⟩) (Kd.R_far (p := ⟨gb285, 0, none⟩) (Kd.R_types HO_276001.out BK285.out (by decide)) (fun _ hk => hk.2) (.bool t279)) (fun _ hk => hk.2) (.slice Ao47 t280.length co47)) (fun _ hk => hk.2) (.int .i64 t283)) (fun _ hk => hk.1.2)⟩, ⟨by (with_reducible repeat (first | apply Kd.R_alloc | apply Kd.R_drewN | apply Kd.R_drew)); exact Kd.R_mono (Kd.R_far (p := ⟨gb285, 2, none⟩) (Kd.R_far (p := ⟨gb285, 1, none⟩) (Kd.R_far (p := ⟨gb285, 0, none⟩) (Kd.R_types HO282.out BK285.out (by decide)) (fun _ hk => hk.2) (.bool t279)) (fun _ hk => hk.2) (.slice Ao47 t280.length co47)) (fun _ hk => hk.2) (.int .i64 t283)) (fun _ hk => hk.1.2)⟩, ⟨by (with_reducible repeat (first | refine blk_drewN ?_ _ | refine blk_drew ?_ | refine blk_alloc ?_ _)); refine blk_far ?_ NB265_285.out _; (with_reducible repeat (first | refine blk_drewN ?_ _ | refine blk_drew ?_ | refine blk_alloc ?_ _)); refine blk_far ?_ NB265_285.out _; (with_reducible repeat (first | refine blk_drewN ?_ _ | refine blk_drew ?_ | refine blk_alloc ?_ _)); refine blk_far ?_ NB265_285.out _; (with_reducible repeat (first | refine blk_drewN ?_ _ | refine blk_drew ?_ | refine blk_alloc ?_ _)); exact BK265.out⟩, ⟨by (with_reducible repeat (first | refine blk_drewN ?_ _ | refine blk_drew ?_ | refine blk_alloc ?_ _)); refine blk_far ?_ NB275_285.out _; (with_reducible repeat (first | refine blk_drewN ?_ _ | refine blk_drew ?_ | refine blk_alloc ?_ _)); refine blk_far ?_ NB275_285.out _; (with_reducible repeat (first | refine blk_drewN ?_ _ | refine blk_drew ?_ | refine blk_alloc ?_ _)); refine blk_far ?_ NB275_285.out _; (with_reducible repeat (first | refine blk_drewN ?_ _ | refine blk_drew ?_ | refine blk_alloc ?_ _)); exact BK275.out⟩, ⟨by (with_reducible repeat (first | refine blk_drewN ?_ _ | refine blk_drew ?_ | refine blk_alloc ?_ _)); refine blk_put (cs := #[.bool t279, .slice Ao47 t280.length co47, .int .i64 0]) ?_ 2 _ rfl; (with_reducible repeat (first | refine blk_drewN ?_ _ | refine blk_drew ?_ | refine blk_alloc ?_ _)); refine blk_put (cs := #[.bool t279, .slice none 0 0, .int .i64 0]) ?_ 1 _ rfl; (with_reducible repeat (first | refine blk_drewN ?_ _ | refine blk_drew ?_ | refine blk_alloc ?_ _)); refine blk_put (cs := #[.bool false, .slice none 0 0, .int .i64 0]) ?_ 0 _ rfl; (with_reducible repeat (first | refine blk_drewN ?_ _ | refine blk_drew ?_ | refine blk_alloc ?_ _)); exact BK285.out⟩, ⟨by repeat (first | (with_reducible first | exact HB.out | apply below_alloc | apply pw_below_drewN | apply below_drew1 | refine below_set ?_ GE265.out | refine below_set ?_ GE275.out | refine below_set ?_ GE285.out) | exact HB.out)⟩⟩
                              · rw [if_neg c49] at H
                                have c49b0 : ((l0_1.length : Int) == 0) = false := beq_eq_false_iff_ne.mpr c49
                                have c49b1 : ((l0_1.length : Int) != 0) = true := bne_iff_ne.mpr c49
                                have c49b2 : ¬ (l0_1 = []) := fun h_ => c49 (by rw [h_]; rfl)
                                (first | rw [c49b0] | (simp only [i64_w, i32_w]; rw [c49b0]) | skip)
                                have H' := Aside0.mk H
                                clear H
                                go_wp2
                                try (any_goals (with_reducible refine halt_absurd ?_; (try simp only [ByteArray.size_extract, ByteArray.size_append, ba_size_mk, List.size_toArray, List.length_cons, List.length_nil] at *) <;> omega))
                                go_meet
                                case rel => exact ⟨_, (t276), (x11_3), (by first | rfl | (simp; done) | (simp [*]; done)), (by first | rfl | (simp; done) | (simp [*]; done)), H', ⟨by have := HJ2.out; have := HJ16.out; have := HK3.out; first | omega | exact Nat.le_refl _⟩, ⟨by (with_reducible repeat (first | apply Kd.R_alloc | apply Kd.R_drewN | apply Kd.R_drew)); exact Kd.R_mono (Kd.R_far (p := ⟨gb285, 2, none⟩) (Kd.R_far (p := ⟨gb285, 1, none⟩) (Kd.R_far (p := ⟨gb285, 0, none⟩) (Kd.R_types HO_276001.out BK285.out (by decide)) (fun _ hk => hk.2) (.bool t279)) (fun _ hk => hk.2) (.slice Ao47 t280.length co47)) (fun _ hk => hk.2) (.int .i64 t283)) (fun _ hk => hk.1.2)⟩, ⟨by (with_reducible repeat (first | apply Kd.R_alloc | apply Kd.R_drewN | apply Kd.R_drew)); exact Kd.R_mono (Kd.R_far (p := ⟨gb285, 2, none⟩) (Kd.R_far (p := ⟨gb285, 1, none⟩) (Kd.R_far (p := ⟨gb285, 0, none⟩) (Kd.R_types HO282.out BK285.out (by decide)) (fun _ hk => hk.2) (.bool t279)) (fun _ hk => hk.2) (.slice Ao47 t280.length co47)) (fun _ hk => hk.2) (.int .i64 t283)) (fun _ hk => hk.1.2)⟩, ⟨by (with_reducible repeat (first | refine blk_drewN ?_ _ | refine blk_drew ?_ | refine blk_alloc ?_ _)); refine blk_far ?_ NB265_285.out _; (with_reducible repeat (first | refine blk_drewN ?_ _ | refine blk_drew ?_ | refine blk_alloc ?_ _)); refine blk_far ?_ NB265_285.out _; (with_reducible repeat (first | refine blk_drewN ?_ _ | refine blk_drew ?_ | refine blk_alloc ?_ _)); refine blk_far ?_ NB265_285.out _; (with_reducible repeat (first | refine blk_drewN ?_ _ | refine blk_drew ?_ | refine blk_alloc ?_ _)); exact BK265.out⟩, ⟨by (with_reducible repeat (first | refine blk_drewN ?_ _ | refine blk_drew ?_ | refine blk_alloc ?_ _)); refine blk_far ?_ NB275_285.out _; (with_reducible repeat (first | refine blk_drewN ?_ _ | refine blk_drew ?_ | refine blk_alloc ?_ _)); refine blk_far ?_ NB275_285.out _; (with_reducible repeat (first | refine blk_drewN ?_ _ | refine blk_drew ?_ | refine blk_alloc ?_ _)); refine blk_far ?_ NB275_285.out _; (with_reducible repeat (first | refine blk_drewN ?_ _ | refine blk_drew ?_ | refine blk_alloc ?_ _)); exact BK275.out⟩, ⟨by (with_reducible repeat (first | refine blk_drewN ?_ _ | refine blk_drew ?_ | refine blk_alloc ?_ _)); refine blk_put (cs := #[.bool t279, .slice Ao47 t280.length co47, .int .i64 0]) ?_ 2 _ rfl; (with_reducible repeat (first | refine blk_drewN ?_ _ | refine blk_drew ?_ | refine blk_alloc ?_ _)); refine blk_put (cs := #[.bool t279, .slice none 0 0, .int .i64 0]) ?_ 1 _ rfl; (with_reducible repeat (first | refine blk_drewN ?_ _ | refine blk_drew ?_ | refine blk_alloc ?_ _)); refine blk_put (cs := #[.bool false, .slice none 0 0, .int .i64 0]) ?_ 0 _ rfl; (with_reducible repeat (first | refine blk_drewN ?_ _ | refine blk_drew ?_ | refine blk_alloc ?_ _)); exact BK285.out⟩, ⟨by repeat (first | (with_reducible first | exact HB.out | apply below_alloc | apply pw_below_drewN | apply below_drew1 | refine below_set ?_ GE265.out | refine below_set ?_ GE275.out | refine below_set ?_ GE285.out) | exact HB.out)⟩⟩
                            case rest =>
                              clear HC38
                              try clear c1
                              try clear c2
                              try clear p2
                              try clear c3
                              try clear c4
                              try clear c5
                              try clear c5b0
                              try clear c5b1
                              try clear p6
                              try clear c9
                              try clear c10
                              try clear c14
                              try clear c15
                              try clear c16
                              try clear c17
                              try clear c22
                              try clear c28
                              try clear c29
                              try clear c29b0
                              try clear c30
                              try clear c30b0
                              try clear c30b1
                              try clear c30b2
                              try clear c31
                              try clear c31b0
                              try clear c31b1
                              try clear c31b2
                              try clear c32
                              try clear c32b0
                              try clear c32b1
                              try clear c32b2
                              try clear c33
                              try clear c33b0
                              try clear c33b1
                              try clear c33b2
                              try clear c34
                              try clear c34b0
                              try clear c34b1
                              try clear c34b2
                              try clear c36
                              try clear c36b0
                              try clear c36b1
                              try clear c36b2
                              try clear c39
                              try clear c44
                              try clear c45
                              try clear c49
                              try clear c49b0
                              try clear c49b1
                              try clear c49b2
                              try clear hcz18_0
                              try clear hcz18_1
                              try clear hcz18_2
                              try clear hcz23_0
                              try clear hcz23_1
                              try clear hcz23_2
                              try clear hcz25_0
                              try clear hcz25_1
                              try clear hcz25_2
                              try clear hcz27_0
                              try clear hcz27_1
                              try clear hcz27_2
                              try clear hcz40_0
                              try clear hcz40_1
                              try clear hcz40_2
                              try clear hcz46_0
                              try clear hcz46_1
                              try clear hcz46_2
                              try clear hcz48_0
                              try clear hcz48_1
                              try clear hcz48_2
                              try clear hcz6_0
                              try clear hcz6_1
                              try clear hcz6_2
                              try clear hcz8_0
                              try clear hcz8_1
                              try clear hcz8_2
                              try clear hfz18_0
                              try clear hfz18_1
                              try clear hfz18_2
                              try clear hfz23_0
                              try clear hfz23_1
                              try clear hfz23_2
                              try clear hfz25_0
                              try clear hfz25_1
                              try clear hfz25_2
                              try clear hfz27_0
                              try clear hfz27_1
                              try clear hfz27_2
                              try clear hfz40_0
                              try clear hfz40_1
                              try clear hfz40_2
                              try clear hfz46_0
                              try clear hfz46_1
                              try clear hfz46_2
                              try clear hfz48_0
                              try clear hfz48_1
                              try clear hfz48_2
                              try clear hfz6_0
                              try clear hfz6_1
                              try clear hfz6_2
                              try clear hfz8_0
                              try clear hfz8_1
                              try clear hfz8_2
                              try clear p2
                              obtain ⟨kq, x8_37, x11_37, rfl, rfl, HA, HJ37, HO_276001, HO_286001, BK265, BK275, BK285, HB⟩ := hcut
                              cases kq with
                              | zero => exact absurd HA.out (by simp [erratumlaw02_NumBack.j3])
                              | succ kj37 =>
                                have H := HA.out
                                clear HA
                                simp only [erratumlaw02_NumBack.j3] at H
                                by_cases c50 : x10_16.size + t277.size ≤ 9223372036854775807
                                · rw [if_pos c50] at H
                                  have c50b0 := eq_true c50
                                  have c50b1 : decide (x10_16.size + t277.size ≤ 9223372036854775807) = true := decide_eq_true c50
                                  try have c50b2 : (9223372036854775807 < x10_16.size + t277.size) = False := eq_false (Nat.not_lt.2 c50)
                                  by_cases c51 : (x10_16 ++ t277).size + x11_37.size ≤ 9223372036854775807
                                  · rw [if_pos c51] at H
                                    have c51b0 := eq_true c51
                                    have c51b1 : decide ((x10_16 ++ t277).size + x11_37.size ≤ 9223372036854775807) = true := decide_eq_true c51
                                    try have c51b2 : (9223372036854775807 < (x10_16 ++ t277).size + x11_37.size) = False := eq_false (Nat.not_lt.2 c51)
                                    by_cases c52 : ((x10_16 ++ t277) ++ x11_37).size + 1 ≤ 9223372036854775807
                                    · rw [if_pos c52] at H
                                      have c52b0 := eq_true c52
                                      have c52b1 : decide (((x10_16 ++ t277) ++ x11_37).size + 1 ≤ 9223372036854775807) = true := decide_eq_true c52
                                      try have c52b2 : (9223372036854775807 < ((x10_16 ++ t277) ++ x11_37).size + 1) = False := eq_false (Nat.not_lt.2 c52)
                                      replace H := Option.bind_eq_some_iff.mp H
                                      obtain ⟨t286, A530, H⟩ := H
                                      replace H : (if (((x10_16 ++ t277) ++ x11_37) ++ (⟨#[69]⟩ : ByteArray)).size + t286.size ≤ 9223372036854775807 then ((num_Parse.f kj37 ((((x10_16 ++ t277) ++ x11_37) ++ (⟨#[69]⟩ : ByteArray)) ++ t286)).bind fun bt287 => (if t274 = 0 then ((erratumlaw00_SameNum.f kj37 t269 t270 t273 a0_0 l0_1 a0_2).bind fun t294 => (if t294 = true then (if t284 = 0 then ((erratumlaw00_SameNum.f kj37 t279 t280 t283 a0_0 l0_1 a0_2).bind fun t295 => (if t295 = true then (if bt287.2.2.2 = 0 then ((erratumlaw00_SameNum.f kj37 bt287.1 bt287.2.1 bt287.2.2.1 a0_0 l0_1 a0_2).bind fun t296 => (if t296 = true then ((erratumlaw02_awake.f kj37).bind fun t297 => (some t297)) else (some false))) else (some false)) else (some false))) else (some false)) else (some false))) else (some false))) else (none)) = some r := H
                                      have A53 := Aside0.mk A530
                                      clear A530
                                      by_cases c54 : (((x10_16 ++ t277) ++ x11_37) ++ (⟨#[69]⟩ : ByteArray)).size + t286.size ≤ 9223372036854775807
                                      · rw [if_pos c54] at H
                                        have c54b0 := eq_true c54
                                        have c54b1 : decide ((((x10_16 ++ t277) ++ x11_37) ++ (⟨#[69]⟩ : ByteArray)).size + t286.size ≤ 9223372036854775807) = true := decide_eq_true c54
                                        try have c54b2 : (9223372036854775807 < (((x10_16 ++ t277) ++ x11_37) ++ (⟨#[69]⟩ : ByteArray)).size + t286.size) = False := eq_false (Nat.not_lt.2 c54)
                                        replace H := Option.bind_eq_some_iff.mp H
                                        obtain ⟨⟨t287, t288, t291, t292⟩, A550, H⟩ := H
                                        replace H : (if t274 = 0 then ((erratumlaw00_SameNum.f kj37 t269 t270 t273 a0_0 l0_1 a0_2).bind fun t294 => (if t294 = true then (if t284 = 0 then ((erratumlaw00_SameNum.f kj37 t279 t280 t283 a0_0 l0_1 a0_2).bind fun t295 => (if t295 = true then (if t292 = 0 then ((erratumlaw00_SameNum.f kj37 t287 t288 t291 a0_0 l0_1 a0_2).bind fun t296 => (if t296 = true then ((erratumlaw02_awake.f kj37).bind fun t297 => (some t297)) else (some false))) else (some false)) else (some false))) else (some false)) else (some false))) else (some false)) = some r := H
                                        have A55 := Aside0.mk A550
                                        clear A550
                                        by_cases c56 : t274 = 0
                                        · rw [if_pos c56] at H
                                          have c56b0 : (t274 == 0) = true := beq_iff_eq.mpr c56
                                          have c56b1 : (t274 != 0) = false := bne_eq_false_iff_eq.mpr c56
                                          clear c56
                                          replace H := Option.bind_eq_some_iff.mp H
                                          obtain ⟨t294, A570, H⟩ := H
                                          replace H : (if t294 = true then (if t284 = 0 then ((erratumlaw00_SameNum.f kj37 t279 t280 t283 a0_0 l0_1 a0_2).bind fun t295 => (if t295 = true then (if t292 = 0 then ((erratumlaw00_SameNum.f kj37 t287 t288 t291 a0_0 l0_1 a0_2).bind fun t296 => (if t296 = true then ((erratumlaw02_awake.f kj37).bind fun t297 => (some t297)) else (some false))) else (some false)) else (some false))) else (some false)) else (some false)) = some r := H
                                          have A57 := Aside0.mk A570
                                          clear A570
                                          by_cases c58 : t294 = true
                                          · subst c58
                                            have H1 : (if t284 = 0 then ((erratumlaw00_SameNum.f kj37 t279 t280 t283 a0_0 l0_1 a0_2).bind fun t295 => (if t295 = true then (if t292 = 0 then ((erratumlaw00_SameNum.f kj37 t287 t288 t291 a0_0 l0_1 a0_2).bind fun t296 => (if t296 = true then ((erratumlaw02_awake.f kj37).bind fun t297 => (some t297)) else (some false))) else (some false)) else (some false))) else (some false)) = some r := by rw [if_pos rfl] at H; exact H
                                            clear H
                                            have H := H1
                                            clear H1
                                            by_cases c59 : t284 = 0
                                            · rw [if_pos c59] at H
                                              have c59b0 : (t284 == 0) = true := beq_iff_eq.mpr c59
                                              have c59b1 : (t284 != 0) = false := bne_eq_false_iff_eq.mpr c59
                                              clear c59
                                              replace H := Option.bind_eq_some_iff.mp H
                                              obtain ⟨t295, A600, H⟩ := H
                                              replace H : (if t295 = true then (if t292 = 0 then ((erratumlaw00_SameNum.f kj37 t287 t288 t291 a0_0 l0_1 a0_2).bind fun t296 => (if t296 = true then ((erratumlaw02_awake.f kj37).bind fun t297 => (some t297)) else (some false))) else (some false)) else (some false)) = some r := H
                                              have A60 := Aside0.mk A600
                                              clear A600
                                              by_cases c61 : t295 = true
                                              · subst c61
                                                have H1 : (if t292 = 0 then ((erratumlaw00_SameNum.f kj37 t287 t288 t291 a0_0 l0_1 a0_2).bind fun t296 => (if t296 = true then ((erratumlaw02_awake.f kj37).bind fun t297 => (some t297)) else (some false))) else (some false)) = some r := by rw [if_pos rfl] at H; exact H
                                                clear H
                                                have H := H1
                                                clear H1
                                                by_cases c62 : t292 = 0
                                                · rw [if_pos c62] at H
                                                  have c62b0 : (t292 == 0) = true := beq_iff_eq.mpr c62
                                                  have c62b1 : (t292 != 0) = false := bne_eq_false_iff_eq.mpr c62
                                                  clear c62
                                                  replace H := Option.bind_eq_some_iff.mp H
                                                  obtain ⟨t296, A630, H⟩ := H
                                                  replace H : (if t296 = true then ((erratumlaw02_awake.f kj37).bind fun t297 => (some t297)) else (some false)) = some r := H
                                                  have A63 := Aside0.mk A630
                                                  clear A630
                                                  by_cases c64 : t296 = true
                                                  · subst c64
                                                    have H1 : ((erratumlaw02_awake.f kj37).bind fun t297 => (some t297)) = some r := by rw [if_pos rfl] at H; exact H
                                                    clear H
                                                    have H := H1
                                                    clear H1
                                                    replace H := Option.bind_eq_some_iff.mp H
                                                    obtain ⟨t297, A650, H⟩ := H
                                                    replace H : (some t297) = some r := H
                                                    have A65 := Aside0.mk A650
                                                    clear A650
                                                    obtain rfl := Option.some.inj H
                                                    have hnb66 := NB265_275.out
                                                    have hnc66 := NB275_265.out
                                                    have hnb67 := NB265_285.out
                                                    have hnc67 := NB285_265.out
                                                    have hcz68_0 : wc.cell? ⟨gb265, 0, none⟩ = some (.bool a0_0) := (blk_cell BK265.out 0).trans rfl
                                                    have hcz68_1 : wc.cell? ⟨gb265, 1, none⟩ = some (.slice A0_1 l0_1.length c0_1) := (blk_cell BK265.out 1).trans rfl
                                                    have hcz68_2 : wc.cell? ⟨gb265, 2, none⟩ = some (.int .i64 a0_2) := (blk_cell BK265.out 2).trans rfl
                                                    have hfz68_0 := blk_frozen BK265.out 0
                                                    have hfz68_1 := blk_frozen BK265.out 1
                                                    have hfz68_2 := blk_frozen BK265.out 2
                                                    go_wp2_with (first | ((with_reducible refine gate_callee (f := 17) rfl ?_); refine goesL_ (some 79) rfl rfl Tryd.func17 (by kernel_rfl) rfl #[.int .i64 (wrap64 (a0_2 - x8_37))] rfl (by (try simp only [List.map_toArray, List.map_cons, List.map_nil]); first | done | rfl | (simp only [List.length_drop, List.length_take]; rfl)) ?_; (with_reducible refine (erratumlaw02_text.calls kj37 (wrap64 (a0_2 - x8_37)) t286 _ A53.out).mono ?_); rintro e w69 ⟨rfl, hb⟩; refine ⟨_, rfl, ?_⟩; have n0_ := Aside0.mk (Kd.R_below (by (with_reducible repeat (first | apply Kd.R_alloc | apply Kd.R_drewN | apply Kd.R_drew)); exact HO_276001.out) hb); have n1_ := Aside0.mk (Kd.R_below (by (with_reducible repeat (first | apply Kd.R_alloc | apply Kd.R_drewN | apply Kd.R_drew)); exact HO_286001.out) hb); have n2_ := Aside0.mk (blk_below (g := gb265) (o := .cells #[.bool a0_0, .slice A0_1 l0_1.length c0_1, .int .i64 a0_2] 25 (0, 0)) (by (with_reducible repeat (first | refine blk_drewN ?_ _ | refine blk_drew ?_ | refine blk_alloc ?_ _)); exact BK265.out) hb); have n3_ := Aside0.mk (blk_below (g := gb275) (o := .cells #[.bool t269, .slice Ao24 t270.length co24, .int .i64 t273] 25 (0, 0)) (by (with_reducible repeat (first | refine blk_drewN ?_ _ | refine blk_drew ?_ | refine blk_alloc ?_ _)); exact BK275.out) hb); have n4_ := Aside0.mk (blk_below (g := gb285) (o := .cells #[.bool t279, .slice Ao47 t280.length co47, .int .i64 t283] 25 (0, 0)) (by (with_reducible repeat (first | refine blk_drewN ?_ _ | refine blk_drew ?_ | refine blk_alloc ?_ _)); exact BK285.out) hb); have n5_ := Aside0.mk (below_step (by repeat (first | (with_reducible first | exact HB.out | apply below_alloc | apply pw_below_drewN | apply below_drew1 | refine below_set ?_ GE265.out | refine below_set ?_ GE275.out | refine below_set ?_ GE285.out) | exact HB.out)) hb); clear HO_276001; clear HO_286001; clear BK265; clear BK275; clear BK285; clear HB; have HO_276001 := n0_; have HO_286001 := n1_; have BK265 := n2_; have BK275 := n3_; have BK285 := n4_; have HB := n5_; clear n0_ n1_ n2_ n3_ n4_ n5_; (try clear hb); (try clear hb2); (try clear hk); (try clear hi)) | ((with_reducible refine gate_callee (f := 10) rfl ?_); refine goesL_ (some 81) rfl rfl Tryd.func10 (by kernel_rfl) rfl #[.string ((((x10_16 ++ t277) ++ x11_37) ++ (⟨#[69]⟩ : ByteArray)) ++ t286)] rfl (by (try simp only [List.map_toArray, List.map_cons, List.map_nil]); first | done | rfl | (simp only [List.length_drop, List.length_take]; rfl)) ?_; (with_reducible refine (num_Parse.calls kj37 ((((x10_16 ++ t277) ++ x11_37) ++ (⟨#[69]⟩ : ByteArray)) ++ t286) t287 t288 t291 t292 _ ?side1 A55.out).mono ?_); (case side1 => first | exact hL.out | exact hL.out.drewN _ | exact hL.out.drew | exact hL.out.below (by repeat (first | (with_reducible first | exact HB.out | apply below_alloc | apply pw_below_drewN | apply below_drew1 | refine below_set ?_ GE265.out | refine below_set ?_ GE275.out | refine below_set ?_ GE285.out) | exact HB.out))); rintro e w70 ⟨v289, rfl, ho0, hb⟩; refine ⟨_, rfl, ?_⟩; have n0_ := Aside0.mk (Kd.R_elder' (by (with_reducible repeat (first | apply Kd.R_alloc | apply Kd.R_drewN | apply Kd.R_drew)); exact HO_276001.out) (Kd.R_base ho0) hb); have n1_ := Aside0.mk (Kd.R_elder' (by (with_reducible repeat (first | apply Kd.R_alloc | apply Kd.R_drewN | apply Kd.R_drew)); exact HO_286001.out) (Kd.R_base ho0) hb); have n2_ := Aside0.mk (Kd.R_lower (Kd.R_new' (Kd.R_new' ho0 (Kd.R_lt (by (with_reducible repeat (first | apply Kd.R_alloc | apply Kd.R_drewN | apply Kd.R_drew)); exact HO_276001.out))) (Kd.R_lt (by (with_reducible repeat (first | apply Kd.R_alloc | apply Kd.R_drewN | apply Kd.R_drew)); exact HO_286001.out))) (below_size (by repeat (first | (with_reducible first | exact HB.out | apply below_alloc | apply pw_below_drewN | apply below_drew1 | refine below_set ?_ GE265.out | refine below_set ?_ GE275.out | refine below_set ?_ GE285.out) | exact HB.out)))); have n3_ := Aside0.mk (blk_below (g := gb265) (o := .cells #[.bool a0_0, .slice A0_1 l0_1.length c0_1, .int .i64 a0_2] 25 (0, 0)) (by (with_reducible repeat (first | refine blk_drewN ?_ _ | refine blk_drew ?_ | refine blk_alloc ?_ _)); exact BK265.out) hb); have n4_ := Aside0.mk (blk_below (g := gb275) (o := .cells #[.bool t269, .slice Ao24 t270.length co24, .int .i64 t273] 25 (0, 0)) (by (with_reducible repeat (first | refine blk_drewN ?_ _ | refine blk_drew ?_ | refine blk_alloc ?_ _)); exact BK275.out) hb); have n5_ := Aside0.mk (blk_below (g := gb285) (o := .cells #[.bool t279, .slice Ao47 t280.length co47, .int .i64 t283] 25 (0, 0)) (by (with_reducible repeat (first | refine blk_drewN ?_ _ | refine blk_drew ?_ | refine blk_alloc ?_ _)); exact BK285.out) hb); have n6_ := Aside0.mk (below_step (by repeat (first | (with_reducible first | exact HB.out | apply below_alloc | apply pw_below_drewN | apply below_drew1 | refine below_set ?_ GE265.out | refine below_set ?_ GE275.out | refine below_set ?_ GE285.out) | exact HB.out)) hb); clear HO_276001; clear HO_286001; clear BK265; clear BK275; clear BK285; clear HB; have HO_276001 := n0_; have HO_286001 := n1_; have HO290 := n2_; have BK265 := n3_; have BK275 := n4_; have BK285 := n5_; have HB := n6_; clear n0_ n1_ n2_ n3_ n4_ n5_ n6_; (try clear hb); (try clear hb2); (try clear hk); (try clear hi); (try clear ho0)) | ((with_reducible refine gate_dst (N := 15) rfl ?_); refine box_event ?hg (N := 15) ?hd (cs := #[.bool false, .slice none 0 0, .int .i64 0]) (t := 25) ?hr ?_; (case hd => rfl); (case hg => rfl); (case hr => first | (go_simp; done) | (go_simp; rfl) | (go_simp; simp only [x_u32u8, x_u8, x_u32, x_u64, x_mm]; first | done | rfl)); intro gb293 hg w71 hbox hb; have n0_ := Aside0.mk (Kd.R_below (by (with_reducible repeat (first | apply Kd.R_alloc | apply Kd.R_drewN | apply Kd.R_drew)); exact HO_276001.out) hb); have n1_ := Aside0.mk (Kd.R_below (by (with_reducible repeat (first | apply Kd.R_alloc | apply Kd.R_drewN | apply Kd.R_drew)); exact HO_286001.out) hb); have n2_ := Aside0.mk (Kd.R_below (by (with_reducible repeat (first | apply Kd.R_alloc | apply Kd.R_drewN | apply Kd.R_drew)); exact HO290.out) hb); have n3_ := Aside0.mk (blk_below (g := gb265) (o := .cells #[.bool a0_0, .slice A0_1 l0_1.length c0_1, .int .i64 a0_2] 25 (0, 0)) (by (with_reducible repeat (first | refine blk_drewN ?_ _ | refine blk_drew ?_ | refine blk_alloc ?_ _)); exact BK265.out) hb); have n4_ := Aside0.mk (blk_below (g := gb275) (o := .cells #[.bool t269, .slice Ao24 t270.length co24, .int .i64 t273] 25 (0, 0)) (by (with_reducible repeat (first | refine blk_drewN ?_ _ | refine blk_drew ?_ | refine blk_alloc ?_ _)); exact BK275.out) hb); have n5_ := Aside0.mk (blk_below (g := gb285) (o := .cells #[.bool t279, .slice Ao47 t280.length co47, .int .i64 t283] 25 (0, 0)) (by (with_reducible repeat (first | refine blk_drewN ?_ _ | refine blk_drew ?_ | refine blk_alloc ?_ _)); exact BK285.out) hb); have n6_ := Aside0.mk (below_step (by repeat (first | (with_reducible first | exact HB.out | apply below_alloc | apply pw_below_drewN | apply below_drew1 | refine below_set ?_ GE265.out | refine below_set ?_ GE275.out | refine below_set ?_ GE285.out) | exact HB.out)) hb); have n7_ := Aside0.mk (hbox); have n8_ := Aside0.mk ((by rw [hg]; exact (below_size (by repeat (first | (with_reducible first | exact HB.out | apply below_alloc | apply pw_below_drewN | apply below_drew1 | refine below_set ?_ GE265.out | refine below_set ?_ GE275.out | refine below_set ?_ GE285.out) | exact HB.out))) : w.heap.size ≤ gb293)); have n9_ := Aside0.mk ((by rw [hg]; exact (below_size (by repeat (first | (with_reducible first | exact HB.out | apply below_alloc | apply pw_below_drewN | apply below_drew1 | refine below_set ?_ GE265.out | refine below_set ?_ GE275.out | refine below_set ?_ GE285.out) | exact HB.out))) : w.heap.size ≤ gb293)); have n10_ := Aside0.mk ((by rw [hg]; exact Nat.ne_of_lt (blk_lt (g := gb265) (o := .cells #[.bool a0_0, .slice A0_1 l0_1.length c0_1, .int .i64 a0_2] 25 (0, 0)) (by (with_reducible repeat (first | refine blk_drewN ?_ _ | refine blk_drew ?_ | refine blk_alloc ?_ _)); exact BK265.out)) : gb265 ≠ gb293)); have n11_ := Aside0.mk ((by rw [hg]; exact Nat.ne_of_gt (blk_lt (g := gb265) (o := .cells #[.bool a0_0, .slice A0_1 l0_1.length c0_1, .int .i64 a0_2] 25 (0, 0)) (by (with_reducible repeat (first | refine blk_drewN ?_ _ | refine blk_drew ?_ | refine blk_alloc ?_ _)); exact BK265.out)) : gb293 ≠ gb265)); have n12_ := Aside0.mk ((by rw [hg]; exact Nat.ne_of_lt (blk_lt (g := gb275) (o := .cells #[.bool t269, .slice Ao24 t270.length co24, .int .i64 t273] 25 (0, 0)) (by (with_reducible repeat (first | refine blk_drewN ?_ _ | refine blk_drew ?_ | refine blk_alloc ?_ _)); exact BK275.out)) : gb275 ≠ gb293)); have n13_ := Aside0.mk ((by rw [hg]; exact Nat.ne_of_gt (blk_lt (g := gb275) (o := .cells #[.bool t269, .slice Ao24 t270.length co24, .int .i64 t273] 25 (0, 0)) (by (with_reducible repeat (first | refine blk_drewN ?_ _ | refine blk_drew ?_ | refine blk_alloc ?_ _)); exact BK275.out)) : gb293 ≠ gb275)); have n14_ := Aside0.mk ((by rw [hg]; exact Nat.ne_of_lt (blk_lt (g := gb285) (o := .cells #[.bool t279, .slice Ao47 t280.length co47, .int .i64 t283] 25 (0, 0)) (by (with_reducible repeat (first | refine blk_drewN ?_ _ | refine blk_drew ?_ | refine blk_alloc ?_ _)); exact BK285.out)) : gb285 ≠ gb293)); have n15_ := Aside0.mk ((by rw [hg]; exact Nat.ne_of_gt (blk_lt (g := gb285) (o := .cells #[.bool t279, .slice Ao47 t280.length co47, .int .i64 t283] 25 (0, 0)) (by (with_reducible repeat (first | refine blk_drewN ?_ _ | refine blk_drew ?_ | refine blk_alloc ?_ _)); exact BK285.out)) : gb293 ≠ gb285)); clear HO_276001; clear HO_286001; clear HO290; clear BK265; clear BK275; clear BK285; clear HB; have HO_276001 := n0_; have HO_286001 := n1_; have HO290 := n2_; have BK265 := n3_; have BK275 := n4_; have BK285 := n5_; have HB := n6_; have BK293 := n7_; have GW293 := n8_; have GE293 := n9_; have NB265_293 := n10_; have NB293_265 := n11_; have NB275_293 := n12_; have NB293_275 := n13_; have NB285_293 := n14_; have NB293_285 := n15_; clear n0_ n1_ n2_ n3_ n4_ n5_ n6_ n7_ n8_ n9_ n10_ n11_ n12_ n13_ n14_ n15_; clear hb hbox hg; have hnb72 := NB293_265.out; have hnc72 := NB265_293.out; have hnb73 := NB293_275.out; have hnc73 := NB275_293.out; have hnb74 := NB293_285.out; have hnc74 := NB285_293.out; have hcz75_0 : w71.cell? ⟨gb293, 0, none⟩ = some (.bool false) := (blk_cell BK293.out 0).trans rfl; have hcz75_1 : w71.cell? ⟨gb293, 1, none⟩ = some (.slice none 0 0) := (blk_cell BK293.out 1).trans rfl; have hcz75_2 : w71.cell? ⟨gb293, 2, none⟩ = some (.int .i64 0) := (blk_cell BK293.out 2).trans rfl; have hfz75_0 := blk_frozen BK293.out 0; have hfz75_1 := blk_frozen BK293.out 1; have hfz75_2 := blk_frozen BK293.out 2; obtain ⟨Ao76, co76, eo76⟩ := Kd.R_slice HO290.out; subst eo76; have hnb77 := NB275_285.out; have hnc77 := NB285_275.out; have hcz78_0 : w71.cell? ⟨gb275, 0, none⟩ = some (.bool t269) := (blk_cell BK275.out 0).trans rfl; have hcz78_1 : w71.cell? ⟨gb275, 1, none⟩ = some (.slice Ao24 t270.length co24) := (blk_cell BK275.out 1).trans rfl; have hcz78_2 : w71.cell? ⟨gb275, 2, none⟩ = some (.int .i64 t273) := (blk_cell BK275.out 2).trans rfl; have hfz78_0 := blk_frozen BK275.out 0; have hfz78_1 := blk_frozen BK275.out 1; have hfz78_2 := blk_frozen BK275.out 2; have hcz79_0 : w71.cell? ⟨gb265, 0, none⟩ = some (.bool a0_0) := (blk_cell BK265.out 0).trans rfl; have hcz79_1 : w71.cell? ⟨gb265, 1, none⟩ = some (.slice A0_1 l0_1.length c0_1) := (blk_cell BK265.out 1).trans rfl; have hcz79_2 : w71.cell? ⟨gb265, 2, none⟩ = some (.int .i64 a0_2) := (blk_cell BK265.out 2).trans rfl; have hfz79_0 := blk_frozen BK265.out 0; have hfz79_1 := blk_frozen BK265.out 1; have hfz79_2 := blk_frozen BK265.out 2) | (go_at_call 12; (with_reducible refine (erratumlaw00_SameNum.calls kj37 t269 _ _ t270 t273 a0_0 _ _ l0_1 a0_2 true _ ?side1 ?side2 ?side3 ?side4 A57.out).mono ?_); (case side1 => refine (Kd.R_reads' (e := 40) (base := w.heap.size) (ok := fun k_ => (some k_ ≠ (.slice Ao47 t280.length co47 : Value).ownBlock ∧ some k_ ≠ (.slice Ao76 t288.length co76 : Value).ownBlock)) (n := t270.length) (c := co24) ?_).2.2; exact (by (with_reducible repeat (first | apply Kd.R_alloc | apply Kd.R_drewN | apply Kd.R_drew)); exact (Kd.R_mono (Kd.R_far (p := ⟨gb293, 2, none⟩) (Kd.R_far (p := ⟨gb293, 1, none⟩) (Kd.R_far (p := ⟨gb293, 0, none⟩) (Kd.R_types HO_276001.out BK293.out (by decide)) (fun _ hk => hk.2) (.bool t287)) (fun _ hk => hk.2) (.slice Ao76 t288.length co76)) (fun _ hk => hk.2) (.int .i64 t291)) (fun _ h_ => h_.1)))); (case side2 => exact (Kd.R_reads' HO_276001.out).2.1); (case side3 => exact Kd.C_below HR0_1.out (by repeat (first | (with_reducible first | exact HB.out | apply below_alloc | apply pw_below_drewN | apply below_drew1 | refine below_set ?_ GE265.out | refine below_set ?_ GE275.out | refine below_set ?_ GE285.out | refine below_set ?_ GE293.out) | exact HB.out))); (case side4 => exact HC0_1.out); rintro e w80 ⟨rfl, hb⟩; have n0_ := Aside0.mk (Kd.R_below (by (with_reducible repeat (first | apply Kd.R_alloc | apply Kd.R_drewN | apply Kd.R_drew)); exact (Kd.R_mono (Kd.R_far (p := ⟨gb293, 2, none⟩) (Kd.R_far (p := ⟨gb293, 1, none⟩) (Kd.R_far (p := ⟨gb293, 0, none⟩) (Kd.R_types HO_276001.out BK293.out (by decide)) (fun _ hk => hk.2) (.bool t287)) (fun _ hk => hk.2) (.slice Ao76 t288.length co76)) (fun _ hk => hk.2) (.int .i64 t291)) (fun _ h_ => h_.1))) hb); have n1_ := Aside0.mk (Kd.R_below (by (with_reducible repeat (first | apply Kd.R_alloc | apply Kd.R_drewN | apply Kd.R_drew)); exact (Kd.R_mono (Kd.R_far (p := ⟨gb293, 2, none⟩) (Kd.R_far (p := ⟨gb293, 1, none⟩) (Kd.R_far (p := ⟨gb293, 0, none⟩) (Kd.R_types HO_286001.out BK293.out (by decide)) (fun _ hk => hk.2) (.bool t287)) (fun _ hk => hk.2) (.slice Ao76 t288.length co76)) (fun _ hk => hk.2) (.int .i64 t291)) (fun _ h_ => h_.1))) hb); have n2_ := Aside0.mk (Kd.R_below (by (with_reducible repeat (first | apply Kd.R_alloc | apply Kd.R_drewN | apply Kd.R_drew)); exact (Kd.R_mono (Kd.R_far (p := ⟨gb293, 2, none⟩) (Kd.R_far (p := ⟨gb293, 1, none⟩) (Kd.R_far (p := ⟨gb293, 0, none⟩) (Kd.R_types HO290.out BK293.out (by decide)) (fun _ hk => hk.2) (.bool t287)) (fun _ hk => hk.2) (.slice Ao76 t288.length co76)) (fun _ hk => hk.2) (.int .i64 t291)) (fun _ h_ => h_.1))) hb); have n3_ := Aside0.mk (blk_below (g := gb265) (o := .cells #[.bool a0_0, .slice A0_1 l0_1.length c0_1, .int .i64 a0_2] 25 (0, 0)) (by (with_reducible repeat (first | refine blk_drewN ?_ _ | refine blk_drew ?_ | refine blk_alloc ?_ _)); refine blk_far ?_ NB265_293.out _; (with_reducible repeat (first | refine blk_drewN ?_ _ | refine blk_drew ?_ | refine blk_alloc ?_ _)); refine blk_far ?_ NB265_293.out _; (with_reducible repeat (first | refine blk_drewN ?_ _ | refine blk_drew ?_ | refine blk_alloc ?_ _)); refine blk_far ?_ NB265_293.out _; (with_reducible repeat (first | refine blk_drewN ?_ _ | refine blk_drew ?_ | refine blk_alloc ?_ _)); exact BK265.out) hb); have n4_ := Aside0.mk (blk_below (g := gb275) (o := .cells #[.bool t269, .slice Ao24 t270.length co24, .int .i64 t273] 25 (0, 0)) (by (with_reducible repeat (first | refine blk_drewN ?_ _ | refine blk_drew ?_ | refine blk_alloc ?_ _)); refine blk_far ?_ NB275_293.out _; (with_reducible repeat (first | refine blk_drewN ?_ _ | refine blk_drew ?_ | refine blk_alloc ?_ _)); refine blk_far ?_ NB275_293.out _; (with_reducible repeat (first | refine blk_drewN ?_ _ | refine blk_drew ?_ | refine blk_alloc ?_ _)); refine blk_far ?_ NB275_293.out _; (with_reducible repeat (first | refine blk_drewN ?_ _ | refine blk_drew ?_ | refine blk_alloc ?_ _)); exact BK275.out) hb); have n5_ := Aside0.mk (blk_below (g := gb285) (o := .cells #[.bool t279, .slice Ao47 t280.length co47, .int .i64 t283] 25 (0, 0)) (by (with_reducible repeat (first | refine blk_drewN ?_ _ | refine blk_drew ?_ | refine blk_alloc ?_ _)); refine blk_far ?_ NB285_293.out _; (with_reducible repeat (first | refine blk_drewN ?_ _ | refine blk_drew ?_ | refine blk_alloc ?_ _)); refine blk_far ?_ NB285_293.out _; (with_reducible repeat (first | refine blk_drewN ?_ _ | refine blk_drew ?_ | refine blk_alloc ?_ _)); refine blk_far ?_ NB285_293.out _; (with_reducible repeat (first | refine blk_drewN ?_ _ | refine blk_drew ?_ | refine blk_alloc ?_ _)); exact BK285.out) hb); have n6_ := Aside0.mk (blk_below (g := gb293) (o := .cells #[.bool t287, .slice Ao76 t288.length co76, .int .i64 t291] 25 (0, 0)) (by (with_reducible repeat (first | refine blk_drewN ?_ _ | refine blk_drew ?_ | refine blk_alloc ?_ _)); refine blk_put (cs := #[.bool t287, .slice Ao76 t288.length co76, .int .i64 0]) ?_ 2 _ rfl; (with_reducible repeat (first | refine blk_drewN ?_ _ | refine blk_drew ?_ | refine blk_alloc ?_ _)); refine blk_put (cs := #[.bool t287, .slice none 0 0, .int .i64 0]) ?_ 1 _ rfl; (with_reducible repeat (first | refine blk_drewN ?_ _ | refine blk_drew ?_ | refine blk_alloc ?_ _)); refine blk_put (cs := #[.bool false, .slice none 0 0, .int .i64 0]) ?_ 0 _ rfl; (with_reducible repeat (first | refine blk_drewN ?_ _ | refine blk_drew ?_ | refine blk_alloc ?_ _)); exact BK293.out) hb); have n7_ := Aside0.mk (below_step (by repeat (first | (with_reducible first | exact HB.out | apply below_alloc | apply pw_below_drewN | apply below_drew1 | refine below_set ?_ GE265.out | refine below_set ?_ GE275.out | refine below_set ?_ GE285.out | refine below_set ?_ GE293.out) | exact HB.out)) hb); clear HO_276001; clear HO_286001; clear HO290; clear BK265; clear BK275; clear BK285; clear BK293; clear HB; have HO_276001 := n0_; have HO_286001 := n1_; have HO290 := n2_; have BK265 := n3_; have BK275 := n4_; have BK285 := n5_; have BK293 := n6_; have HB := n7_; clear n0_ n1_ n2_ n3_ n4_ n5_ n6_ n7_; (try clear hb); (try clear hb2); (try clear hk); (try clear hi); have hcz81_0 : w80.cell? ⟨gb285, 0, none⟩ = some (.bool t279) := (blk_cell BK285.out 0).trans rfl; have hcz81_1 : w80.cell? ⟨gb285, 1, none⟩ = some (.slice Ao47 t280.length co47) := (blk_cell BK285.out 1).trans rfl; have hcz81_2 : w80.cell? ⟨gb285, 2, none⟩ = some (.int .i64 t283) := (blk_cell BK285.out 2).trans rfl; have hfz81_0 := blk_frozen BK285.out 0; have hfz81_1 := blk_frozen BK285.out 1; have hfz81_2 := blk_frozen BK285.out 2; have hcz82_0 : w80.cell? ⟨gb265, 0, none⟩ = some (.bool a0_0) := (blk_cell BK265.out 0).trans rfl; have hcz82_1 : w80.cell? ⟨gb265, 1, none⟩ = some (.slice A0_1 l0_1.length c0_1) := (blk_cell BK265.out 1).trans rfl; have hcz82_2 : w80.cell? ⟨gb265, 2, none⟩ = some (.int .i64 a0_2) := (blk_cell BK265.out 2).trans rfl; have hfz82_0 := blk_frozen BK265.out 0; have hfz82_1 := blk_frozen BK265.out 1; have hfz82_2 := blk_frozen BK265.out 2) | (go_at_call 12; (with_reducible refine (erratumlaw00_SameNum.calls kj37 t279 _ _ t280 t283 a0_0 _ _ l0_1 a0_2 true _ ?side1 ?side2 ?side3 ?side4 A60.out).mono ?_); (case side1 => repeat (first | exact (Kd.R_reads' HO_286001.out).2.2 | (with_reducible refine Kd.C_alloc ?_ _) | (with_reducible refine Kd.C_drewN ?_ _) | (with_reducible refine Kd.C_drew ?_))); (case side2 => exact (Kd.R_reads' HO_286001.out).2.1); (case side3 => repeat (first | exact (Kd.C_below HR0_1.out HB.out) | (with_reducible refine Kd.C_alloc ?_ _) | (with_reducible refine Kd.C_drewN ?_ _) | (with_reducible refine Kd.C_drew ?_))); (case side4 => exact HC0_1.out); rintro e w83 ⟨rfl, hb⟩; have n0_ := Aside0.mk (Kd.R_below (by (with_reducible repeat (first | apply Kd.R_alloc | apply Kd.R_drewN | apply Kd.R_drew)); exact HO_276001.out) hb); have n1_ := Aside0.mk (Kd.R_below (by (with_reducible repeat (first | apply Kd.R_alloc | apply Kd.R_drewN | apply Kd.R_drew)); exact HO_286001.out) hb); have n2_ := Aside0.mk (Kd.R_below (by (with_reducible repeat (first | apply Kd.R_alloc | apply Kd.R_drewN | apply Kd.R_drew)); exact HO290.out) hb); have n3_ := Aside0.mk (blk_below (g := gb265) (o := .cells #[.bool a0_0, .slice A0_1 l0_1.length c0_1, .int .i64 a0_2] 25 (0, 0)) (by (with_reducible repeat (first | refine blk_drewN ?_ _ | refine blk_drew ?_ | refine blk_alloc ?_ _)); exact BK265.out) hb); have n4_ := Aside0.mk (blk_below (g := gb275) (o := .cells #[.bool t269, .slice Ao24 t270.length co24, .int .i64 t273] 25 (0, 0)) (by (with_reducible repeat (first | refine blk_drewN ?_ _ | refine blk_drew ?_ | refine blk_alloc ?_ _)); exact BK275.out) hb); have n5_ := Aside0.mk (blk_below (g := gb285) (o := .cells #[.bool t279, .slice Ao47 t280.length co47, .int .i64 t283] 25 (0, 0)) (by (with_reducible repeat (first | refine blk_drewN ?_ _ | refine blk_drew ?_ | refine blk_alloc ?_ _)); exact BK285.out) hb); have n6_ := Aside0.mk (blk_below (g := gb293) (o := .cells #[.bool t287, .slice Ao76 t288.length co76, .int .i64 t291] 25 (0, 0)) (by (with_reducible repeat (first | refine blk_drewN ?_ _ | refine blk_drew ?_ | refine blk_alloc ?_ _)); exact BK293.out) hb); have n7_ := Aside0.mk (below_step (by repeat (first | (with_reducible first | exact HB.out | apply below_alloc | apply pw_below_drewN | apply below_drew1 | refine below_set ?_ GE265.out | refine below_set ?_ GE275.out | refine below_set ?_ GE285.out | refine below_set ?_ GE293.out) | exact HB.out)) hb); clear HO_276001; clear HO_286001; clear HO290; clear BK265; clear BK275; clear BK285; clear BK293; clear HB; have HO_276001 := n0_; have HO_286001 := n1_; have HO290 := n2_; have BK265 := n3_; have BK275 := n4_; have BK285 := n5_; have BK293 := n6_; have HB := n7_; clear n0_ n1_ n2_ n3_ n4_ n5_ n6_ n7_; (try clear hb); (try clear hb2); (try clear hk); (try clear hi); have hcz84_0 : w83.cell? ⟨gb293, 0, none⟩ = some (.bool t287) := (blk_cell BK293.out 0).trans rfl; have hcz84_1 : w83.cell? ⟨gb293, 1, none⟩ = some (.slice Ao76 t288.length co76) := (blk_cell BK293.out 1).trans rfl; have hcz84_2 : w83.cell? ⟨gb293, 2, none⟩ = some (.int .i64 t291) := (blk_cell BK293.out 2).trans rfl; have hfz84_0 := blk_frozen BK293.out 0; have hfz84_1 := blk_frozen BK293.out 1; have hfz84_2 := blk_frozen BK293.out 2; have hcz85_0 : w83.cell? ⟨gb265, 0, none⟩ = some (.bool a0_0) := (blk_cell BK265.out 0).trans rfl; have hcz85_1 : w83.cell? ⟨gb265, 1, none⟩ = some (.slice A0_1 l0_1.length c0_1) := (blk_cell BK265.out 1).trans rfl; have hcz85_2 : w83.cell? ⟨gb265, 2, none⟩ = some (.int .i64 a0_2) := (blk_cell BK265.out 2).trans rfl; have hfz85_0 := blk_frozen BK265.out 0; have hfz85_1 := blk_frozen BK265.out 1; have hfz85_2 := blk_frozen BK265.out 2) | (go_at_call 12; (with_reducible refine (erratumlaw00_SameNum.calls kj37 t287 _ _ t288 t291 a0_0 _ _ l0_1 a0_2 true _ ?side1 ?side2 ?side3 ?side4 A63.out).mono ?_); (case side1 => repeat (first | exact (Kd.R_reads' HO290.out).2.2 | (with_reducible refine Kd.C_alloc ?_ _) | (with_reducible refine Kd.C_drewN ?_ _) | (with_reducible refine Kd.C_drew ?_))); (case side2 => exact (Kd.R_reads' HO290.out).2.1); (case side3 => repeat (first | exact (Kd.C_below HR0_1.out HB.out) | (with_reducible refine Kd.C_alloc ?_ _) | (with_reducible refine Kd.C_drewN ?_ _) | (with_reducible refine Kd.C_drew ?_))); (case side4 => exact HC0_1.out); rintro e w86 ⟨rfl, hb⟩; have n0_ := Aside0.mk (Kd.R_below (by (with_reducible repeat (first | apply Kd.R_alloc | apply Kd.R_drewN | apply Kd.R_drew)); exact HO_276001.out) hb); have n1_ := Aside0.mk (Kd.R_below (by (with_reducible repeat (first | apply Kd.R_alloc | apply Kd.R_drewN | apply Kd.R_drew)); exact HO_286001.out) hb); have n2_ := Aside0.mk (Kd.R_below (by (with_reducible repeat (first | apply Kd.R_alloc | apply Kd.R_drewN | apply Kd.R_drew)); exact HO290.out) hb); have n3_ := Aside0.mk (blk_below (g := gb265) (o := .cells #[.bool a0_0, .slice A0_1 l0_1.length c0_1, .int .i64 a0_2] 25 (0, 0)) (by (with_reducible repeat (first | refine blk_drewN ?_ _ | refine blk_drew ?_ | refine blk_alloc ?_ _)); exact BK265.out) hb); have n4_ := Aside0.mk (blk_below (g := gb275) (o := .cells #[.bool t269, .slice Ao24 t270.length co24, .int .i64 t273] 25 (0, 0)) (by (with_reducible repeat (first | refine blk_drewN ?_ _ | refine blk_drew ?_ | refine blk_alloc ?_ _)); exact BK275.out) hb); have n5_ := Aside0.mk (blk_below (g := gb285) (o := .cells #[.bool t279, .slice Ao47 t280.length co47, .int .i64 t283] 25 (0, 0)) (by (with_reducible repeat (first | refine blk_drewN ?_ _ | refine blk_drew ?_ | refine blk_alloc ?_ _)); exact BK285.out) hb); have n6_ := Aside0.mk (blk_below (g := gb293) (o := .cells #[.bool t287, .slice Ao76 t288.length co76, .int .i64 t291] 25 (0, 0)) (by (with_reducible repeat (first | refine blk_drewN ?_ _ | refine blk_drew ?_ | refine blk_alloc ?_ _)); exact BK293.out) hb); have n7_ := Aside0.mk (below_step (by repeat (first | (with_reducible first | exact HB.out | apply below_alloc | apply pw_below_drewN | apply below_drew1 | refine below_set ?_ GE265.out | refine below_set ?_ GE275.out | refine below_set ?_ GE285.out | refine below_set ?_ GE293.out) | exact HB.out)) hb); clear HO_276001; clear HO_286001; clear HO290; clear BK265; clear BK275; clear BK285; clear BK293; clear HB; have HO_276001 := n0_; have HO_286001 := n1_; have HO290 := n2_; have BK265 := n3_; have BK275 := n4_; have BK285 := n5_; have BK293 := n6_; have HB := n7_; clear n0_ n1_ n2_ n3_ n4_ n5_ n6_ n7_; (try clear hb); (try clear hb2); (try clear hk); (try clear hi)) | (go_at_call 9; (with_reducible refine (erratumlaw02_awake.calls kj37  t297 _ ?side1 A65.out).mono ?_); (case side1 => first | exact hL.out | exact hL.out.drewN _ | exact hL.out.drew | exact hL.out.below (by repeat (first | (with_reducible first | exact HB.out | apply below_alloc | apply pw_below_drewN | apply below_drew1 | refine below_set ?_ GE265.out | refine below_set ?_ GE275.out | refine below_set ?_ GE285.out | refine below_set ?_ GE293.out) | exact HB.out))); rintro e w87 ⟨rfl, hb⟩; have n0_ := Aside0.mk (Kd.R_below (by (with_reducible repeat (first | apply Kd.R_alloc | apply Kd.R_drewN | apply Kd.R_drew)); exact HO_276001.out) hb); have n1_ := Aside0.mk (Kd.R_below (by (with_reducible repeat (first | apply Kd.R_alloc | apply Kd.R_drewN | apply Kd.R_drew)); exact HO_286001.out) hb); have n2_ := Aside0.mk (Kd.R_below (by (with_reducible repeat (first | apply Kd.R_alloc | apply Kd.R_drewN | apply Kd.R_drew)); exact HO290.out) hb); have n3_ := Aside0.mk (blk_below (g := gb265) (o := .cells #[.bool a0_0, .slice A0_1 l0_1.length c0_1, .int .i64 a0_2] 25 (0, 0)) (by (with_reducible repeat (first | refine blk_drewN ?_ _ | refine blk_drew ?_ | refine blk_alloc ?_ _)); exact BK265.out) hb); have n4_ := Aside0.mk (blk_below (g := gb275) (o := .cells #[.bool t269, .slice Ao24 t270.length co24, .int .i64 t273] 25 (0, 0)) (by (with_reducible repeat (first | refine blk_drewN ?_ _ | refine blk_drew ?_ | refine blk_alloc ?_ _)); exact BK275.out) hb); have n5_ := Aside0.mk (blk_below (g := gb285) (o := .cells #[.bool t279, .slice Ao47 t280.length co47, .int .i64 t283] 25 (0, 0)) (by (with_reducible repeat (first | refine blk_drewN ?_ _ | refine blk_drew ?_ | refine blk_alloc ?_ _)); exact BK285.out) hb); have n6_ := Aside0.mk (blk_below (g := gb293) (o := .cells #[.bool t287, .slice Ao76 t288.length co76, .int .i64 t291] 25 (0, 0)) (by (with_reducible repeat (first | refine blk_drewN ?_ _ | refine blk_drew ?_ | refine blk_alloc ?_ _)); exact BK293.out) hb); have n7_ := Aside0.mk (below_step (by repeat (first | (with_reducible first | exact HB.out | apply below_alloc | apply pw_below_drewN | apply below_drew1 | refine below_set ?_ GE265.out | refine below_set ?_ GE275.out | refine below_set ?_ GE285.out | refine below_set ?_ GE293.out) | exact HB.out)) hb); clear HO_276001; clear HO_286001; clear HO290; clear BK265; clear BK275; clear BK285; clear BK293; clear HB; have HO_276001 := n0_; have HO_286001 := n1_; have HO290 := n2_; have BK265 := n3_; have BK275 := n4_; have BK285 := n5_; have BK293 := n6_; have HB := n7_; clear n0_ n1_ n2_ n3_ n4_ n5_ n6_ n7_; (try clear hb); (try clear hb2); (try clear hk); (try clear hi)))
                                                    try (any_goals (with_reducible refine halt_absurd ?_; (try simp only [ByteArray.size_extract, ByteArray.size_append, ba_size_mk, List.size_toArray, List.length_cons, List.length_nil] at *) <;> omega))
                                                    go_ret
                                                    exact ⟨by first | rfl | (simp [errW_none, errW_some] <;> rfl) | (simp [*, errW_none, errW_some] <;> rfl), by repeat (first | (with_reducible first | exact HB.out | apply below_alloc | apply pw_below_drewN | apply below_drew1 | refine below_set ?_ GE265.out | refine below_set ?_ GE275.out | refine below_set ?_ GE285.out | refine below_set ?_ GE293.out) | exact HB.out)⟩
                                                  · replace c64 := Bool.eq_false_iff.mpr c64
                                                    subst c64
                                                    have H1 : (some false) = some r := by rw [if_neg (show ¬ (false = true) by decide)] at H; exact H
                                                    clear H
                                                    have H := H1
                                                    clear H1
                                                    exact absurd ((Option.some.inj H).trans hT) (by decide)
                                                · rw [if_neg c62] at H
                                                  have c62b0 : (t292 == 0) = false := beq_eq_false_iff_ne.mpr c62
                                                  have c62b1 : (t292 != 0) = true := bne_iff_ne.mpr c62
                                                  exact absurd ((Option.some.inj H).trans hT) (by decide)
                                              · replace c61 := Bool.eq_false_iff.mpr c61
                                                subst c61
                                                have H1 : (some false) = some r := by rw [if_neg (show ¬ (false = true) by decide)] at H; exact H
                                                clear H
                                                have H := H1
                                                clear H1
                                                exact absurd ((Option.some.inj H).trans hT) (by decide)
                                            · rw [if_neg c59] at H
                                              have c59b0 : (t284 == 0) = false := beq_eq_false_iff_ne.mpr c59
                                              have c59b1 : (t284 != 0) = true := bne_iff_ne.mpr c59
                                              exact absurd ((Option.some.inj H).trans hT) (by decide)
                                          · replace c58 := Bool.eq_false_iff.mpr c58
                                            subst c58
                                            have H1 : (some false) = some r := by rw [if_neg (show ¬ (false = true) by decide)] at H; exact H
                                            clear H
                                            have H := H1
                                            clear H1
                                            exact absurd ((Option.some.inj H).trans hT) (by decide)
                                        · rw [if_neg c56] at H
                                          have c56b0 : (t274 == 0) = false := beq_eq_false_iff_ne.mpr c56
                                          have c56b1 : (t274 != 0) = true := bne_iff_ne.mpr c56
                                          exact absurd ((Option.some.inj H).trans hT) (by decide)
                                      · rw [if_neg c54] at H
                                        exact absurd H (by simp)
                                    · rw [if_neg c52] at H
                                      exact absurd H (by simp)
                                  · rw [if_neg c51] at H
                                    exact absurd H (by simp)
                                · rw [if_neg c50] at H
                                  exact absurd H (by simp)
                          · rw [if_neg c36] at H
                            exact absurd H (by simp)
                        · rw [if_neg c34] at H
                          exact absurd H (by simp)
                      · rw [if_neg c33] at H
                        exact absurd H (by simp)
                    · rw [if_neg c32] at H
                      exact absurd H (by simp)
                  · rw [if_neg c31] at H
                    exact absurd H (by simp)

end Go.Proofs.YtmkdcokdilllcaaDoor.X
/- The law of texts and back holds. -/
namespace Go.Proofs.YtmkdcokdilllcaaDoor.X
open Go.RowKit Go.Proofs.YtmkdcokdilllcaaDoorW.PrintWords Go.Proofs.YtmkdcokdilllcaaDoorW.PrintMore
set_option linter.unusedVariables false
set_option linter.unusedSimpArgs false
/-- The digits of a natural; of 0 none. -/
def dd (n : Nat) : List UInt8 := if n = 0 then [] else Lib.decDigits n
theorem dd_step {n : Nat} (h : n ≠ 0) : dd n = dd (n / 10) ++ [UInt8.ofNat (48 + n % 10)] := by
  unfold dd
  rw [if_neg h]
  by_cases h1 : n < 10
  · rw [Lib.decDigits, dif_pos h1, if_pos (by omega), Nat.mod_eq_of_lt h1]
    rfl
  · rw [Lib.decDigits, dif_neg h1, if_neg (by omega)]
theorem one_digit {v : Nat} (h : v < 10) : (ByteArray.mk #[48, 49, 50, 51, 52, 53, 54, 55, 56, 57]).extract v (v + 1) = ⟨[UInt8.ofNat (48 + v)].toArray⟩ := by
  have key : ∀ w : Fin 10, (ByteArray.mk #[48, 49, 50, 51, 52, 53, 54, 55, 56, 57]).extract w.val (w.val + 1) = ⟨[UInt8.ofNat (48 + w.val)].toArray⟩ := by decide +kernel
  exact key ⟨v, h⟩
theorem r1digits_loop (L : Nat) (hL : L ≤ 1048576) : ∀ n : Nat, n < 4294967296 ^ L → ∀ s : List UInt8, s.length + (dd n).length ≤ 100000000 → Ev (fun k => erratumref01_Digits.l0 k ⟨s.toArray⟩ (lim n)) ⟨(if dd n ++ s = [] then [48] else dd n ++ s).toArray⟩ := by
  intro n
  induction n using Nat.strongRecOn with
  | _ n ih =>
    intro hn s hs
    refine Ev.succN ?_
    by_cases h0 : n = 0
    · subst h0
      have c0 : ¬ ((lim 0).length : Int) > 0 := by rw [lim_zero]; decide
      have hd0 : dd 0 = [] := rfl
      simp only [erratumref01_Digits.l0, c0, if_false, hd0, List.nil_append]
      rw [Lib.toList_data, ba_mk]
      by_cases h1 : s = []
      · subst h1
        simp
        exact Ev.now _
      · have h2 : ¬ (s == []) = true := by simpa using h1
        simp only [h1, if_false]
        first
        | exact Ev.now _
        | (simp only [h2, if_false]; exact Ev.now _)
    · have hl : (lim n).length ≠ 0 := fun h => h0 ((lim_len_zero n).1 h)
      have c0 : ((lim n).length : Int) > 0 := by omega
      have hle : (lim n).length ≤ L := lim_len_le hn
      have hsm := r1small (lim_ok n) (by omega) (d := 10) (by decide) (by decide)
      rw [val_lim, show (10 : Int).toNat = 10 from rfl] at hsm
      have hstep := dd_step h0
      simp only [erratumref01_Digits.l0, c0, if_true]
      refine Ev.bind hsm ?_
      have c1 : (0 : Int) ≤ ((n % 10 : Nat) : Int) := by omega
      have e1 : (((n % 10 : Nat) : Int) + 1) % 4294967296 = ((n % 10 + 1 : Nat) : Int) := by omega
      have c2 : ((n % 10 : Nat) : Int) ≤ ((n % 10 + 1 : Nat) : Int) := by omega
      have c3 : ((n % 10 + 1 : Nat) : Int) ≤ 10 := by omega
      have e2 : (((n % 10 : Nat) : Int)).toNat = n % 10 := by omega
      have e3 : (((n % 10 + 1 : Nat) : Int)).toNat = n % 10 + 1 := by omega
      have hx := one_digit (show n % 10 < 10 by omega)
      have hlen : (dd n).length = (dd (n / 10)).length + 1 := by rw [hstep, List.length_append]; rfl
      have c4 : (ByteArray.mk [UInt8.ofNat (48 + n % 10)].toArray).size + (ByteArray.mk s.toArray).size ≤ 9223372036854775807 := by
        rw [ba_len, ba_len, List.length_singleton]; omega
      have e4 : (ByteArray.mk [UInt8.ofNat (48 + n % 10)].toArray) ++ (ByteArray.mk s.toArray) = ⟨(UInt8.ofNat (48 + n % 10) :: s).toArray⟩ := ba_ext (by rw [append_list, ba_mk, ba_mk, ba_mk]; rfl)
      simp only [c1, e1, c2, c3, e2, e3, hx, c4, e4, if_true]
      have := ih (n / 10) (by omega) (by omega) (UInt8.ofNat (48 + n % 10) :: s) (by rw [List.length_cons]; omega)
      rw [hstep, List.append_assoc]
      exact this
theorem dd_len {n L : Nat} (h : n < 4294967296 ^ L) (hL : 0 < L) : (dd n).length ≤ 10 * L := by
  unfold dd
  split
  · exact Nat.zero_le _
  · refine digits_len_le (by omega) (Nat.lt_of_lt_of_le h ?_)
    rw [Nat.pow_mul]
    exact Nat.pow_le_pow_left (by decide) _
theorem r1digits {l : List Int} (hl : Ok l) (la : l.length ≤ 1048575) : Ev (fun k => erratumref01_Digits.f k l) ⟨(Lib.decDigits (val l)).toArray⟩ := by
  have hn : val l < 4294967296 ^ (l.length + 1) := Nat.lt_of_lt_of_le (val_lt hl) (Nat.pow_le_pow_right (by decide) (by omega))
  have h1 := dd_len hn (by omega)
  have h2 := r1digits_loop (l.length + 1) (by omega) (val l) hn [] (by rw [List.length_nil]; omega)
  rw [List.append_nil] at h2
  have h3 : (if dd (val l) = [] then [48] else dd (val l)) = Lib.decDigits (val l) := by
    unfold dd
    by_cases h0 : val l = 0
    · rw [if_pos h0, if_pos rfl, h0]
      decide +kernel
    · rw [if_neg h0, if_neg (digits_ne _)]
  rw [h3] at h2
  exact Ev.congr (fun k => rfl) (Ev.bind (r1norm hl (by omega)) h2)
/-- A small number's text. -/
def textI (v : Int) : List UInt8 := (if v < 0 then [45] else []) ++ Lib.decDigits v.natAbs
theorem textI_len {v : Int} (h0 : -100000 ≤ v) (h1 : v ≤ 100000) : (textI v).length ≤ 7 := by
  have hk : (Lib.decDigits v.natAbs).length ≤ 6 := digits_len_le (by decide) (by omega)
  unfold textI
  rw [List.length_append]
  split
  · rw [List.length_singleton]; omega
  · rw [List.length_nil]; omega
theorem law_text {v : Int} (h0 : -100000 ≤ v) (h1 : v ≤ 100000) : Ev (fun k => erratumlaw02_text.f k v) ⟨(textI v).toArray⟩ := by
  have hk : (Lib.decDigits v.natAbs).length ≤ 6 := digits_len_le (by decide) (by omega)
  unfold erratumlaw02_text.f textI
  by_cases h : v < 0
  · have hw : wrap64 (-v) = -v := wrap64_ok (by omega) (by omega)
    have hm : (-v) % 4294967296 = -v := by omega
    have hd := r1digits (ok_one (x := -v) (by omega) (by omega)) (by simp)
    rw [val_one, show (-v).toNat = v.natAbs by omega] at hd
    simp only [h, if_true, hw, hm]
    refine Ev.bind hd ?_
    have c : 1 + (ByteArray.mk (Lib.decDigits v.natAbs).toArray).size ≤ 9223372036854775807 := by rw [ba_len]; omega
    simp only [c, if_true]
    rw [show (ByteArray.mk #[45]) ++ (ByteArray.mk (Lib.decDigits v.natAbs).toArray) = ⟨([45] ++ Lib.decDigits v.natAbs).toArray⟩ from ba_ext (by rw [append_list, ba_mk, ba_mk])]
    exact Ev.now _
  · have hm : v % 4294967296 = v := by omega
    have hd := r1digits (ok_one (x := v) (by omega) (by omega)) (by simp)
    rw [val_one, show v.toNat = v.natAbs by omega] at hd
    simp only [h, if_false, hm, List.nil_append]
    exact Ev.bind hd (Ev.now _)
theorem parse_parts {g : Bool} {n : Nat} {E : Int} {w : List UInt8} {f : Option (List UInt8)} {x : Option (UInt8 × Bool × Bool × List UInt8)} (hg : GoodNum g n E) (hp : Parts g n E w f x) (hl : (partsL g w f x []).length ≤ 2000) :
    Ev (fun k => num_Parse.f k ⟨(partsL g w f x []).toArray⟩) (g, lim n, E, 0) := by
  have := num_text ⟨(partsL g w f x []).toArray⟩ (by rw [ba_len]; exact hl)
  rw [ba_mk, parts_res hg hp] at this
  exact this
theorem lead_digits (n : Nat) : leadL (Lib.decDigits n) = false := by
  by_cases h : n = 0
  · subst h
    decide +kernel
  · have := lead_app (m := []) (digits_head n h) (digits_ne n)
    rw [List.append_nil] at this
    exact this
theorem expL_text {v : Int} (h0 : -100000 ≤ v) (h1 : v ≤ 100000) : expL (some (decide (v < 0), Lib.decDigits v.natAbs)) = v := by
  simp only [expL, decide_eq_true_eq]
  rw [expN_digits (by omega)]
  split <;> omega
theorem expo_text (c : UInt8) (v : Int) : expo (some (c, decide (v < 0), false, Lib.decDigits v.natAbs)) = c :: textI v := by
  unfold expo textI
  by_cases h : v < 0
  · simp [h]
  · simp [h]
theorem rep_succ (k : Nat) : List.replicate (k + 1) (48 : UInt8) = List.replicate k 48 ++ [48] := by
  rw [← List.replicate_append_replicate]; rfl
theorem partsY {g : Bool} {n : Nat} {E : Int} (hg : GoodNum g n E) (k : Nat) (hk : k ≤ 100) : Parts g n E (Lib.decDigits n) (some (List.replicate k 48 ++ [48])) (some (101, decide (E < 0), false, Lib.decDigits E.natAbs)) := by
  have e1 := hg.lo
  have e2 := hg.hi
  have he := expL_text (v := E) (by omega) (by omega)
  have hz : List.replicate k (48 : UInt8) ++ [48] = List.replicate (k + 1) 48 := (rep_succ k).symm
  rw [hz]
  refine ⟨dig_digits n, digits_ne n, lead_digits n, dig_zeros _, ?_, ⟨Or.inl rfl, digits_ne _, dig_digits _⟩, ⟨k + 1, ?_, fun _ => ?_⟩, ?_⟩
  · rw [List.replicate_succ]; simp
  · rw [Option.getD_some]
    exact dec_shift _ n (by rw [decFrom_digits]; simp) _
  · simp only [expP, he, Option.getD_some, List.length_replicate]
  · simp only [expP, he]
    omega
theorem partsZ {g : Bool} {n : Nat} {E : Int} (hg : GoodNum g n E) (k : Nat) (hk : k ≤ 100) (h0 : n = 0 → k = 0) : Parts g n E (Lib.decDigits n ++ List.replicate k 48) none (some (69, decide (E - k < 0), false, Lib.decDigits (E - k).natAbs)) := by
  have e1 := hg.lo
  have e2 := hg.hi
  have he := expL_text (v := E - k) (by omega) (by omega)
  refine ⟨fun c hc => ?_, ?_, ?_, fun c hc => by simp at hc, by simp, ⟨Or.inr rfl, digits_ne _, dig_digits _⟩, ⟨k, ?_, fun _ => ?_⟩, ?_⟩
  · rcases List.mem_append.1 hc with hc | hc
    · exact dig_digits n c hc
    · exact dig_zeros _ c hc
  · intro h
    exact digits_ne n (List.append_eq_nil_iff.1 h).1
  · by_cases hn : n = 0
    · obtain rfl := h0 hn
      rw [List.replicate_zero, List.append_nil]
      exact lead_digits n
    · exact lead_app (digits_head n hn) (digits_ne n)
  · rw [Option.getD_none, List.append_nil]
    exact dec_shift _ n (by rw [decFrom_digits]; simp) _
  · simp only [expP, he, Option.getD_none, List.length_nil]
    omega
  · simp only [expP, he]
    omega
theorem lim_refl_num (g : Bool) (n : Nat) (E : Int) (hl : (lim n).length ≤ 90) : Ev (fun k => erratumlaw00_SameNum.f k g (lim n) E g (lim n) E) true := same_num g (lim n) E (by omega)
theorem back_j3 {g : Bool} {n : Nat} {E : Int} (hg : GoodNum g n E) (k : Nat) (hk : k ≤ 100) (h0 : n = 0 → k = 0) :
    Ev (fun q => erratumlaw02_NumBack.j3 q 0 (k : Int) ⟨(Lib.decDigits n).toArray⟩ ⟨(sgn g).toArray⟩ ⟨(List.replicate k 48).toArray⟩ 0 g (lim n) E g (lim n) E g (lim n) E) true := by
  have e1 := hg.lo
  have e2 := hg.hi
  have hd : (Lib.decDigits n).length ≤ 900 := by rw [Lib.decDigits_length]; exact nDigits_le hg.limbs
  have hs : (sgn g).length ≤ 1 := by cases g <;> decide
  have ht := textI_len (v := E - k) (by omega) (by omega)
  have hw : wrap64 (E - (k : Int)) = E - k := wrap64_ok (by omega) (by omega)
  have hlt := law_text (v := E - k) (by omega) (by omega)
  have hE : (ByteArray.mk #[69]).size = 1 := rfl
  have c1 : (ByteArray.mk (sgn g).toArray).size + (ByteArray.mk (Lib.decDigits n).toArray).size ≤ 9223372036854775807 := by rw [ba_len, ba_len]; omega
  have c2 : (ByteArray.mk (sgn g).toArray ++ ByteArray.mk (Lib.decDigits n).toArray).size + (ByteArray.mk (List.replicate k (48 : UInt8)).toArray).size ≤ 9223372036854775807 := by
    rw [ByteArray.size_append, ba_len, ba_len, ba_len, List.length_replicate]; omega
  have c3 : (ByteArray.mk (sgn g).toArray ++ ByteArray.mk (Lib.decDigits n).toArray ++ ByteArray.mk (List.replicate k (48 : UInt8)).toArray).size + 1 ≤ 9223372036854775807 := by
    rw [ByteArray.size_append, ByteArray.size_append, ba_len, ba_len, ba_len, List.length_replicate]; omega
  have c4 : (ByteArray.mk (sgn g).toArray ++ ByteArray.mk (Lib.decDigits n).toArray ++ ByteArray.mk (List.replicate k (48 : UInt8)).toArray ++ ByteArray.mk #[69]).size + (ByteArray.mk (textI (E - k)).toArray).size ≤ 9223372036854775807 := by
    rw [ByteArray.size_append, ByteArray.size_append, ByteArray.size_append, hE, ba_len, ba_len, ba_len, ba_len, List.length_replicate]; omega
  have hx : (ByteArray.mk (sgn g).toArray ++ ByteArray.mk (Lib.decDigits n).toArray ++ ByteArray.mk (List.replicate k (48 : UInt8)).toArray ++ ByteArray.mk #[69] ++ ByteArray.mk (textI (E - k)).toArray) =
      ⟨(partsL g (Lib.decDigits n ++ List.replicate k 48) none (some (69, decide (E - k < 0), false, Lib.decDigits (E - k).natAbs)) []).toArray⟩ := ba_ext (by
    rw [append_list, append_list, append_list, append_list, ba_mk, ba_mk, ba_mk, ba_mk, ba_mk, partsL, expo_text]
    simp [frac])
  have hp := parse_parts hg (partsZ hg k hk h0) (by
    refine Nat.le_trans (partsL_len _ _ _ _ _) ?_
    have : (Lib.decDigits (E - k).natAbs).length ≤ 6 := digits_len_le (by decide) (by omega)
    simp only [List.length_append, List.length_replicate, Option.getD_none, List.length_nil]
    omega)
  rw [← hx] at hp
  have hsame := lim_refl_num g n E hg.limbs
  refine Ev.succN ?_
  simp only [erratumlaw02_NumBack.j3, c1, c2, c3, if_true, hw]
  refine Ev.bind hlt ?_
  simp only [c4, if_true]
  refine Ev.bind hp (Ev.bind hsame ?_)
  simp only [if_true]
  refine Ev.bind hsame ?_
  simp only [if_true]
  refine Ev.bind hsame ?_
  simp only [if_true]
  exact Ev.bind awake_true (Ev.now _)
theorem back_loop {g : Bool} {n : Nat} {E : Int} (hg : GoodNum g n E) (k : Nat) (hk : k ≤ 100) (d : Nat) : ∀ i : Nat, i + d = k →
    Ev (fun q => erratumlaw02_NumBack.l0 q 0 (k : Int) ⟨(Lib.decDigits n).toArray⟩ ⟨(sgn g).toArray⟩ ⟨(List.replicate i 48).toArray⟩ (i : Int) g (lim n) E g (lim n) E) true := by
  have e1 := hg.lo
  have e2 := hg.hi
  have hd : (Lib.decDigits n).length ≤ 900 := by rw [Lib.decDigits_length]; exact nDigits_le hg.limbs
  have hs : (sgn g).length ≤ 1 := by cases g <;> decide
  induction d with
  | succ d ih =>
    intro i hi
    refine Ev.succN ?_
    have c0 : (i : Int) < (k : Int) := by omega
    have c1 : (ByteArray.mk (List.replicate i (48 : UInt8)).toArray).size + 1 ≤ 9223372036854775807 := by rw [ba_len, List.length_replicate]; omega
    have hw : wrap64 ((i : Int) + 1) = ((i + 1 : Nat) : Int) := by rw [wrap64_ok (by omega) (by omega)]; omega
    have hx : ByteArray.mk (List.replicate i (48 : UInt8)).toArray ++ ByteArray.mk #[48] = ⟨(List.replicate (i + 1) 48).toArray⟩ := ba_ext (by rw [append_list, ba_mk, ba_mk, ba_mk, rep_succ])
    simp only [erratumlaw02_NumBack.l0, c0, c1, if_true, hw, hx]
    exact ih (i + 1) (by omega)
  | zero =>
    intro i hi
    obtain rfl : i = k := by omega
    refine Ev.succN ?_
    have c0 : ¬ (i : Int) < (i : Int) := by omega
    have ht := textI_len (v := E) (by omega) (by omega)
    have hlt := law_text (v := E) (by omega) (by omega)
    have hdot : (ByteArray.mk #[46]).size = 1 := rfl
    have hze : (ByteArray.mk #[48, 101]).size = 2 := rfl
    have c1 : (ByteArray.mk (sgn g).toArray).size + (ByteArray.mk (Lib.decDigits n).toArray).size ≤ 9223372036854775807 := by rw [ba_len, ba_len]; omega
    have c2 : (ByteArray.mk (sgn g).toArray ++ ByteArray.mk (Lib.decDigits n).toArray).size + 1 ≤ 9223372036854775807 := by rw [ByteArray.size_append, ba_len, ba_len]; omega
    have c3 : (ByteArray.mk (sgn g).toArray ++ ByteArray.mk (Lib.decDigits n).toArray ++ ByteArray.mk #[46]).size + (ByteArray.mk (List.replicate i (48 : UInt8)).toArray).size ≤ 9223372036854775807 := by
      rw [ByteArray.size_append, ByteArray.size_append, hdot, ba_len, ba_len, ba_len, List.length_replicate]; omega
    have c4 : (ByteArray.mk (sgn g).toArray ++ ByteArray.mk (Lib.decDigits n).toArray ++ ByteArray.mk #[46] ++ ByteArray.mk (List.replicate i (48 : UInt8)).toArray).size + 2 ≤ 9223372036854775807 := by
      rw [ByteArray.size_append, ByteArray.size_append, ByteArray.size_append, hdot, ba_len, ba_len, ba_len, List.length_replicate]; omega
    have c5 : (ByteArray.mk (sgn g).toArray ++ ByteArray.mk (Lib.decDigits n).toArray ++ ByteArray.mk #[46] ++ ByteArray.mk (List.replicate i (48 : UInt8)).toArray ++ ByteArray.mk #[48, 101]).size + (ByteArray.mk (textI E).toArray).size ≤ 9223372036854775807 := by
      rw [ByteArray.size_append, ByteArray.size_append, ByteArray.size_append, ByteArray.size_append, hdot, hze, ba_len, ba_len, ba_len, ba_len, List.length_replicate]; omega
    have hx : (ByteArray.mk (sgn g).toArray ++ ByteArray.mk (Lib.decDigits n).toArray ++ ByteArray.mk #[46] ++ ByteArray.mk (List.replicate i (48 : UInt8)).toArray ++ ByteArray.mk #[48, 101] ++ ByteArray.mk (textI E).toArray) =
        ⟨(partsL g (Lib.decDigits n) (some (List.replicate i 48 ++ [48])) (some (101, decide (E < 0), false, Lib.decDigits E.natAbs)) []).toArray⟩ := ba_ext (by
      rw [append_list, append_list, append_list, append_list, append_list, ba_mk, ba_mk, ba_mk, ba_mk, ba_mk, partsL, expo_text]
      simp [frac])
    have hp := parse_parts hg (partsY hg i hk) (by
      refine Nat.le_trans (partsL_len _ _ _ _ _) ?_
      have : (Lib.decDigits E.natAbs).length ≤ 6 := digits_len_le (by decide) (by omega)
      simp only [List.length_append, List.length_replicate, Option.getD_some, List.length_nil, List.length_singleton]
      omega)
    rw [← hx] at hp
    simp only [erratumlaw02_NumBack.l0, c0, c1, c2, c3, c4, if_true, if_false]
    refine Ev.bind hlt ?_
    simp only [c5, if_true]
    refine Ev.bind hp ?_
    by_cases h0 : n = 0
    · have c6 : ((lim n).length : Int) = 0 := by rw [h0, lim_zero]; rfl
      simp only [c6, if_true]
      exact back_j3 hg 0 (by decide) (fun _ => rfl)
    · have c6 : ¬ ((lim n).length : Int) = 0 := fun h => h0 ((lim_len_zero n).1 (by omega))
      simp only [c6, if_false]
      exact back_j3 hg i hk (fun h => (h0 h).elim)
/-- THE LAW OF TEXTS AND BACK. -/
theorem numBack_true (a : Bool) (la : List Int) (ea : Int) (v : Int) (ha : Ok la) (v0 : -9223372036854775808 ≤ v) (v1 : v ≤ 9223372036854775807) : Ev (fun k => erratumlaw02_NumBack.f k a la ea v) true := by
  have hj : Ev (fun k => erratumlaw02_NumBack.j0 k v true a la ea) true := by
    refine Ev.succN ?_
    simp only [erratumlaw02_NumBack.j0, if_true]
    exact Ev.bind awake_true (Ev.now _)
  unfold erratumlaw02_NumBack.f
  by_cases h1 : (la.length : Int) > 30
  · simp only [h1, if_true]
    exact hj
  · simp only [h1, if_false]
    refine Ev.bind (r2check ha (by omega) a ea) ?_
    rcases k1 : checkS a la ea with _ | _
    · exact hj
    · obtain ⟨g1, g2⟩ := check_good ha k1
      obtain ⟨p, hp, p0, p1⟩ := place_of (v := v) (n := 40) (by decide) (by decide)
      have hdig := r1digits ha (by omega)
      have tx := num_text_good g2
      have px := parse_text g2
      rw [← g1] at tx px
      refine Ev.succN ?_
      simp only [erratumlaw02_NumBack.j0, Bool.not_true, Bool.false_eq_true, if_false]
      refine Ev.bind tx (Ev.bind px ?_)
      simp only [hp, Option.bind_some]
      refine Ev.bind hdig ?_
      have hloop := back_loop g2 p.toNat (by omega) p.toNat 0 (by omega)
      rw [← g1, show ((p.toNat : Nat) : Int) = p by omega] at hloop
      have hj1 : ∀ s : ByteArray, s = ⟨(sgn a).toArray⟩ → Ev (fun k => erratumlaw02_NumBack.j1 k 0 p ⟨(Lib.decDigits (val la)).toArray⟩ s a la ea a la ea) true := by
        rintro s rfl
        refine Ev.succN ?_
        simp only [erratumlaw02_NumBack.j1]
        exact hloop
      cases a
      · simp only [Bool.false_eq_true, if_false]
        exact hj1 _ rfl
      · simp only [if_true]
        exact hj1 _ rfl
end Go.Proofs.YtmkdcokdilllcaaDoor.X
/- The row and the card of NumBack. -/
namespace Go.Proofs.YtmkdcokdilllcaaDoor.X
open Go.ChangeShapes Go.WideShapes Go.ChangeAt Go.RowKit
set_option maxRecDepth 100000 in
theorem contractNumBack (H : Type) (enc : TypeId × Value → H) (W : World) (base : Nat) (args : Array Value) (ds gs : List (DataW H)) (before : List MemPlace)
    (hval : ∀ (j : Nat) t v, Tryd.f4.params[j]? = some t → args[j]? = some v → Value.okWide Tryd.prog W .any base t v)
    (hW : DataW.Whole enc Tryd.prog Tryd.f4.params.toList Rows.numBackSpec.vars false W args.toList ds gs before) (hL : laidMetH Tryd.prog Rows.numBackRow.laid W) :
    Calls Tryd.prog 4 args W fun e W' => ∃ v, e = .returned v ∧ Rows.numBackSpec.post enc Tryd.prog Tryd.f4 false true false false W args v W' := by
  have hW' := hW
  obtain ⟨p, q, hA0, hV, rfl, hfz, hnd⟩ := hW
  have hA : DataW.TrodAll enc Tryd.prog W 0 (fun _ => true) true Tryd.f4.params.toList args.toList ds p := hA0
  rw [Tryd.params4] at hA hval
  obtain ⟨v0, vs0, d0, ds0, p0, q0, hargs, rfl, rfl, h0, r0⟩ := trodAll_cons hA
  obtain ⟨v1, vs1, d1, ds1, p1, q1, rfl, rfl, rfl, h1, r1⟩ := trodAll_cons r0
  obtain ⟨rfl, rfl, rfl⟩ := trodAll_nil r1
  obtain rfl : args = #[v0, v1] := by cases args; simp_all
  obtain ⟨rfl, rfl⟩ := trodVars_none hV
  have k0 := h0
  have lt0 : ∀ x ∈ p0, x.block < W.heap.size := by obtain ⟨m, hm⟩ := k0; exact DataW.trod_lt m _ _ _ hm
  obtain ⟨g0, A0, l0, c0, e0, rfl, hr0, hc0, ok0, eb0⟩ := open_num (hval 0 25 v0 rfl rfl) h0
  obtain ⟨a1, rfl, rfl, rfl, w1⟩ := open_int Tryd.underlying3 (hval 1 3 v1 rfl rfl) h1
  have b1 := int_bounds w1
  clear hA0
  obtain ⟨k, hk⟩ := (numBack_true g0 l0 e0 a1 ok0 b1.1 b1.2).rounds
  refine (erratumlaw02_NumBack.calls k g0 A0 c0 l0 e0 a1 true W rfl (laid_of (show laidMetH Tryd.prog Rows.numTextsRow.laid W from hL)) hr0 hc0 hk).mono fun e W' ⟨he, bel⟩ => ?_
  subst he
  exact ⟨_, rfl, _, _, _, [], _, [], hW', trodAll_mk1 (shut_bool Tryd.underlying4 _), (trodAll_cons_mk (Below.trod laidOut (by kernel_rfl) (of_decide_eq_true (by kernel_rfl)) k0 bel lt0) (trodAll_cons_mk (shut_int Tryd.underlying3 w1) trodAll_mk0)), rfl, bel.frame _, fun h => by cases h⟩
theorem readsNumBack (os : Os) {H : Type} (enc : TypeId × Value → H) : ∃ places, DataW.whole enc Tryd.prog ((laidWorld os).forCall (fun _ _ => 0) ⟨#[], #[.agg #[.bool false, .slice none 0 0, .int .i64 0], .int .i64 0], []⟩).memory Tryd.f4.params.toList Rows.numBackSpec.vars false #[Value.agg #[.bool false, .slice none 0 0, .int .i64 0], Value.int .i64 0].toList 8 = some ([.agg [.lit (.bool false), .nil, .lit (.int .i64 0)], .lit (.int .i64 0)], [], places) :=
  ⟨[], by kernel_rfl⟩
set_option maxRecDepth 100000 in
theorem metNumBack (os : Os) : laidMet Tryd.prog Rows.numBackRow.laid ((laidWorld os).forCall (fun _ _ => 0) ⟨#[], #[.agg #[.bool false, .slice none 0 0, .int .i64 0], .int .i64 0], []⟩).memory :=
  laidMet_of_run' 8 (by kernel_rfl) (by kernel_rfl)
set_option maxRecDepth 100000 in
theorem liftedNumBack (os : Os) (started : os.Started) (H : Type) (enc : TypeId × Value → H) (F : Stop.Interp) :
    ReturnsInHanded {} Tryd.checked os 4 .any ((OpenSpec.ofChange Rows.numBackSpec).preRow enc Tryd.prog Tryd.f4 Rows.numBackRow.domain false Rows.numBackRow.laid) (((OpenSpec.ofChange Rows.numBackSpec).at F).post enc Tryd.prog Tryd.f4 false true false false) := by
  obtain ⟨places, hx⟩ := readsNumBack os enc
  refine returnsInHanded_of_row (C := Tryd.checked) (s := OpenSpec.ofChange Rows.numBackSpec) own started (by kernel_rfl) Tryd.func4
    (witness_row_at (enc := enc) (C := Tryd.checked) false (laidWorld os) #[.agg #[.bool false, .slice none 0 0, .int .i64 0], .int .i64 0] rfl (by kernel_rfl) (by kernel_rfl) (by kernel_rfl)
      (OpenSpec.preRow_of_cond 8 hx (by kernel_rfl) (fun k hk => by cases hk) (by kernel_rfl) (metNumBack os))) ?_
  intro W base args ds gs before hval hW _ _ _ hL _ _
  exact contractNumBack H enc W base args ds gs before hval hW hL
theorem saidNumBack : Rows.NumBackSaid :=
  OpenClaim.holds_of_cond 4 Tryd.f4 rfl rfl rfl rfl rfl rfl rfl ⟨rfl, rfl, rfl, rfl, rfl⟩ rfl rfl rfl rfl rfl (by kernel_rfl) Tryd.func4 (by kernel_rfl)
    (of_decide_eq_true (by kernel_rfl)) (by unfold Func.isWrapper; first | (rw [if_pos (by decide +kernel)]; kernel_rfl) | (rw [if_neg (by decide +kernel)]; exact ⟨rfl, rfl⟩))
    (fun os started H enc _ F => by rw [OpenClaim.pre_eq_preRow]; exact liftedNumBack os started H enc F)
theorem plainNumBack (f : FuncId) (fn : Func) (hf : Tryd.pinned.checked.prog.funcNamed "erratum/erratumlaw02.NumBack" = some f) (hfn : Tryd.pinned.checked.prog.funcs[f]? = some fn) :
    true = Tryd.pinned.checked.prog.looks [] ∧ ∀ (j : Nat) t, fn.params[j]? = some t → Tryd.pinned.checked.prog.wantsStandIn t = false := by
  obtain rfl : f = 4 := Option.some.inj ((show Tryd.prog.funcNamed "erratum/erratumlaw02.NumBack" = some 4 by kernel_rfl).symm.trans hf) |>.symm
  obtain rfl : fn = Tryd.f4 := (Option.some.inj (Tryd.func4.symm.trans hfn)).symm
  refine ⟨by kernel_rfl, fun j t ht => ?_⟩
  rw [Tryd.params4] at ht
  have hm : t = 25 ∨ t = 3 := by simpa using Array.mem_of_getElem? ht
  rcases hm with rfl | rfl
  · exact (show Tryd.prog.wantsStandIn 25 = false by kernel_rfl)
  · exact (show Tryd.prog.wantsStandIn 3 = false by kernel_rfl)
theorem cardNumBack : Rows.NumBackCardSaid :=
  Claim7.holds_tied_plain_at .later [] _ _ _ _ saidNumBack (fun _ h => by cases h) (by kernel_rfl) (fun _ h => by cases h) numBack_row_tie rfl ⟨rfl, rfl⟩ (by kernel_rfl) rfl plainNumBack (by kernel_rfl)
end Go.Proofs.YtmkdcokdilllcaaDoor.X
