import Derived.Test.YtondpnipoogoiaaDoorM2
import Derived.Test.YtondpnipoogoiaaDoorM4
import Derived.Test.YtondpnipoogoiaaDoorM3
import Derived.Defers
import Derived.Recover
import Derived.KernelRfl
-- A walk, written by a program of this session (xp.py).
namespace Go.Proofs.YtondpnipoogoiaaDoor.X
open Go.RowKit Go.Proofs.YtondpnipoogoiaaDoorW.PrintWords Go.Proofs.YtondpnipoogoiaaDoorW.PrintLast Go.Proofs.YtondpnipoogoiaaDoorW.PrintMore
attribute [local go_sem] max2_int min2_int max_two min_two max_three min_three max_four min_four
set_option linter.unusedVariables false
set_option linter.unusedSimpArgs false

/-! ### mask_Check_1: function 37 -/
def mask_Check_1.f (k : Nat) (l0 : List ByteArray) : Option (Bool) := if (l0.length : Int) = 0 then (some true) else (if (l0.length : Int) > 63 then (some true) else ((slices_ContainsFunc_string_string_mask_Check_1_1.f k l0).bind fun t256 => (some t256)))
theorem mask_Check_1.mono : ∀ a0 k, LeO (mask_Check_1.f k a0) (mask_Check_1.f (k + 1) a0) := by
  intro a0 k
  unfold mask_Check_1.f
  repeat' first
      | (with_reducible exact slices_ContainsFunc_string_string_mask_Check_1_1.mono _ _)
      | (with_reducible exact LeO.refl _)
      | (with_reducible exact LeO.none _)
      | (with_reducible refine LeO.ite ?_ ?_)
      | (with_reducible refine LeO.bind ?_ (fun _ => ?_))
      | exact slices_ContainsFunc_string_string_mask_Check_1_1.mono _ _
      | exact LeO.none _
      | refine LeO.ite ?_ ?_
      | refine LeO.bind ?_ (fun _ => ?_)
set_option maxHeartbeats 8000000 in
set_option maxRecDepth 100000 in
theorem mask_Check_1.calls (k : Nat) (A0 : Option Addr) (c0 : Nat) (l0 : List ByteArray) (r : Bool) (w : World) (hr0 : Kd.C Kd.string w A0 l0.length l0) (hc0 : l0.length ≤ c0) (h : mask_Check_1.f k l0 = some r) :
    Calls Tryd.prog 37 #[.slice A0 l0.length c0] w fun e w' => e = .returned (.bool r) ∧ Drawn0 w w' := by
  have HR0 := Aside0.mk hr0
  have HC0 := Aside0.mk hc0
  clear hr0 hc0
  have H : (if (l0.length : Int) = 0 then (some true) else (if (l0.length : Int) > 63 then (some true) else ((slices_ContainsFunc_string_string_mask_Check_1_1.f k l0).bind fun t256 => (some t256)))) = some r := h
  clear h
  by_cases c2 : (l0.length : Int) = 0
  · rw [if_pos c2] at H
    have c2b0 : ((l0.length : Int) == 0) = true := beq_iff_eq.mpr c2
    have c2b1 : ((l0.length : Int) != 0) = false := bne_eq_false_iff_eq.mpr c2
    clear c2
    obtain rfl := Option.some.inj H
    go_enter Tryd.func37, Tryd.ntmps37
    go_wp2
    go_ret
    exact ⟨by first | rfl | (simp; done) | (simp [*]; done), by repeat (first | exact Drawn0.refl _ | apply Drawn0.step)⟩
  · rw [if_neg c2] at H
    have c2b0 : ((l0.length : Int) == 0) = false := beq_eq_false_iff_ne.mpr c2
    have c2b1 : ((l0.length : Int) != 0) = true := bne_iff_ne.mpr c2
    have c2b2 : ¬ (l0 = []) := fun h_ => c2 (by rw [h_]; rfl)
    by_cases c3 : (l0.length : Int) > 63
    · rw [if_pos c3] at H
      have c3b0 : decide (63 < (l0.length : Int)) = true := decide_eq_true c3
      have c3b1 : decide (63 < l0.length) = true := decide_eq_true (by omega)
      clear c3
      obtain rfl := Option.some.inj H
      go_enter Tryd.func37, Tryd.ntmps37
      go_wp2
      go_ret
      exact ⟨by first | rfl | (simp; done) | (simp [*]; done), by repeat (first | exact Drawn0.refl _ | apply Drawn0.step)⟩
    · rw [if_neg c3] at H
      have c3b0 : decide (63 < (l0.length : Int)) = false := decide_eq_false c3
      have c3b1 : decide (63 < l0.length) = false := decide_eq_false (by omega)
      clear c3
      replace H := Option.bind_eq_some_iff.mp H
      obtain ⟨t256, A40, H⟩ := H
      replace H : (some t256) = some r := H
      have A4 := Aside0.mk A40
      clear A40
      obtain rfl := Option.some.inj H
      go_enter Tryd.func37, Tryd.ntmps37
      go_wp2_with (first | (go_at_call 29; (with_reducible refine (slices_ContainsFunc_string_string_mask_Check_1_1.calls k _ _ l0 t256 _ ?side1 ?side2 A4.out).mono ?_); (case side1 => repeat (first | exact HR0.out | (with_reducible refine Kd.C_alloc ?_ _) | (with_reducible refine Kd.C_drewN ?_ _) | (with_reducible refine Kd.C_drew ?_))); (case side2 => exact HC0.out); rintro e w' ⟨rfl, ⟨nd, rfl⟩⟩))
      go_ret
      exact ⟨by first | rfl | (simp; done) | (simp [*]; done), by repeat (first | exact Drawn0.refl _ | apply Drawn0.step)⟩

end Go.Proofs.YtondpnipoogoiaaDoor.X
-- A walk, written by a program of this session (xp.py).
namespace Go.Proofs.YtondpnipoogoiaaDoor.X
open Go.RowKit Go.Proofs.YtondpnipoogoiaaDoorW.PrintWords Go.Proofs.YtondpnipoogoiaaDoorW.PrintLast Go.Proofs.YtondpnipoogoiaaDoorW.PrintMore
attribute [local go_sem] max2_int min2_int max_two min_two max_three min_three max_four min_four
set_option linter.unusedVariables false
set_option linter.unusedSimpArgs false

/-! ### slices_IndexFunc_string_string_mask_Check_1: function 46 -/
def slices_IndexFunc_string_string_mask_Check_1.l0 : Nat → List (List ByteArray) → Int → Int → Option (Int)
  | 0, _, _, _ => none
  | k + 1, x0, x7, x8 => if x8 < x7 then (if 0 ≤ x8 then (if x8 < (x0.length : Int) then ((mask_Check_1.f k (rd_L6 x0 x8)).bind fun t258 => (if t258 = true then (some x8) else (slices_IndexFunc_string_string_mask_Check_1.l0 k x0 x7 (wrap64 (x8 + 1))))) else (none)) else (none)) else (some (-1))
def slices_IndexFunc_string_string_mask_Check_1.f (k : Nat) (l0 : List (List ByteArray))  : Option (Int) := slices_IndexFunc_string_string_mask_Check_1.l0 k l0 (l0.length : Int) 0
set_option maxHeartbeats 8000000 in
set_option maxRecDepth 100000 in
theorem slices_IndexFunc_string_string_mask_Check_1.calls (k : Nat) (A0 : Option Addr) (c0 : Nat) (l0 : List (List ByteArray))  (r : Int) (w : World) (hr0 : Kd.C (Kd.slice 9 Kd.string) w A0 l0.length l0) (hc0 : l0.length ≤ c0) (h : slices_IndexFunc_string_string_mask_Check_1.f k l0 = some r) :
    Calls Tryd.prog 46 #[.slice A0 l0.length c0, .func (.func 37) #[] #[]] w fun e w' => e = .returned (.int .i64 r) ∧ Drawn0 w w' := by
  have HR0 := Aside0.mk hr0
  have HC0 := Aside0.mk hc0
  clear hr0 hc0
  have H : (slices_IndexFunc_string_string_mask_Check_1.l0 k l0 (l0.length : Int) 0) = some r := h
  clear h
  have H' := Aside0.mk H
  clear H
  go_enter Tryd.func46, Tryd.ntmps46
  go_wp2
  go_loopg [8] k (fun kq v8 w' => ∃ (x8_1 : Int), v8 = .int .i64 x8_1 ∧ Aside0 (slices_IndexFunc_string_string_mask_Check_1.l0 kq l0 (l0.length : Int) x8_1 = some r) ∧ Aside0 (kq ≤ k) ∧ Drawn0 w w')
  case atStart => exact ⟨(0), (by first | rfl | (simp; done) | (simp [*]; done)), H', ⟨Nat.le_refl _⟩, by repeat (first | exact Drawn0.refl _ | apply Drawn0.step)⟩
  case round =>
    clear H'
    try clear p2
    obtain ⟨x8_1, rfl, HA, HK1, ⟨m1, rfl⟩⟩ := hrel
    cases gk with
    | zero => exact absurd HA.out (by simp [slices_IndexFunc_string_string_mask_Check_1.l0])
    | succ k1 =>
      have H := HA.out
      clear HA
      simp only [slices_IndexFunc_string_string_mask_Check_1.l0] at H
      by_cases c3 : x8_1 < (l0.length : Int)
      · rw [if_pos c3] at H
        have c3b0 : decide (x8_1 < (l0.length : Int)) = true := decide_eq_true c3
        clear c3
        by_cases c4 : 0 ≤ x8_1
        · rw [if_pos c4] at H
          have c4b0 : decide (0 ≤ x8_1) = true := decide_eq_true c4
          clear c4
          by_cases c5 : x8_1 < (l0.length : Int)
          · rw [if_pos c5] at H
            have c5b0 : decide (x8_1 < (l0.length : Int)) = true := decide_eq_true c5
            clear c5
            replace H := Option.bind_eq_some_iff.mp H
            obtain ⟨t258, A60, H⟩ := H
            replace H : (if t258 = true then (some x8_1) else (slices_IndexFunc_string_string_mask_Check_1.l0 k1 l0 (l0.length : Int) (wrap64 (x8_1 + 1)))) = some r := H
            have A6 := Aside0.mk A60
            clear A60
            by_cases c7 : t258 = true
            · subst c7
              have H1 : (some x8_1) = some r := by rw [if_pos rfl] at H; exact H
              clear H
              have H := H1
              clear H1
              obtain rfl := Option.some.inj H
              have p257 : 0 ≤ (x8_1 : Int) := of_decide_eq_true (by first | (with_reducible assumption) | assumption)
              have q257 : x8_1 < (l0.length : Int) := of_decide_eq_true (by first | (with_reducible assumption) | assumption)
              obtain ⟨ad257, A257_0, c257_0, e257, hx257_0, hl257_0, hi257_0⟩ := at_L6 HR0.out x8_1 p257 q257
              cases e257
              have HR257_0 := Aside0.mk hi257_0
              have HC257_0 := Aside0.mk hl257_0
              clear hi257_0 hl257_0
              replace p257 := eq_true p257
              replace q257 := eq_true q257
              go_wp2_with (first | ((with_reducible refine gate_dst (N := 16) rfl ?_); refine goesT_ (some 16) rfl rfl Tryd.func37 (by kernel_rfl) rfl #[.slice A257_0 (rd_L6 l0 x8_1).length c257_0] rfl (by (try simp only [List.map_toArray, List.map_cons, List.map_nil]); first | done | rfl | (simp only [List.length_drop, List.length_take]; rfl)) ?_; (with_reducible refine (mask_Check_1.calls k1 _ _ (rd_L6 l0 x8_1) true _ ?side1 ?side2 A6.out).mono ?_); (case side1 => repeat (first | exact HR257_0.out | (with_reducible refine Kd.C_alloc ?_ _) | (with_reducible refine Kd.C_drewN ?_ _) | (with_reducible refine Kd.C_drew ?_))); (case side2 => exact HC257_0.out); rintro e w' ⟨rfl, ⟨nd, rfl⟩⟩; refine ⟨_, rfl, ?_⟩))
              go_ret
              exact ⟨by first | rfl | (simp; done) | (simp [*]; done), by repeat (first | exact Drawn0.refl _ | apply Drawn0.step)⟩
            · replace c7 := Bool.eq_false_iff.mpr c7
              subst c7
              have H1 : (slices_IndexFunc_string_string_mask_Check_1.l0 k1 l0 (l0.length : Int) (wrap64 (x8_1 + 1))) = some r := by rw [if_neg (show ¬ (false = true) by decide)] at H; exact H
              clear H
              have H := H1
              clear H1
              have H' := Aside0.mk H
              clear H
              have p257 : 0 ≤ (x8_1 : Int) := of_decide_eq_true (by first | (with_reducible assumption) | assumption)
              have q257 : x8_1 < (l0.length : Int) := of_decide_eq_true (by first | (with_reducible assumption) | assumption)
              obtain ⟨ad257, A257_0, c257_0, e257, hx257_0, hl257_0, hi257_0⟩ := at_L6 HR0.out x8_1 p257 q257
              cases e257
              have HR257_0 := Aside0.mk hi257_0
              have HC257_0 := Aside0.mk hl257_0
              clear hi257_0 hl257_0
              replace p257 := eq_true p257
              replace q257 := eq_true q257
              go_wp2_with (first | ((with_reducible refine gate_dst (N := 16) rfl ?_); refine goesT_ (some 16) rfl rfl Tryd.func37 (by kernel_rfl) rfl #[.slice A257_0 (rd_L6 l0 x8_1).length c257_0] rfl (by (try simp only [List.map_toArray, List.map_cons, List.map_nil]); first | done | rfl | (simp only [List.length_drop, List.length_take]; rfl)) ?_; (with_reducible refine (mask_Check_1.calls k1 _ _ (rd_L6 l0 x8_1) false _ ?side1 ?side2 A6.out).mono ?_); (case side1 => repeat (first | exact HR257_0.out | (with_reducible refine Kd.C_alloc ?_ _) | (with_reducible refine Kd.C_drewN ?_ _) | (with_reducible refine Kd.C_drew ?_))); (case side2 => exact HC257_0.out); rintro e w' ⟨rfl, ⟨nd, rfl⟩⟩; refine ⟨_, rfl, ?_⟩))
              go_roundg k1
              case measure => have := HK1.out; omega
              case rel => exact ⟨(wrap64 (x8_1 + 1)), (by first | rfl | (simp; done) | (simp [*]; done)), H', ⟨by have := HK1.out; omega⟩, by repeat (first | exact Drawn0.refl _ | apply Drawn0.step)⟩
          · rw [if_neg c5] at H
            exact absurd H (by simp)
        · rw [if_neg c4] at H
          exact absurd H (by simp)
      · rw [if_neg c3] at H
        have c3b0 : decide (x8_1 < (l0.length : Int)) = false := decide_eq_false c3
        clear c3
        obtain rfl := Option.some.inj H
        go_wp2
        go_ret
        exact ⟨by first | rfl | (simp; done) | (simp [*]; done), by repeat (first | exact Drawn0.refl _ | apply Drawn0.step)⟩

end Go.Proofs.YtondpnipoogoiaaDoor.X
-- A walk, written by a program of this session (xp.py).
namespace Go.Proofs.YtondpnipoogoiaaDoor.X
open Go.RowKit Go.Proofs.YtondpnipoogoiaaDoorW.PrintWords Go.Proofs.YtondpnipoogoiaaDoorW.PrintLast Go.Proofs.YtondpnipoogoiaaDoorW.PrintMore
attribute [local go_sem] max2_int min2_int max_two min_two max_three min_three max_four min_four
set_option linter.unusedVariables false
set_option linter.unusedSimpArgs false

/-! ### slices_ContainsFunc_string_string_mask_Check_1: function 36 -/
def slices_ContainsFunc_string_string_mask_Check_1.f (k : Nat) (l0 : List (List ByteArray))  : Option (Bool) := (slices_IndexFunc_string_string_mask_Check_1.f k l0).bind fun t259 => (some (decide (t259 ≥ 0)))
set_option maxHeartbeats 8000000 in
set_option maxRecDepth 100000 in
theorem slices_ContainsFunc_string_string_mask_Check_1.calls (k : Nat) (A0 : Option Addr) (c0 : Nat) (l0 : List (List ByteArray))  (r : Bool) (w : World) (hr0 : Kd.C (Kd.slice 9 Kd.string) w A0 l0.length l0) (hc0 : l0.length ≤ c0) (h : slices_ContainsFunc_string_string_mask_Check_1.f k l0 = some r) :
    Calls Tryd.prog 36 #[.slice A0 l0.length c0, .func (.func 37) #[] #[]] w fun e w' => e = .returned (.bool r) ∧ Drawn0 w w' := by
  have HR0 := Aside0.mk hr0
  have HC0 := Aside0.mk hc0
  clear hr0 hc0
  have H : ((slices_IndexFunc_string_string_mask_Check_1.f k l0).bind fun t259 => (some (decide (t259 ≥ 0)))) = some r := h
  clear h
  replace H := Option.bind_eq_some_iff.mp H
  obtain ⟨t259, A30, H⟩ := H
  replace H : (some (decide (t259 ≥ 0))) = some r := H
  have A3 := Aside0.mk A30
  clear A30
  obtain rfl := Option.some.inj H
  go_enter Tryd.func36, Tryd.ntmps36
  go_wp2_with (first | ((with_reducible refine gate_callee (f := 46) rfl ?_); refine goesL_ (some 7) rfl rfl Tryd.func46 (by kernel_rfl) rfl #[.slice A0 l0.length c0, .func (.func 37) #[] #[]] rfl (by (try simp only [List.map_toArray, List.map_cons, List.map_nil]); first | done | rfl | (simp only [List.length_drop, List.length_take]; rfl)) ?_; (with_reducible refine (slices_IndexFunc_string_string_mask_Check_1.calls k _ _ l0 t259 _ ?side1 ?side2 A3.out).mono ?_); (case side1 => repeat (first | exact HR0.out | (with_reducible refine Kd.C_alloc ?_ _) | (with_reducible refine Kd.C_drewN ?_ _) | (with_reducible refine Kd.C_drew ?_))); (case side2 => exact HC0.out); rintro e w' ⟨rfl, ⟨nd, rfl⟩⟩; refine ⟨_, rfl, ?_⟩))
  go_ret
  exact ⟨by first | rfl | (simp; done) | (simp [*]; done), by repeat (first | exact Drawn0.refl _ | apply Drawn0.step)⟩

end Go.Proofs.YtondpnipoogoiaaDoor.X
-- A walk, written by a program of this session (xp.py).
namespace Go.Proofs.YtondpnipoogoiaaDoor.X
open Go.RowKit Go.Proofs.YtondpnipoogoiaaDoorW.PrintWords Go.Proofs.YtondpnipoogoiaaDoorW.PrintLast Go.Proofs.YtondpnipoogoiaaDoorW.PrintMore
attribute [local go_sem] max2_int min2_int max_two min_two max_three min_three max_four min_four
set_option linter.unusedVariables false
set_option linter.unusedSimpArgs false

/-! ### mask_Check: function 20 -/
def mask_Check.f (k : Nat) (l0 : List (List ByteArray)) : Option (Bool) := if (l0.length : Int) ≤ 60 then ((slices_ContainsFunc_string_string_mask_Check_1.f k l0).bind fun t260 => (some (!t260))) else (some false)
set_option maxHeartbeats 8000000 in
set_option maxRecDepth 100000 in
theorem mask_Check.calls (k : Nat) (A0 : Option Addr) (c0 : Nat) (l0 : List (List ByteArray)) (r : Bool) (w : World) (hr0 : Kd.C (Kd.slice 9 Kd.string) w A0 l0.length l0) (hc0 : l0.length ≤ c0) (h : mask_Check.f k l0 = some r) :
    Calls Tryd.prog 20 #[.slice A0 l0.length c0] w fun e w' => e = .returned (.bool r) ∧ Drawn0 w w' := by
  have HR0 := Aside0.mk hr0
  have HC0 := Aside0.mk hc0
  clear hr0 hc0
  have H : (if (l0.length : Int) ≤ 60 then ((slices_ContainsFunc_string_string_mask_Check_1.f k l0).bind fun t260 => (some (!t260))) else (some false)) = some r := h
  clear h
  by_cases c2 : (l0.length : Int) ≤ 60
  · rw [if_pos c2] at H
    have c2b0 : decide ((l0.length : Int) ≤ 60) = true := decide_eq_true c2
    have c2b1 : decide (l0.length ≤ 60) = true := decide_eq_true (by omega)
    clear c2
    replace H := Option.bind_eq_some_iff.mp H
    obtain ⟨t260, A30, H⟩ := H
    replace H : (some (!t260)) = some r := H
    have A3 := Aside0.mk A30
    clear A30
    obtain rfl := Option.some.inj H
    go_enter Tryd.func20, Tryd.ntmps20
    go_wp2_with (first | (go_at_call 36; (with_reducible refine (slices_ContainsFunc_string_string_mask_Check_1.calls k _ _ l0 t260 _ ?side1 ?side2 A3.out).mono ?_); (case side1 => repeat (first | exact HR0.out | (with_reducible refine Kd.C_alloc ?_ _) | (with_reducible refine Kd.C_drewN ?_ _) | (with_reducible refine Kd.C_drew ?_))); (case side2 => exact HC0.out); rintro e w' ⟨rfl, ⟨nd, rfl⟩⟩))
    go_ret
    exact ⟨by first | rfl | (simp; done) | (simp [*]; done), by repeat (first | exact Drawn0.refl _ | apply Drawn0.step)⟩
  · rw [if_neg c2] at H
    have c2b0 : decide ((l0.length : Int) ≤ 60) = false := decide_eq_false c2
    have c2b1 : decide (l0.length ≤ 60) = false := decide_eq_false (by omega)
    clear c2
    obtain rfl := Option.some.inj H
    go_enter Tryd.func20, Tryd.ntmps20
    go_wp2
    go_ret
    exact ⟨by first | rfl | (simp; done) | (simp [*]; done), by repeat (first | exact Drawn0.refl _ | apply Drawn0.step)⟩

end Go.Proofs.YtondpnipoogoiaaDoor.X
-- A walk, written by a program of this session (xp.py).
namespace Go.Proofs.YtondpnipoogoiaaDoor.X
open Go.RowKit Go.Proofs.YtondpnipoogoiaaDoorW.PrintWords Go.Proofs.YtondpnipoogoiaaDoorW.PrintLast Go.Proofs.YtondpnipoogoiaaDoorW.PrintMore
attribute [local go_sem] max2_int min2_int max_two min_two max_three min_three max_four min_four
set_option linter.unusedVariables false
set_option linter.unusedSimpArgs false

/-! ### mask_Parse_1: function 30 -/
def mask_Parse_1.f (k : Nat) (a0 : ByteArray) : Option (Bool) := (mask_Name.f k a0).bind fun t261 => (some (!t261))
theorem mask_Parse_1.mono : ∀ a0 k, LeO (mask_Parse_1.f k a0) (mask_Parse_1.f (k + 1) a0) := by
  intro a0 k
  unfold mask_Parse_1.f
  repeat' first
      | (with_reducible exact mask_Name.mono _ _)
      | (with_reducible exact LeO.refl _)
      | (with_reducible exact LeO.none _)
      | (with_reducible refine LeO.ite ?_ ?_)
      | (with_reducible refine LeO.bind ?_ (fun _ => ?_))
      | exact mask_Name.mono _ _
      | exact LeO.none _
      | refine LeO.ite ?_ ?_
      | refine LeO.bind ?_ (fun _ => ?_)
set_option maxHeartbeats 8000000 in
set_option maxRecDepth 100000 in
theorem mask_Parse_1.calls (k : Nat) (a0 : ByteArray) (r : Bool) (w : World) (h : mask_Parse_1.f k a0 = some r) :
    Calls Tryd.prog 30 #[.string a0] w fun e w' => e = .returned (.bool r) ∧ Drawn0 w w' := by
  have H : ((mask_Name.f k a0).bind fun t261 => (some (!t261))) = some r := h
  clear h
  replace H := Option.bind_eq_some_iff.mp H
  obtain ⟨t261, A20, H⟩ := H
  replace H : (some (!t261)) = some r := H
  have A2 := Aside0.mk A20
  clear A20
  obtain rfl := Option.some.inj H
  go_enter Tryd.func30, Tryd.ntmps30
  go_wp2_with (first | ((with_reducible refine gate_callee (f := 31) rfl ?_); refine goesL_ (some 4) rfl rfl Tryd.func31 (by kernel_rfl) rfl #[.string a0] rfl (by (try simp only [List.map_toArray, List.map_cons, List.map_nil]); first | done | rfl | (simp only [List.length_drop, List.length_take]; rfl)) ?_; (with_reducible refine (mask_Name.calls k a0 t261 _ A2.out).mono ?_); rintro e w' ⟨rfl, ⟨nd, rfl⟩⟩; refine ⟨_, rfl, ?_⟩))
  go_ret
  exact ⟨by first | rfl | (simp; done) | (simp [*]; done), by repeat (first | exact Drawn0.refl _ | apply Drawn0.step)⟩

end Go.Proofs.YtondpnipoogoiaaDoor.X
-- A walk, written by a program of this session (xp.py).
namespace Go.Proofs.YtondpnipoogoiaaDoor.X
open Go.RowKit Go.Proofs.YtondpnipoogoiaaDoorW.PrintWords Go.Proofs.YtondpnipoogoiaaDoorW.PrintLast Go.Proofs.YtondpnipoogoiaaDoorW.PrintMore
attribute [local go_sem] max2_int min2_int max_two min_two max_three min_three max_four min_four
set_option linter.unusedVariables false
set_option linter.unusedSimpArgs false

/-! ### slices_IndexFunc_string_string_mask_Parse_1: function 42 -/
def slices_IndexFunc_string_string_mask_Parse_1.l0 : Nat → List ByteArray → Int → Int → Option (Int)
  | 0, _, _, _ => none
  | k + 1, x0, x7, x8 => if x8 < x7 then (if 0 ≤ x8 then (if x8 < (x0.length : Int) then ((mask_Parse_1.f k (rdOf ByteArray.empty x0 x8)).bind fun t263 => (if t263 = true then (some x8) else (slices_IndexFunc_string_string_mask_Parse_1.l0 k x0 x7 (wrap64 (x8 + 1))))) else (none)) else (none)) else (some (-1))
def slices_IndexFunc_string_string_mask_Parse_1.f (k : Nat) (l0 : List ByteArray)  : Option (Int) := slices_IndexFunc_string_string_mask_Parse_1.l0 k l0 (l0.length : Int) 0
theorem slices_IndexFunc_string_string_mask_Parse_1.mono_l : ∀ k, (∀ y0 y1 y2, LeO (slices_IndexFunc_string_string_mask_Parse_1.l0 k y0 y1 y2) (slices_IndexFunc_string_string_mask_Parse_1.l0 (k + 1) y0 y1 y2))
  | 0 => fun _ _ _ r h => by simp [slices_IndexFunc_string_string_mask_Parse_1.l0] at h
  | k + 1 => by
    have ih0 := slices_IndexFunc_string_string_mask_Parse_1.mono_l k
    · intro y0 y1 y2
      unfold slices_IndexFunc_string_string_mask_Parse_1.l0
      repeat' first
      | (with_reducible exact ih0 _ _ _)
      | (with_reducible exact mask_Parse_1.mono _ _)
      | (with_reducible exact LeO.refl _)
      | (with_reducible exact LeO.none _)
      | (with_reducible refine LeO.ite ?_ ?_)
      | (with_reducible refine LeO.bind ?_ (fun _ => ?_))
      | exact ih0 _ _ _
      | exact mask_Parse_1.mono _ _
      | exact LeO.none _
      | refine LeO.ite ?_ ?_
      | refine LeO.bind ?_ (fun _ => ?_)
theorem slices_IndexFunc_string_string_mask_Parse_1.mono : ∀ a0 k, LeO (slices_IndexFunc_string_string_mask_Parse_1.f k a0) (slices_IndexFunc_string_string_mask_Parse_1.f (k + 1) a0) := by
  intro a0 k
  have ih0 := slices_IndexFunc_string_string_mask_Parse_1.mono_l k
  unfold slices_IndexFunc_string_string_mask_Parse_1.f
  repeat' first
      | (with_reducible exact ih0 _ _ _)
      | (with_reducible exact mask_Parse_1.mono _ _)
      | (with_reducible exact LeO.refl _)
      | (with_reducible exact LeO.none _)
      | (with_reducible refine LeO.ite ?_ ?_)
      | (with_reducible refine LeO.bind ?_ (fun _ => ?_))
      | exact ih0 _ _ _
      | exact mask_Parse_1.mono _ _
      | exact LeO.none _
      | refine LeO.ite ?_ ?_
      | refine LeO.bind ?_ (fun _ => ?_)
set_option maxHeartbeats 8000000 in
set_option maxRecDepth 100000 in
theorem slices_IndexFunc_string_string_mask_Parse_1.calls (k : Nat) (A0 : Option Addr) (c0 : Nat) (l0 : List ByteArray)  (r : Int) (w : World) (hr0 : Kd.C Kd.string w A0 l0.length l0) (hc0 : l0.length ≤ c0) (h : slices_IndexFunc_string_string_mask_Parse_1.f k l0 = some r) :
    Calls Tryd.prog 42 #[.slice A0 l0.length c0, .func (.func 30) #[] #[]] w fun e w' => e = .returned (.int .i64 r) ∧ Drawn0 w w' := by
  have HR0 := Aside0.mk hr0
  have HC0 := Aside0.mk hc0
  clear hr0 hc0
  have H : (slices_IndexFunc_string_string_mask_Parse_1.l0 k l0 (l0.length : Int) 0) = some r := h
  clear h
  have H' := Aside0.mk H
  clear H
  go_enter Tryd.func42, Tryd.ntmps42
  go_wp2
  go_loopg [8] k (fun kq v8 w' => ∃ (x8_1 : Int), v8 = .int .i64 x8_1 ∧ Aside0 (slices_IndexFunc_string_string_mask_Parse_1.l0 kq l0 (l0.length : Int) x8_1 = some r) ∧ Aside0 (kq ≤ k) ∧ Drawn0 w w')
  case atStart => exact ⟨(0), (by first | rfl | (simp; done) | (simp [*]; done)), H', ⟨Nat.le_refl _⟩, by repeat (first | exact Drawn0.refl _ | apply Drawn0.step)⟩
  case round =>
    clear H'
    try clear p2
    obtain ⟨x8_1, rfl, HA, HK1, ⟨m1, rfl⟩⟩ := hrel
    cases gk with
    | zero => exact absurd HA.out (by simp [slices_IndexFunc_string_string_mask_Parse_1.l0])
    | succ k1 =>
      have H := HA.out
      clear HA
      simp only [slices_IndexFunc_string_string_mask_Parse_1.l0] at H
      by_cases c3 : x8_1 < (l0.length : Int)
      · rw [if_pos c3] at H
        have c3b0 : decide (x8_1 < (l0.length : Int)) = true := decide_eq_true c3
        clear c3
        by_cases c4 : 0 ≤ x8_1
        · rw [if_pos c4] at H
          have c4b0 : decide (0 ≤ x8_1) = true := decide_eq_true c4
          clear c4
          by_cases c5 : x8_1 < (l0.length : Int)
          · rw [if_pos c5] at H
            have c5b0 : decide (x8_1 < (l0.length : Int)) = true := decide_eq_true c5
            clear c5
            replace H := Option.bind_eq_some_iff.mp H
            obtain ⟨t263, A60, H⟩ := H
            replace H : (if t263 = true then (some x8_1) else (slices_IndexFunc_string_string_mask_Parse_1.l0 k1 l0 (l0.length : Int) (wrap64 (x8_1 + 1)))) = some r := H
            have A6 := Aside0.mk A60
            clear A60
            by_cases c7 : t263 = true
            · subst c7
              have H1 : (some x8_1) = some r := by rw [if_pos rfl] at H; exact H
              clear H
              have H := H1
              clear H1
              obtain rfl := Option.some.inj H
              have p262 : 0 ≤ (x8_1 : Int) := of_decide_eq_true (by first | (with_reducible assumption) | assumption)
              have q262 : x8_1 < (l0.length : Int) := of_decide_eq_true (by first | (with_reducible assumption) | assumption)
              obtain ⟨ad262, e262, hx262_0⟩ := Kd.at_string HR0.out x8_1 p262 q262
              cases e262
              replace p262 := eq_true p262
              replace q262 := eq_true q262
              go_wp2_with (first | ((with_reducible refine gate_dst (N := 16) rfl ?_); refine goesT_ (some 16) rfl rfl Tryd.func30 (by kernel_rfl) rfl #[.string (rdOf ByteArray.empty l0 x8_1)] rfl (by (try simp only [List.map_toArray, List.map_cons, List.map_nil]); first | done | rfl | (simp only [List.length_drop, List.length_take]; rfl)) ?_; (with_reducible refine (mask_Parse_1.calls k1 (rdOf ByteArray.empty l0 x8_1) true _ A6.out).mono ?_); rintro e w' ⟨rfl, ⟨nd, rfl⟩⟩; refine ⟨_, rfl, ?_⟩))
              go_ret
              exact ⟨by first | rfl | (simp; done) | (simp [*]; done), by repeat (first | exact Drawn0.refl _ | apply Drawn0.step)⟩
            · replace c7 := Bool.eq_false_iff.mpr c7
              subst c7
              have H1 : (slices_IndexFunc_string_string_mask_Parse_1.l0 k1 l0 (l0.length : Int) (wrap64 (x8_1 + 1))) = some r := by rw [if_neg (show ¬ (false = true) by decide)] at H; exact H
              clear H
              have H := H1
              clear H1
              have H' := Aside0.mk H
              clear H
              have p262 : 0 ≤ (x8_1 : Int) := of_decide_eq_true (by first | (with_reducible assumption) | assumption)
              have q262 : x8_1 < (l0.length : Int) := of_decide_eq_true (by first | (with_reducible assumption) | assumption)
              obtain ⟨ad262, e262, hx262_0⟩ := Kd.at_string HR0.out x8_1 p262 q262
              cases e262
              replace p262 := eq_true p262
              replace q262 := eq_true q262
              go_wp2_with (first | ((with_reducible refine gate_dst (N := 16) rfl ?_); refine goesT_ (some 16) rfl rfl Tryd.func30 (by kernel_rfl) rfl #[.string (rdOf ByteArray.empty l0 x8_1)] rfl (by (try simp only [List.map_toArray, List.map_cons, List.map_nil]); first | done | rfl | (simp only [List.length_drop, List.length_take]; rfl)) ?_; (with_reducible refine (mask_Parse_1.calls k1 (rdOf ByteArray.empty l0 x8_1) false _ A6.out).mono ?_); rintro e w' ⟨rfl, ⟨nd, rfl⟩⟩; refine ⟨_, rfl, ?_⟩))
              go_roundg k1
              case measure => have := HK1.out; omega
              case rel => exact ⟨(wrap64 (x8_1 + 1)), (by first | rfl | (simp; done) | (simp [*]; done)), H', ⟨by have := HK1.out; omega⟩, by repeat (first | exact Drawn0.refl _ | apply Drawn0.step)⟩
          · rw [if_neg c5] at H
            exact absurd H (by simp)
        · rw [if_neg c4] at H
          exact absurd H (by simp)
      · rw [if_neg c3] at H
        have c3b0 : decide (x8_1 < (l0.length : Int)) = false := decide_eq_false c3
        clear c3
        obtain rfl := Option.some.inj H
        go_wp2
        go_ret
        exact ⟨by first | rfl | (simp; done) | (simp [*]; done), by repeat (first | exact Drawn0.refl _ | apply Drawn0.step)⟩

end Go.Proofs.YtondpnipoogoiaaDoor.X
-- A walk, written by a program of this session (xp.py).
namespace Go.Proofs.YtondpnipoogoiaaDoor.X
open Go.RowKit Go.Proofs.YtondpnipoogoiaaDoorW.PrintWords Go.Proofs.YtondpnipoogoiaaDoorW.PrintLast Go.Proofs.YtondpnipoogoiaaDoorW.PrintMore
attribute [local go_sem] max2_int min2_int max_two min_two max_three min_three max_four min_four
set_option linter.unusedVariables false
set_option linter.unusedSimpArgs false

/-! ### slices_ContainsFunc_string_string_mask_Parse_1: function 29 -/
def slices_ContainsFunc_string_string_mask_Parse_1.f (k : Nat) (l0 : List ByteArray)  : Option (Bool) := (slices_IndexFunc_string_string_mask_Parse_1.f k l0).bind fun t264 => (some (decide (t264 ≥ 0)))
theorem slices_ContainsFunc_string_string_mask_Parse_1.mono : ∀ a0 k, LeO (slices_ContainsFunc_string_string_mask_Parse_1.f k a0) (slices_ContainsFunc_string_string_mask_Parse_1.f (k + 1) a0) := by
  intro a0 k
  unfold slices_ContainsFunc_string_string_mask_Parse_1.f
  repeat' first
      | (with_reducible exact slices_IndexFunc_string_string_mask_Parse_1.mono _ _)
      | (with_reducible exact LeO.refl _)
      | (with_reducible exact LeO.none _)
      | (with_reducible refine LeO.ite ?_ ?_)
      | (with_reducible refine LeO.bind ?_ (fun _ => ?_))
      | exact slices_IndexFunc_string_string_mask_Parse_1.mono _ _
      | exact LeO.none _
      | refine LeO.ite ?_ ?_
      | refine LeO.bind ?_ (fun _ => ?_)
set_option maxHeartbeats 8000000 in
set_option maxRecDepth 100000 in
theorem slices_ContainsFunc_string_string_mask_Parse_1.calls (k : Nat) (A0 : Option Addr) (c0 : Nat) (l0 : List ByteArray)  (r : Bool) (w : World) (hr0 : Kd.C Kd.string w A0 l0.length l0) (hc0 : l0.length ≤ c0) (h : slices_ContainsFunc_string_string_mask_Parse_1.f k l0 = some r) :
    Calls Tryd.prog 29 #[.slice A0 l0.length c0, .func (.func 30) #[] #[]] w fun e w' => e = .returned (.bool r) ∧ Drawn0 w w' := by
  have HR0 := Aside0.mk hr0
  have HC0 := Aside0.mk hc0
  clear hr0 hc0
  have H : ((slices_IndexFunc_string_string_mask_Parse_1.f k l0).bind fun t264 => (some (decide (t264 ≥ 0)))) = some r := h
  clear h
  replace H := Option.bind_eq_some_iff.mp H
  obtain ⟨t264, A30, H⟩ := H
  replace H : (some (decide (t264 ≥ 0))) = some r := H
  have A3 := Aside0.mk A30
  clear A30
  obtain rfl := Option.some.inj H
  go_enter Tryd.func29, Tryd.ntmps29
  go_wp2_with (first | ((with_reducible refine gate_callee (f := 42) rfl ?_); refine goesL_ (some 7) rfl rfl Tryd.func42 (by kernel_rfl) rfl #[.slice A0 l0.length c0, .func (.func 30) #[] #[]] rfl (by (try simp only [List.map_toArray, List.map_cons, List.map_nil]); first | done | rfl | (simp only [List.length_drop, List.length_take]; rfl)) ?_; (with_reducible refine (slices_IndexFunc_string_string_mask_Parse_1.calls k _ _ l0 t264 _ ?side1 ?side2 A3.out).mono ?_); (case side1 => repeat (first | exact HR0.out | (with_reducible refine Kd.C_alloc ?_ _) | (with_reducible refine Kd.C_drewN ?_ _) | (with_reducible refine Kd.C_drew ?_))); (case side2 => exact HC0.out); rintro e w' ⟨rfl, ⟨nd, rfl⟩⟩; refine ⟨_, rfl, ?_⟩))
  go_ret
  exact ⟨by first | rfl | (simp; done) | (simp [*]; done), by repeat (first | exact Drawn0.refl _ | apply Drawn0.step)⟩

end Go.Proofs.YtondpnipoogoiaaDoor.X
-- A walk, written by a program of this session (xp.py).
namespace Go.Proofs.YtondpnipoogoiaaDoor.X
open Go.RowKit Go.Proofs.YtondpnipoogoiaaDoorW.PrintWords Go.Proofs.YtondpnipoogoiaaDoorW.PrintLast Go.Proofs.YtondpnipoogoiaaDoorW.PrintMore
attribute [local go_sem] max2_int min2_int max_two min_two max_three min_three max_four min_four
set_option linter.unusedVariables false
set_option linter.unusedSimpArgs false

/-! ### mask_Parse: function 15 -/
def mask_Parse.l0 : Nat → List (List ByteArray) → List ByteArray → Int → Int → Option ((List (List ByteArray)) × Int)
  | 0, _, _, _, _ => none
  | k + 1, x4, x11, x12, x13 => if x13 < x12 then (if 0 ≤ x13 then (if x13 < (x11.length : Int) then ((strings_Split.f (rdOf ByteArray.empty x11 x13) (⟨#[46]⟩ : ByteArray)).bind fun t270 => ((slices_ContainsFunc_string_string_mask_Parse_1.f k t270).bind fun t273 => (if t273 = true then (some (([] : List (List ByteArray)), 2)) else (if x4.length < 5864062014805 then (mask_Parse.l0 k (x4 ++ [t270]) x11 x12 (wrap64 (x13 + 1))) else (none))))) else (none)) else (none)) else ((mask_Check.f k x4).bind fun t268 => (if t268 = true then (some (x4, 0)) else (some (([] : List (List ByteArray)), 4))))
def mask_Parse.f (k : Nat) (a0 : ByteArray) : Option ((List (List ByteArray)) × Int) := if a0.toList = ([] : List UInt8) then (some (([] : List (List ByteArray)), 0)) else ((strings_Split.f a0 (⟨#[44]⟩ : ByteArray)).bind fun t265 => (mask_Parse.l0 k ([] : List (List ByteArray)) t265 (t265.length : Int) 0))
set_option maxHeartbeats 8000000 in
set_option maxRecDepth 100000 in
theorem mask_Parse.calls (k : Nat) (a0 : ByteArray) (r1 : List (List ByteArray)) (r2 : Int) (w : World) (hL : Laid w) (h : mask_Parse.f k a0 = some (r1, r2)) :
    Calls Tryd.prog 15 #[.string a0] w fun e w' => ∃ v0_ : Value, e = .returned (.tuple #[v0_, .int .i64 r2]) ∧ Kd.S (Kd.slice 9 Kd.string) 26 w' w.heap.size (fun _ => True) v0_ r1 ∧ Below w.heap.size w w' := by
  replace hL := Aside0.mk hL
  have HB := Aside0.mk (Below.refl w.heap.size w)
  have H : (if a0.toList = ([] : List UInt8) then (some (([] : List (List ByteArray)), 0)) else ((strings_Split.f a0 (⟨#[44]⟩ : ByteArray)).bind fun t265 => (mask_Parse.l0 k ([] : List (List ByteArray)) t265 (t265.length : Int) 0))) = some (r1, r2) := h
  clear h
  by_cases c2 : a0.toList = ([] : List UInt8)
  · rw [if_pos c2] at H
    have c2b0 : (a0.toList == ([] : List UInt8)) = true := beq_iff_eq.mpr c2
    have c2b1 : (a0.toList != ([] : List UInt8)) = false := bne_eq_false_iff_eq.mpr c2
    clear c2
    simp only [Option.some.injEq, Prod.mk.injEq] at H
    obtain ⟨rfl, rfl⟩ := H
    go_enter Tryd.func15, Tryd.ntmps15
    go_wp2
    go_ret2
    exact ⟨_, by first | rfl | (simp [errW_none, errW_some] <;> rfl) | (simp [*, errW_none, errW_some] <;> rfl), by first | exact Kd.S_nil _ _ _ _ _ | exact Kd.N_nil _ _ _ _ _ | exact Kd.V_nil _ _ _ _ _ | exact Kd.Q_nil _ _ _ _ _ | exact Kd.R_nil _ _ _ _ _, by repeat (first | (with_reducible first | exact HB.out | apply below_alloc | apply pw_below_drewN | apply below_drew1) | exact HB.out)⟩
  · rw [if_neg c2] at H
    have c2b0 : (a0.toList == ([] : List UInt8)) = false := beq_eq_false_iff_ne.mpr c2
    have c2b1 : (a0.toList != ([] : List UInt8)) = true := bne_iff_ne.mpr c2
    replace H := Option.bind_eq_some_iff.mp H
    obtain ⟨t265, A30, H⟩ := H
    replace H : (mask_Parse.l0 k ([] : List (List ByteArray)) t265 (t265.length : Int) 0) = some (r1, r2) := H
    have A3 := Aside0.mk A30
    clear A30
    have H' := Aside0.mk H
    clear H
    go_enter Tryd.func15, Tryd.ntmps15
    go_wp2_with (first | ((with_reducible refine gate_callee (f := 28) rfl ?_); refine goesL_ (some 11) rfl rfl Tryd.func28 (by kernel_rfl) rfl #[.string a0, .string (⟨#[44]⟩ : ByteArray)] rfl (by (try simp only [List.map_toArray, List.map_cons, List.map_nil]); first | done | rfl | (simp only [List.length_drop, List.length_take]; rfl)) ?_; (with_reducible refine (strings_Split.calls a0 (⟨#[44]⟩ : ByteArray) t265 _ ?side1 A3.out).mono ?_); (case side1 => first | exact hL.out | exact hL.out.drewN _ | exact hL.out.drew | exact hL.out.below (by repeat (first | (with_reducible first | exact HB.out | apply below_alloc | apply pw_below_drewN | apply below_drew1) | exact HB.out))); rintro e w4 ⟨v266, rfl, ho0, hb⟩; refine ⟨_, rfl, ?_⟩; have n0_ := Aside0.mk (Kd.R_lower ho0 (below_size (by repeat (first | (with_reducible first | exact HB.out | apply below_alloc | apply pw_below_drewN | apply below_drew1) | exact HB.out)))); have n1_ := Aside0.mk (below_step (by repeat (first | (with_reducible first | exact HB.out | apply below_alloc | apply pw_below_drewN | apply below_drew1) | exact HB.out)) hb); clear HB; have HO267 := n0_; have HB := n1_; clear n0_ n1_; (try clear hb); (try clear hb2); (try clear hk); (try clear hi); (try clear ho0); obtain ⟨Ao5, co5, eo5⟩ := Kd.R_slice HO267.out; subst eo5))
    go_loopg [4, 13] k (fun kq v4 v13 w' => ∃ (x4_1 : List (List ByteArray)) (x13_1 : Int), v13 = .int .i64 x13_1 ∧ Aside0 (mask_Parse.l0 kq x4_1 t265 (t265.length : Int) x13_1 = some (r1, r2)) ∧ Aside0 (kq ≤ k) ∧ Aside0 (Kd.S (Kd.slice 9 Kd.string) 26 w' w.heap.size (fun k_ => some k_ ≠ ((.slice Ao5 t265.length co5) : Value).ownBlock) v4 x4_1) ∧ Aside0 (Kd.R Kd.string 9 w' w.heap.size (fun _ => True) (.slice Ao5 t265.length co5) t265) ∧ Aside0 (Below w.heap.size w w'))
    case atStart => exact ⟨(([] : List (List ByteArray))), (0), (by first | rfl | (simp; done) | (simp [*]; done)), H', ⟨Nat.le_refl _⟩, ⟨by first | exact Kd.S_nil _ _ _ _ _ | exact Kd.N_nil _ _ _ _ _ | exact Kd.V_nil _ _ _ _ _ | exact Kd.Q_nil _ _ _ _ _ | exact Kd.R_nil _ _ _ _ _⟩, ⟨by (with_reducible repeat (first | apply Kd.R_alloc | apply Kd.R_drewN | apply Kd.R_drew)); exact HO267.out⟩, ⟨by repeat (first | (with_reducible first | exact HB.out | apply below_alloc | apply pw_below_drewN | apply below_drew1) | exact HB.out)⟩⟩
    case round =>
      clear H'
      try clear c1
      try clear c2
      try clear c2b0
      try clear c2b1
      try clear p2
      obtain ⟨x4_1, x13_1, rfl, HA, HK1, HO_4, HO_11, HB⟩ := hrel
      cases gk with
      | zero => exact absurd HA.out (by simp [mask_Parse.l0])
      | succ k1 =>
        have H := HA.out
        clear HA
        simp only [mask_Parse.l0] at H
        by_cases c6 : x13_1 < (t265.length : Int)
        · rw [if_pos c6] at H
          have c6b0 : decide (x13_1 < (t265.length : Int)) = true := decide_eq_true c6
          clear c6
          by_cases c7 : 0 ≤ x13_1
          · rw [if_pos c7] at H
            have c7b0 : decide (0 ≤ x13_1) = true := decide_eq_true c7
            clear c7
            by_cases c8 : x13_1 < (t265.length : Int)
            · rw [if_pos c8] at H
              have c8b0 : decide (x13_1 < (t265.length : Int)) = true := decide_eq_true c8
              clear c8
              replace H := Option.bind_eq_some_iff.mp H
              obtain ⟨t270, A90, H⟩ := H
              replace H : ((slices_ContainsFunc_string_string_mask_Parse_1.f k1 t270).bind fun t273 => (if t273 = true then (some (([] : List (List ByteArray)), 2)) else (if x4_1.length < 5864062014805 then (mask_Parse.l0 k1 (x4_1 ++ [t270]) t265 (t265.length : Int) (wrap64 (x13_1 + 1))) else (none)))) = some (r1, r2) := H
              have A9 := Aside0.mk A90
              clear A90
              replace H := Option.bind_eq_some_iff.mp H
              obtain ⟨t273, A100, H⟩ := H
              replace H : (if t273 = true then (some (([] : List (List ByteArray)), 2)) else (if x4_1.length < 5864062014805 then (mask_Parse.l0 k1 (x4_1 ++ [t270]) t265 (t265.length : Int) (wrap64 (x13_1 + 1))) else (none))) = some (r1, r2) := H
              have A10 := Aside0.mk A100
              clear A100
              by_cases c11 : t273 = true
              · subst c11
                have H1 : (some (([] : List (List ByteArray)), 2)) = some (r1, r2) := by rw [if_pos rfl] at H; exact H
                clear H
                have H := H1
                clear H1
                simp only [Option.some.injEq, Prod.mk.injEq] at H
                obtain ⟨rfl, rfl⟩ := H
                have p269 : 0 ≤ (x13_1 : Int) := of_decide_eq_true (by first | (with_reducible assumption) | assumption)
                have q269 : x13_1 < (t265.length : Int) := of_decide_eq_true (by first | (with_reducible assumption) | assumption)
                obtain ⟨ad269, e269, hx269_0⟩ := Kd.at_string (Kd.R_reads' HO_11.out).2.2 x13_1 p269 q269
                cases e269
                replace p269 := eq_true p269
                replace q269 := eq_true q269
                go_wp2_with (first | ((with_reducible refine gate_callee (f := 28) rfl ?_); refine goesL_ (some 18) rfl rfl Tryd.func28 (by kernel_rfl) rfl #[.string (rdOf ByteArray.empty t265 x13_1), .string (⟨#[46]⟩ : ByteArray)] rfl (by (try simp only [List.map_toArray, List.map_cons, List.map_nil]); first | done | rfl | (simp only [List.length_drop, List.length_take]; rfl)) ?_; (with_reducible refine (strings_Split.calls (rdOf ByteArray.empty t265 x13_1) (⟨#[46]⟩ : ByteArray) t270 _ ?side1 A9.out).mono ?_); (case side1 => first | exact hL.out | exact hL.out.drewN _ | exact hL.out.drew | exact hL.out.below (by repeat (first | (with_reducible first | exact HB.out | apply below_alloc | apply pw_below_drewN | apply below_drew1) | exact HB.out))); rintro e w12 ⟨v271, rfl, ho0, hb⟩; refine ⟨_, rfl, ?_⟩; have n0_ := Aside0.mk (Kd.S_elder' (by (with_reducible repeat (first | apply Kd.S_alloc | apply Kd.S_drewN | apply Kd.S_drew)); exact HO_4.out) (Kd.R_base ho0) hb); have n1_ := Aside0.mk (Kd.R_elder' (by (with_reducible repeat (first | apply Kd.R_alloc | apply Kd.R_drewN | apply Kd.R_drew)); exact HO_11.out) (Kd.R_base ho0) hb); have n2_ := Aside0.mk (Kd.R_lower (Kd.R_new' ho0 (Kd.R_lt (by (with_reducible repeat (first | apply Kd.R_alloc | apply Kd.R_drewN | apply Kd.R_drew)); exact HO_11.out))) (below_size (by repeat (first | (with_reducible first | exact HB.out | apply below_alloc | apply pw_below_drewN | apply below_drew1) | exact HB.out)))); have n3_ := Aside0.mk (below_step (by repeat (first | (with_reducible first | exact HB.out | apply below_alloc | apply pw_below_drewN | apply below_drew1) | exact HB.out)) hb); clear HO_4; clear HO_11; clear HB; have HO_4 := n0_; have HO_11 := n1_; have HO272 := n2_; have HB := n3_; clear n0_ n1_ n2_ n3_; (try clear hb); (try clear hb2); (try clear hk); (try clear hi); (try clear ho0); obtain ⟨Ao13, co13, eo13⟩ := Kd.R_slice HO272.out; subst eo13) | ((with_reducible refine gate_callee (f := 29) rfl ?_); refine goesL_ (some 20) rfl rfl Tryd.func29 (by kernel_rfl) rfl #[.slice Ao13 t270.length co13, .func (.func 30) #[] #[]] rfl (by (try simp only [List.map_toArray, List.map_cons, List.map_nil]); first | done | rfl | (simp only [List.length_drop, List.length_take]; rfl)) ?_; (with_reducible refine (slices_ContainsFunc_string_string_mask_Parse_1.calls k1 _ _ t270 true _ ?side1 ?side2 A10.out).mono ?_); (case side1 => repeat (first | exact (Kd.R_reads' HO272.out).2.2 | (with_reducible refine Kd.C_alloc ?_ _) | (with_reducible refine Kd.C_drewN ?_ _) | (with_reducible refine Kd.C_drew ?_))); (case side2 => exact (Kd.R_reads' HO272.out).2.1); rintro e w' ⟨rfl, ⟨nd, rfl⟩⟩; refine ⟨_, rfl, ?_⟩))
                go_ret2
                exact ⟨_, by first | rfl | (simp [errW_none, errW_some] <;> rfl) | (simp [*, errW_none, errW_some] <;> rfl), by first | exact Kd.S_nil _ _ _ _ _ | exact Kd.N_nil _ _ _ _ _ | exact Kd.V_nil _ _ _ _ _ | exact Kd.Q_nil _ _ _ _ _ | exact Kd.R_nil _ _ _ _ _, by repeat (first | (with_reducible first | exact HB.out | apply below_alloc | apply pw_below_drewN | apply below_drew1) | exact HB.out)⟩
              · replace c11 := Bool.eq_false_iff.mpr c11
                subst c11
                have H1 : (if x4_1.length < 5864062014805 then (mask_Parse.l0 k1 (x4_1 ++ [t270]) t265 (t265.length : Int) (wrap64 (x13_1 + 1))) else (none)) = some (r1, r2) := by rw [if_neg (show ¬ (false = true) by decide)] at H; exact H
                clear H
                have H := H1
                clear H1
                by_cases c14 : x4_1.length < 5864062014805
                · rw [if_pos c14] at H
                  have LMc14 := Aside0.mk c14
                  clear c14
                  obtain ⟨y274, hy274⟩ : ∃ y_ : List (List ByteArray), y_ = (x4_1 ++ [t270]) := ⟨_, rfl⟩
                  replace H : (mask_Parse.l0 k1 y274 t265 (t265.length : Int) (wrap64 (x13_1 + 1))) = some (r1, r2) := by first | (rw [hy274]; with_reducible exact H) | (have H2_ := (Option.bind_some _ _).symm.trans H; rw [hy274]; with_reducible exact H2_) | (have H2_ := (Option.bind_some _ _).symm.trans H; with_reducible exact H2_) | with_reducible exact H | (rw [hy274]; exact H) | exact H
                  have Ny274 := Aside0.mk hy274
                  clear hy274
                  have H' := Aside0.mk H
                  clear H
                  have p269 : 0 ≤ (x13_1 : Int) := of_decide_eq_true (by first | (with_reducible assumption) | assumption)
                  have q269 : x13_1 < (t265.length : Int) := of_decide_eq_true (by first | (with_reducible assumption) | assumption)
                  obtain ⟨ad269, e269, hx269_0⟩ := Kd.at_string (Kd.R_reads' HO_11.out).2.2 x13_1 p269 q269
                  cases e269
                  replace p269 := eq_true p269
                  replace q269 := eq_true q269
                  go_wp2_with (first | ((with_reducible refine gate_callee (f := 28) rfl ?_); refine goesL_ (some 18) rfl rfl Tryd.func28 (by kernel_rfl) rfl #[.string (rdOf ByteArray.empty t265 x13_1), .string (⟨#[46]⟩ : ByteArray)] rfl (by (try simp only [List.map_toArray, List.map_cons, List.map_nil]); first | done | rfl | (simp only [List.length_drop, List.length_take]; rfl)) ?_; (with_reducible refine (strings_Split.calls (rdOf ByteArray.empty t265 x13_1) (⟨#[46]⟩ : ByteArray) t270 _ ?side1 A9.out).mono ?_); (case side1 => first | exact hL.out | exact hL.out.drewN _ | exact hL.out.drew | exact hL.out.below (by repeat (first | (with_reducible first | exact HB.out | apply below_alloc | apply pw_below_drewN | apply below_drew1) | exact HB.out))); rintro e w15 ⟨v271, rfl, ho0, hb⟩; refine ⟨_, rfl, ?_⟩; have n0_ := Aside0.mk (Kd.S_elder' (by (with_reducible repeat (first | apply Kd.S_alloc | apply Kd.S_drewN | apply Kd.S_drew)); exact HO_4.out) (Kd.R_base ho0) hb); have n1_ := Aside0.mk (Kd.R_elder' (by (with_reducible repeat (first | apply Kd.R_alloc | apply Kd.R_drewN | apply Kd.R_drew)); exact HO_11.out) (Kd.R_base ho0) hb); have n2_ := Aside0.mk (Kd.R_lower (Kd.R_new' ho0 (Kd.R_lt (by (with_reducible repeat (first | apply Kd.R_alloc | apply Kd.R_drewN | apply Kd.R_drew)); exact HO_11.out))) (below_size (by repeat (first | (with_reducible first | exact HB.out | apply below_alloc | apply pw_below_drewN | apply below_drew1) | exact HB.out)))); have n3_ := Aside0.mk (below_step (by repeat (first | (with_reducible first | exact HB.out | apply below_alloc | apply pw_below_drewN | apply below_drew1) | exact HB.out)) hb); clear HO_4; clear HO_11; clear HB; have HO_4 := n0_; have HO_11 := n1_; have HO272 := n2_; have HB := n3_; clear n0_ n1_ n2_ n3_; (try clear hb); (try clear hb2); (try clear hk); (try clear hi); (try clear ho0); obtain ⟨Ao16, co16, eo16⟩ := Kd.R_slice HO272.out; subst eo16) | ((with_reducible refine gate_callee (f := 29) rfl ?_); refine goesL_ (some 20) rfl rfl Tryd.func29 (by kernel_rfl) rfl #[.slice Ao16 t270.length co16, .func (.func 30) #[] #[]] rfl (by (try simp only [List.map_toArray, List.map_cons, List.map_nil]); first | done | rfl | (simp only [List.length_drop, List.length_take]; rfl)) ?_; (with_reducible refine (slices_ContainsFunc_string_string_mask_Parse_1.calls k1 _ _ t270 false _ ?side1 ?side2 A10.out).mono ?_); (case side1 => repeat (first | exact (Kd.R_reads' HO272.out).2.2 | (with_reducible refine Kd.C_alloc ?_ _) | (with_reducible refine Kd.C_drewN ?_ _) | (with_reducible refine Kd.C_drew ?_))); (case side2 => exact (Kd.R_reads' HO272.out).2.1); rintro e w' ⟨rfl, ⟨nd, rfl⟩⟩; refine ⟨_, rfl, ?_⟩) | ((with_reducible refine gate_builtin (b := .append) (xs := #[.tmp 21, .tmp 23]) rfl ?_); at_builtin; refine Kd.S_append (Kd.slice 9 Kd.string) (w0 := w) w.heap.size rfl (.tmp 21) (.tmp 23) 31 26 (.slice none 0 0) 24 rfl Tryd.underlying31 info26 rfl (by decide) (by omega) u4 x4_1 t270 [.slice Ao16 t270.length co16] (fun k_ => some k_ ≠ (.slice (some ad269) t265.length co5 : Value).ownBlock) (fun k_ => some k_ = (.slice Ao16 t270.length co16 : Value).ownBlock) rfl rfl ?aP (fun k_ hk_ => ((Kd.R_mono (ok' := fun k_ => ((fun k_ => some k_ ≠ (.slice (some ad269) t265.length co5 : Value).ownBlock)) k_ ∧ some k_ ≠ (u4 : Value).ownBlock) (Kd.R_apart' (HO272.out) (Kd.S_typed HO_4.out) (by decide)) (fun k_ hk => ⟨hk.1.2, hk.2⟩))).1 k_ hk_.symm) ?aF ?aO ?aB ?aS ?aL ?_; (case aP => exact Kd.M_row (Kd.R_mono (Kd.R_tight rfl (Kd.R_mono (ok' := fun k_ => ((fun k_ => some k_ ≠ (.slice (some ad269) t265.length co5 : Value).ownBlock)) k_ ∧ some k_ ≠ (u4 : Value).ownBlock) (Kd.R_apart' (HO272.out) (Kd.S_typed HO_4.out) (by decide)) (fun k_ hk => ⟨hk.1.2, hk.2⟩))) (fun _ h_ => h_))); (case aB => exact (by repeat (first | (with_reducible first | exact HB.out | apply below_alloc | apply pw_below_drewN | apply below_drew1) | exact HB.out))); (case aF => exact (fun k_ hk => Kd.fresh' (Kd.R_lt (by (with_reducible repeat (first | apply Kd.R_alloc | apply Kd.R_drewN | apply Kd.R_drew)); exact HO_11.out)) k_ hk)); (case aO => exact (by (with_reducible repeat (first | apply Kd.S_alloc | apply Kd.S_drewN | apply Kd.S_drew)); exact Kd.S_mono HO_4.out (fun k_ hk => ⟨hk.1, fun e_ => hk.2 e_⟩))); (case aS => exact (below_size (by repeat (first | (with_reducible first | exact HB.out | apply below_alloc | apply pw_below_drewN | apply below_drew1) | exact HB.out)))); (case aL => have := LMc14.out; omega); intro v275 w17 ho hb hg hat; rw [← Ny274.out] at ho; have n0_ := Aside0.mk (Kd.R_over' (by (with_reducible repeat (first | apply Kd.R_alloc | apply Kd.R_drewN | apply Kd.R_drew)); exact HO_11.out) (Kd.S_typed (by (with_reducible repeat (first | apply Kd.S_alloc | apply Kd.S_drewN | apply Kd.S_drew)); exact HO_4.out)) (by decide) hg); have n1_ := Aside0.mk (hb); have n2_ := Aside0.mk (ho); clear HO_11; clear HB; clear HO_4; clear HO272; have HO_11 := n0_; have HB := n1_; have HO276 := n2_; clear n0_ n1_ n2_; clear ho hb hg hat))
                  go_roundg k1
                  case measure => have := HK1.out; omega
                  case rel => exact ⟨(y274), (wrap64 (x13_1 + 1)), (by first | rfl | (simp; done) | (simp [*]; done)), H', ⟨by have := HK1.out; omega⟩, ⟨by (with_reducible repeat (first | apply Kd.S_alloc | apply Kd.S_drewN | apply Kd.S_drew)); exact HO276.out⟩, ⟨by (with_reducible repeat (first | apply Kd.R_alloc | apply Kd.R_drewN | apply Kd.R_drew)); exact Kd.R_mono HO_11.out (fun _ hk => trivial)⟩, ⟨by repeat (first | (with_reducible first | exact HB.out | apply below_alloc | apply pw_below_drewN | apply below_drew1) | exact HB.out)⟩⟩
                · rw [if_neg c14] at H
                  exact absurd H (by simp)
            · rw [if_neg c8] at H
              exact absurd H (by simp)
          · rw [if_neg c7] at H
            exact absurd H (by simp)
        · rw [if_neg c6] at H
          have c6b0 : decide (x13_1 < (t265.length : Int)) = false := decide_eq_false c6
          clear c6
          replace H := Option.bind_eq_some_iff.mp H
          obtain ⟨t268, A180, H⟩ := H
          replace H : (if t268 = true then (some (x4_1, 0)) else (some (([] : List (List ByteArray)), 4))) = some (r1, r2) := H
          have A18 := Aside0.mk A180
          clear A180
          by_cases c19 : t268 = true
          · subst c19
            have H1 : (some (x4_1, 0)) = some (r1, r2) := by rw [if_pos rfl] at H; exact H
            clear H
            have H := H1
            clear H1
            simp only [Option.some.injEq, Prod.mk.injEq] at H
            obtain ⟨rfl, rfl⟩ := H
            obtain ⟨Ao20, co20, eo20⟩ := Kd.S_slice HO_4.out
            subst eo20
            go_wp2_with (first | ((with_reducible refine gate_callee (f := 20) rfl ?_); refine goesL_ (some 27) rfl rfl Tryd.func20 (by kernel_rfl) rfl #[.slice Ao20 x4_1.length co20] rfl (by (try simp only [List.map_toArray, List.map_cons, List.map_nil]); first | done | rfl | (simp only [List.length_drop, List.length_take]; rfl)) ?_; (with_reducible refine (mask_Check.calls k1 _ _ x4_1 true _ ?side1 ?side2 A18.out).mono ?_); (case side1 => repeat (first | exact (Kd.S_reads' HO_4.out).2.2 | (with_reducible refine Kd.C_alloc ?_ _) | (with_reducible refine Kd.C_drewN ?_ _) | (with_reducible refine Kd.C_drew ?_))); (case side2 => exact (Kd.S_reads' HO_4.out).2.1); rintro e w' ⟨rfl, ⟨nd, rfl⟩⟩; refine ⟨_, rfl, ?_⟩))
            go_ret2
            exact ⟨_, by first | rfl | (simp [errW_none, errW_some] <;> rfl) | (simp [*, errW_none, errW_some] <;> rfl), by (with_reducible repeat (first | apply Kd.S_alloc | apply Kd.S_drewN | apply Kd.S_drew)); exact Kd.S_mono HO_4.out (fun _ hk => trivial), by repeat (first | (with_reducible first | exact HB.out | apply below_alloc | apply pw_below_drewN | apply below_drew1) | exact HB.out)⟩
          · replace c19 := Bool.eq_false_iff.mpr c19
            subst c19
            have H1 : (some (([] : List (List ByteArray)), 4)) = some (r1, r2) := by rw [if_neg (show ¬ (false = true) by decide)] at H; exact H
            clear H
            have H := H1
            clear H1
            simp only [Option.some.injEq, Prod.mk.injEq] at H
            obtain ⟨rfl, rfl⟩ := H
            obtain ⟨Ao21, co21, eo21⟩ := Kd.S_slice HO_4.out
            subst eo21
            go_wp2_with (first | ((with_reducible refine gate_callee (f := 20) rfl ?_); refine goesL_ (some 27) rfl rfl Tryd.func20 (by kernel_rfl) rfl #[.slice Ao21 x4_1.length co21] rfl (by (try simp only [List.map_toArray, List.map_cons, List.map_nil]); first | done | rfl | (simp only [List.length_drop, List.length_take]; rfl)) ?_; (with_reducible refine (mask_Check.calls k1 _ _ x4_1 false _ ?side1 ?side2 A18.out).mono ?_); (case side1 => repeat (first | exact (Kd.S_reads' HO_4.out).2.2 | (with_reducible refine Kd.C_alloc ?_ _) | (with_reducible refine Kd.C_drewN ?_ _) | (with_reducible refine Kd.C_drew ?_))); (case side2 => exact (Kd.S_reads' HO_4.out).2.1); rintro e w' ⟨rfl, ⟨nd, rfl⟩⟩; refine ⟨_, rfl, ?_⟩))
            go_ret2
            exact ⟨_, by first | rfl | (simp [errW_none, errW_some] <;> rfl) | (simp [*, errW_none, errW_some] <;> rfl), by first | exact Kd.S_nil _ _ _ _ _ | exact Kd.N_nil _ _ _ _ _ | exact Kd.V_nil _ _ _ _ _ | exact Kd.Q_nil _ _ _ _ _ | exact Kd.R_nil _ _ _ _ _, by repeat (first | (with_reducible first | exact HB.out | apply below_alloc | apply pw_below_drewN | apply below_drew1) | exact HB.out)⟩

end Go.Proofs.YtondpnipoogoiaaDoor.X
/- wire.read: a value as an edit, or what is thrown. -/
namespace Go.Proofs.YtondpnipoogoiaaDoor.X
open Go.RowKit Go.Proofs.YtondpnipoogoiaaDoorW.PrintWords Go.Proofs.YtondpnipoogoiaaDoorW.PrintLast Go.Proofs.YtondpnipoogoiaaDoorW.PrintMore
set_option linter.unusedVariables false
set_option linter.unusedSimpArgs false
def exM : List ByteArray := [(⟨#[109, 97, 115, 107]⟩ : ByteArray), (⟨#[118, 97, 108, 117, 101]⟩ : ByteArray)]
def opsF (k : Nat) : List S29 → List S39 → Option (Bool × Int × List S39)
  | [], acc => some (false, 0, acc)
  | t :: ts, acc => (oper.f k t.f0 t.f1 t.f2.f0 t.f2.f1 t.f2.f2 t.f3 t.f4 t.f5).bind fun o => if o.1 = true then some (true, o.2.1, []) else opsF k ts (acc ++ [o.2.2])
def okF (k : Nat) (lg : Int) (a0 : Int) (a1 a2 : Bool) (l3 : List Int) (a4 : Int) (a5 : ByteArray) (l6 : List ByteArray) (l7 : List S29) : Option Bool :=
  if 1 ≤ lg then if lg ≤ 3 then tree_Check.f k a0 a1 a2 l3 a4 a5 l6 l7 else some false else some false
abbrev RdT := Bool × Int × List S39 × S29 × List (List ByteArray)
def readr.g (k : Nat) (lg : Int) (a0 : Int) (a1 a2 : Bool) (l3 : List Int) (a4 : Int) (a5 : ByteArray) (l6 : List ByteArray) (l7 : List S29) : Option RdT :=
  if lg = 1 then
    if a0 = 6 then if l7.length ≤ 60 then (opsF k l7 []).bind fun o => some (o.1, o.2.1, o.2.2, z29, []) else some (true, 4, [], z29, [])
    else some (true, 2, [], z29, [])
  else if lg = 3 then
    (wire_exactly.f k a0 a1 a2 l3 a4 a5 l6 l7 exM).bind fun e => if e.1 = true then some (true, e.2, [], z29, []) else
    (wire_member.f k a0 a1 a2 l3 a4 a5 l6 l7 (⟨#[109, 97, 115, 107]⟩ : ByteArray)).bind fun m => if m.1 = true then some (true, m.2.1, [], z29, []) else
    (mask_Parse.f k m.2.2).bind fun l => if l.2 = 0 then (tree_Member.f k a0 a1 a2 l3 a4 a5 l6 l7 (⟨#[118, 97, 108, 117, 101]⟩ : ByteArray)).bind fun m => some (false, 0, [], ⟨m.1, m.2.1, ⟨m.2.2.1, m.2.2.2.1, m.2.2.2.2.1⟩, m.2.2.2.2.2.1, m.2.2.2.2.2.2.1, m.2.2.2.2.2.2.2.1⟩, l.1) else some (true, l.2, [], z29, [])
  else some (false, 0, [], ⟨a0, a1, ⟨a2, l3, a4⟩, a5, l6, l7⟩, [])
/-- Thrown, what; else operations, value, paths. -/
def readr.f (k : Nat) (lg : Int) (a0 : Int) (a1 a2 : Bool) (l3 : List Int) (a4 : Int) (a5 : ByteArray) (l6 : List ByteArray) (l7 : List S29) : Option RdT :=
  (okF k lg a0 a1 a2 l3 a4 a5 l6 l7).bind fun b => if b = true then readr.g k lg a0 a1 a2 l3 a4 a5 l6 l7 else some (true, 1, [], z29, [])
theorem at_F {W : World} {ok : Nat → Prop} {A : Option Addr} {n : Nat} {xs : List S29} (h : Kd.F k29 W ok A n xs) (i : Nat) (h1 : i < n) (v : S29) (hv : xs[i]? = some v) : ∃ ad B6 d6 B9 d9 B10 d10, A = some ad ∧ W.cell? (ad.add (i * 8)) = some (.int .i64 v.f0) ∧ W.cell? ⟨(ad.add (i * 8)).block, (ad.add (i * 8)).off + 1, none⟩ = some (.bool v.f1) ∧ W.cell? ⟨(ad.add (i * 8)).block, (ad.add (i * 8)).off + 2, none⟩ = some (.bool v.f2.f0) ∧ W.cell? ⟨(ad.add (i * 8)).block, (ad.add (i * 8)).off + 3, none⟩ = some (.slice B6 v.f2.f1.length d6) ∧ W.cell? ⟨(ad.add (i * 8)).block, (ad.add (i * 8)).off + 4, none⟩ = some (.int .i64 v.f2.f2) ∧ W.cell? ⟨(ad.add (i * 8)).block, (ad.add (i * 8)).off + 5, none⟩ = some (.string v.f3) ∧ W.cell? ⟨(ad.add (i * 8)).block, (ad.add (i * 8)).off + 6, none⟩ = some (.slice B9 v.f4.length d9) ∧ W.cell? ⟨(ad.add (i * 8)).block, (ad.add (i * 8)).off + 7, none⟩ = some (.slice B10 v.f5.length d10) ∧
    (v.f2.f1.length ≤ d6 ∧ Kd.F (Kd.int .u32) W ok B6 v.f2.f1.length v.f2.f1) ∧ (v.f4.length ≤ d9 ∧ Kd.F Kd.string W ok B9 v.f4.length v.f4) ∧ (v.f5.length ≤ d10 ∧ Kd.F k29 W ok B10 v.f5.length v.f5) := by
  obtain ⟨ad, c, e, _, hK, hc0, _⟩ := Kd.F_get h z29 (i : Int) (by omega) (by omega)
  rw [Int.toNat_natCast, List.getD_eq_getElem?_getD, hv, Option.getD_some] at hK
  have hc : ∀ j u, c[j]? = some u → W.cell? (ad.add (i * 8 + j)) = some u := by
    have h2 := hc0
    rw [Int.toNat_natCast] at h2
    exact h2
  obtain ⟨A3, c3, A6, c6, A7, c7, rfl, l3, g3, l6, g6, l7, g7⟩ := k29_openF hK
  exact ⟨ad, A3, c3, A6, c6, A7, c7, e, hc 0 _ rfl, by rw [← add_field _ _ 1 (by omega)]; exact hc 1 _ rfl, by rw [← add_field _ _ 2 (by omega)]; exact hc 2 _ rfl, by rw [← add_field _ _ 3 (by omega)]; exact hc 3 _ rfl, by rw [← add_field _ _ 4 (by omega)]; exact hc 4 _ rfl, by rw [← add_field _ _ 5 (by omega)]; exact hc 5 _ rfl, by rw [← add_field _ _ 6 (by omega)]; exact hc 6 _ rfl, by rw [← add_field _ _ 7 (by omega)]; exact hc 7 _ rfl, ⟨l3, g3⟩, ⟨l6, g6⟩, ⟨l7, g7⟩⟩
def PatF (W : World) (ok : Nat → Prop) (os : List S39) (v : S29) (ms : List (List ByteArray)) (BO : Option Addr) (dO : Nat) (B6 : Option Addr) (d6 : Nat) (B9 : Option Addr) (d9 : Nat) (B10 : Option Addr) (d10 : Nat) (BM : Option Addr) (dM : Nat) : Prop :=
  (os.length ≤ dO ∧ Kd.F k39 W ok BO os.length os) ∧ (v.f2.f1.length ≤ d6 ∧ Kd.F (Kd.int .u32) W ok B6 v.f2.f1.length v.f2.f1) ∧ (v.f4.length ≤ d9 ∧ Kd.F Kd.string W ok B9 v.f4.length v.f4) ∧ (v.f5.length ≤ d10 ∧ Kd.F k29 W ok B10 v.f5.length v.f5) ∧ (ms.length ≤ dM ∧ Kd.F (Kd.slice 9 Kd.string) W ok BM ms.length ms)
theorem PatF.step {W W' : World} {ok ok' : Nat → Prop} {os : List S39} {v : S29} {ms : List (List ByteArray)} {BO : Option Addr} {dO : Nat} {B6 : Option Addr} {d6 : Nat} {B9 : Option Addr} {d9 : Nat} {B10 : Option Addr} {d10 : Nat} {BM : Option Addr} {dM : Nat} (h : PatF W ok os v ms BO dO B6 d6 B9 d9 B10 d10 BM dM) (hm : ∀ k, ok k → k < W.heap.size → W'.heap[k]? = W.heap[k]?) (hok : ∀ k, ok k → ok' k) : PatF W' ok' os v ms BO dO B6 d6 B9 d9 B10 d10 BM dM :=
  ⟨⟨h.1.1, Kd.F_mono (Kd.F_step h.1.2 hm) hok⟩, ⟨h.2.1.1, Kd.F_mono (Kd.F_step h.2.1.2 hm) hok⟩, ⟨h.2.2.1.1, Kd.F_mono (Kd.F_step h.2.2.1.2 hm) hok⟩, ⟨h.2.2.2.1.1, Kd.F_mono (Kd.F_step h.2.2.2.1.2 hm) hok⟩, ⟨h.2.2.2.2.1, Kd.F_mono (Kd.F_step h.2.2.2.2.2 hm) hok⟩⟩
set_option maxHeartbeats 16000000 in
set_option maxRecDepth 100000 in
theorem readr.calls (k : Nat) (lg : Int) (a0 : Int) (a1 a2 : Bool) (A3 : Option Addr) (c3 : Nat) (l3 : List Int) (a4 : Int) (a5 : ByteArray) (A6 : Option Addr) (c6 : Nat) (l6 : List ByteArray) (A7 : Option Addr) (c7 : Nat) (l7 : List S29) (PP : Nat → Prop) (r1 : Bool) (r2 : Int) (os : List S39) (v : S29) (ms : List (List ByteArray)) (w : World) (hL : Laid w)
    (hf3 : Kd.F (Kd.int .u32) w PP A3 l3.length l3) (hc3 : l3.length ≤ c3) (hf6 : Kd.F Kd.string w PP A6 l6.length l6) (hc6 : l6.length ≤ c6) (hf7 : Kd.F k29 w PP A7 l7.length l7) (hc7 : l7.length ≤ c7) (h : readr.f k lg a0 a1 a2 l3 a4 a5 l6 l7 = some (r1, r2, os, v, ms)) :
    Calls Tryd.prog 9 #[.int .i64 lg, .agg #[.int .i64 a0, .bool a1, .bool a2, .slice A3 l3.length c3, .int .i64 a4, .string a5, .slice A6 l6.length c6, .slice A7 l7.length c7]] w fun e w' => ThrPost thrown34 r1 r2 (fun e w' => ∃ BO dO B6 d6 B9 d9 B10 d10 BM dM, e = .returned (.agg #[.int .i64 lg, .slice BO os.length dO, .int .i64 v.f0, .bool v.f1, .bool v.f2.f0, .slice B6 v.f2.f1.length d6, .int .i64 v.f2.f2, .string v.f3, .slice B9 v.f4.length d9, .slice B10 v.f5.length d10, .slice BM ms.length dM]) ∧ PatF w' (fun k_ => PP k_ ∨ w.heap.size ≤ k_) os v ms BO dO B6 d6 B9 d9 B10 d10 BM dM ∧ Below w.heap.size w w') (fun w' => Below w.heap.size w w') e w' := by
  have hu := Tryd.underlying29
  have hu2 := Tryd.underlying33
  have HL := Aside0.mk hL
  have HR := Aside0.mk (And.intro hf3 (And.intro hf6 hf7))
  have HM := Aside0.mk (And.intro hc3 (And.intro hc6 hc7))
  have H := Aside0.mk h
  clear hL hf3 hf6 hf7 hc3 hc6 hc7 h
  have HX1 := Aside0.mk (blk_new w (.cells #[.int .i64 a0, .bool a1, .bool a2, .slice A3 l3.length c3, .int .i64 a4, .string a5, .slice A6 l6.length c6, .slice A7 l7.length c7] 29))
  have HB1 := Aside0.mk (below_alloc (Below.refl w.heap.size w) (.cells #[.int .i64 a0, .bool a1, .bool a2, .slice A3 l3.length c3, .int .i64 a4, .string a5, .slice A6 l6.length c6, .slice A7 l7.length c7] 29))
  obtain ⟨w1, hw1⟩ : ∃ w1, w.alloc (.cells #[.int .i64 a0, .bool a1, .bool a2, .slice A3 l3.length c3, .int .i64 a4, .string a5, .slice A6 l6.length c6, .slice A7 l7.length c7] 29) = w1 := ⟨_, rfl⟩
  rw [hw1] at HX1 HB1
  have HX2 := Aside0.mk (blk_alloc HX1.out (.cells #[.int .i64 0, .slice none 0 0, .int .i64 0, .bool false, .bool false, .slice none 0 0, .int .i64 0, .string (⟨#[]⟩ : ByteArray), .slice none 0 0, .slice none 0 0, .slice none 0 0] 33))
  have HR2 := Aside0.mk (blk_new w1 (.cells #[.int .i64 0, .slice none 0 0, .int .i64 0, .bool false, .bool false, .slice none 0 0, .int .i64 0, .string (⟨#[]⟩ : ByteArray), .slice none 0 0, .slice none 0 0, .slice none 0 0] 33))
  have HB2 := Aside0.mk (below_alloc HB1.out (.cells #[.int .i64 0, .slice none 0 0, .int .i64 0, .bool false, .bool false, .slice none 0 0, .int .i64 0, .string (⟨#[]⟩ : ByteArray), .slice none 0 0, .slice none 0 0, .slice none 0 0] 33))
  have hrc : w.heap.size ≤ w1.heap.size := HB1.out.size
  obtain ⟨w2, hw2⟩ : ∃ w2, w1.alloc (.cells #[.int .i64 0, .slice none 0 0, .int .i64 0, .bool false, .bool false, .slice none 0 0, .int .i64 0, .string (⟨#[]⟩ : ByteArray), .slice none 0 0, .slice none 0 0, .slice none 0 0] 33) = w2 := ⟨_, rfl⟩
  rw [hw2] at HX2 HR2 HB2
  obtain ⟨b, hb, H2r⟩ := Option.bind_eq_some_iff.1 H.out
  have HBB := Aside0.mk hb
  have H2 := Aside0.mk H2r
  clear H hb H2r
  unfold okF at HBB
  by_cases hc0 : 1 ≤ lg
  case neg =>
    have HB3 := HBB.out
    rw [if_neg hc0] at HB3
    injection HB3 with HB3
    subst HB3
    have H3 := H2.out
    rw [if_neg (by decide)] at H3
    injection H3 with H3
    injection H3 with e1 H3
    injection H3 with e2 H3
    injection H3 with e3 H3
    injection H3 with e4 e5
    subst e1 e2 e3 e4 e5
    clear HBB H2
    have hq : ¬ (1 ≤ lg)  := hc0
    have hq2 : lg < 1 := by omega
    go_enter Tryd.func9, Tryd.ntmps9
    go_wp2_with fail
    refine (wire_must.calls false 1 true 1 _ rfl).mono ?_
    rintro e wt hth
    obtain ⟨rfl, ndt, rfl⟩ := ThrPost.bad hth
    clear hth
    go_wp2_with fail
    exact ⟨rfl, ThrPost.no ⟨rfl, pw_below_drewN HB2.out _⟩⟩
  by_cases hc1 : lg ≤ 3
  case neg =>
    have HB3 := HBB.out
    rw [if_pos hc0] at HB3
    rw [if_neg hc1] at HB3
    injection HB3 with HB3
    subst HB3
    have H3 := H2.out
    rw [if_neg (by decide)] at H3
    injection H3 with H3
    injection H3 with e1 H3
    injection H3 with e2 H3
    injection H3 with e3 H3
    injection H3 with e4 e5
    subst e1 e2 e3 e4 e5
    clear HBB H2
    have hq2 : 3 < lg := by omega
    go_enter Tryd.func9, Tryd.ntmps9
    go_wp2_with fail
    refine (wire_must.calls false 1 true 1 _ rfl).mono ?_
    rintro e wt hth
    obtain ⟨rfl, ndt, rfl⟩ := ThrPost.bad hth
    clear hth
    go_wp2_with fail
    exact ⟨rfl, ThrPost.no ⟨rfl, pw_below_drewN HB2.out _⟩⟩
  rw [if_pos hc0, if_pos hc1] at HBB
  have x0 := (blk_cell HX2.out 0).trans rfl
  have x1 := (blk_cell HX2.out 1).trans rfl
  have x2 := (blk_cell HX2.out 2).trans rfl
  have x3 := (blk_cell HX2.out 3).trans rfl
  have x4 := (blk_cell HX2.out 4).trans rfl
  have x5 := (blk_cell HX2.out 5).trans rfl
  have x6 := (blk_cell HX2.out 6).trans rfl
  have x7 := (blk_cell HX2.out 7).trans rfl
  go_enter Tryd.func9, Tryd.ntmps9
  go_wp2_with fail
  refine (tree_Check.calls k a0 a1 a2 A3 c3 l3 a4 a5 A6 c6 l6 A7 c7 l7 b _ (HL.out.below HB2.out) (Kd.C_below (Kd.F_now HR.out.1) HB2.out) HM.out.1 (Kd.C_below (Kd.F_now HR.out.2.1) HB2.out) HM.out.2.1 (Kd.C_below (Kd.F_now HR.out.2.2) HB2.out) HM.out.2.2 HBB.out).mono ?_
  rintro e w3 ⟨rfl, hb3⟩
  have HX3 := Aside0.mk (blk_below HX2.out hb3)
  have HR3 := Aside0.mk (blk_below HR2.out hb3)
  have HB3 := Aside0.mk (below_step HB2.out hb3)
  clear hb3 HBB HX2 HR2 HB2 x0 x1 x2 x3 x4 x5 x6 x7 hw1 hw2
  cases b with
  | false =>
    have H3 := H2.out
    rw [if_neg (by decide)] at H3
    injection H3 with H3
    injection H3 with e1 H3
    injection H3 with e2 H3
    injection H3 with e3 H3
    injection H3 with e4 e5
    subst e1 e2 e3 e4 e5
    clear H2
    go_wp2_with fail
    refine (wire_must.calls false 1 true 1 _ rfl).mono ?_
    rintro e wt hth
    obtain ⟨rfl, ndt, rfl⟩ := ThrPost.bad hth
    clear hth
    go_wp2_with fail
    exact ⟨rfl, ThrPost.no ⟨rfl, pw_below_drewN HB3.out _⟩⟩
  | true =>
    have H3 := H2.out
    rw [if_pos rfl] at H3
    replace H2 := Aside0.mk H3
    clear H3
    go_wp2_with fail
    refine (wire_must.calls true 1 false 0 _ rfl).mono ?_
    rintro e w4 hth
    obtain ⟨rfl, nd4, rfl⟩ := ThrPost.fine hth
    clear hth
    have HX4 := Aside0.mk (show (w3.drewN nd4).heap[w.heap.size]? = _ from blk_drewN HX3.out nd4)
    have HR4 := Aside0.mk (show (w3.drewN nd4).heap[w1.heap.size]? = _ from blk_drewN HR3.out nd4)
    have HB4 := Aside0.mk (pw_below_drewN HB3.out nd4)
    clear HX3 HR3 HB3
    generalize w3.drewN nd4 = w4 at HX4 HR4 HB4 ⊢
    have hs4 : w1.heap.size < w4.heap.size := blk_lt HR4.out
    have hq4 : w.heap.size < w4.heap.size := blk_lt HX4.out
    have x0 := (blk_cell HX4.out 0).trans rfl
    have x1 := (blk_cell HX4.out 1).trans rfl
    have x2 := (blk_cell HX4.out 2).trans rfl
    have x3 := (blk_cell HX4.out 3).trans rfl
    have x4 := (blk_cell HX4.out 4).trans rfl
    have x5 := (blk_cell HX4.out 5).trans rfl
    have x6 := (blk_cell HX4.out 6).trans rfl
    have x7 := (blk_cell HX4.out 7).trans rfl
    go_upto_block 0 with (fail)
    have HG5 := Aside0.mk (blk_new w4 (.cells #[.int .i64 lg, .slice none 0 0, .int .i64 a0, .bool a1, .bool a2, .slice A3 l3.length c3, .int .i64 a4, .string a5, .slice A6 l6.length c6, .slice A7 l7.length c7, .slice none 0 0] 33))
    have HB5 := Aside0.mk (below_alloc (Below.refl w4.heap.size w4) (.cells #[.int .i64 lg, .slice none 0 0, .int .i64 a0, .bool a1, .bool a2, .slice A3 l3.length c3, .int .i64 a4, .string a5, .slice A6 l6.length c6, .slice A7 l7.length c7, .slice none 0 0] 33))
    obtain ⟨w5, hw5⟩ : ∃ w5, w4.alloc (.cells #[.int .i64 lg, .slice none 0 0, .int .i64 a0, .bool a1, .bool a2, .slice A3 l3.length c3, .int .i64 a4, .string a5, .slice A6 l6.length c6, .slice A7 l7.length c7, .slice none 0 0] 33) = w5 := ⟨_, rfl⟩
    rw [hw5] at HG5 HB5 ⊢
    clear hw5 x0 x1 x2 x3 x4 x5 x6 x7
    obtain ⟨g, hg⟩ : ∃ g, w4.heap.size = g := ⟨_, rfl⟩
    have hg0 : w4.heap.size ≤ g := by omega
    rw [hg] at HG5 ⊢
    clear hg
    have hgw : w.heap.size ≤ g := by have := HB4.out.size; omega
    have hg5 : g < w5.heap.size := blk_lt HG5.out
    go_cut [] (fun wc => ∃ (BO : Option Addr) (dO : Nat) (B6 : Option Addr) (d6 : Nat) (B9 : Option Addr) (d9 : Nat) (B10 : Option Addr) (d10 : Nat) (BM : Option Addr) (dM : Nat), r1 = false ∧ Aside0 (Below w4.heap.size w4 wc) ∧ Aside0 (wc.heap[g]? = some (.cells #[.int .i64 lg, .slice BO os.length dO, .int .i64 v.f0, .bool v.f1, .bool v.f2.f0, .slice B6 v.f2.f1.length d6, .int .i64 v.f2.f2, .string v.f3, .slice B9 v.f4.length d9, .slice B10 v.f5.length d10, .slice BM ms.length dM] 33 (0, 0))) ∧ Aside0 (PatF wc (fun k_ => PP k_ ∧ k_ < w.heap.size ∨ w.heap.size ≤ k_ ∧ k_ ≠ g ∧ k_ ≠ w1.heap.size) os v ms BO dO B6 d6 B9 d9 B10 d10 BM dM))
    case first =>
      unfold readr.g at H2
      by_cases h1 : lg = 1
      · subst h1
        rw [if_pos rfl] at H2
        have HB6 := Aside0.mk (show Below w4.heap.size w4 (World.setCell (World.setCell (World.setCell (World.setCell (World.setCell (World.setCell (World.setCell (World.setCell w5 ⟨g, 2, none⟩ (.int .i64 0)) ⟨g, 3, none⟩ (.bool false)) ⟨g, 4, none⟩ (.bool false)) ⟨g, 5, none⟩ (.slice none 0 0)) ⟨g, 6, none⟩ (.int .i64 0)) ⟨g, 7, none⟩ (.string (⟨#[]⟩ : ByteArray))) ⟨g, 8, none⟩ (.slice none 0 0)) ⟨g, 9, none⟩ (.slice none 0 0)) from (below_set (below_set (below_set (below_set (below_set (below_set (below_set (below_set HB5.out hg0) hg0) hg0) hg0) hg0) hg0) hg0) hg0))
        have HG6 := Aside0.mk (show ((World.setCell (World.setCell (World.setCell (World.setCell (World.setCell (World.setCell (World.setCell (World.setCell w5 ⟨g, 2, none⟩ (.int .i64 0)) ⟨g, 3, none⟩ (.bool false)) ⟨g, 4, none⟩ (.bool false)) ⟨g, 5, none⟩ (.slice none 0 0)) ⟨g, 6, none⟩ (.int .i64 0)) ⟨g, 7, none⟩ (.string (⟨#[]⟩ : ByteArray))) ⟨g, 8, none⟩ (.slice none 0 0)) ⟨g, 9, none⟩ (.slice none 0 0))).heap[g]? = some (.cells #[.int .i64 1, .slice none 0 0, .int .i64 0, .bool false, .bool false, .slice none 0 0, .int .i64 0, .string (⟨#[]⟩ : ByteArray), .slice none 0 0, .slice none 0 0, .slice none 0 0] 33 (0, 0)) from (blk_put (cs := #[.int .i64 1, .slice none 0 0, .int .i64 0, .bool false, .bool false, .slice none 0 0, .int .i64 0, .string (⟨#[]⟩ : ByteArray), .slice none 0 0, .slice A7 l7.length c7, .slice none 0 0]) (cs' := #[.int .i64 1, .slice none 0 0, .int .i64 0, .bool false, .bool false, .slice none 0 0, .int .i64 0, .string (⟨#[]⟩ : ByteArray), .slice none 0 0, .slice none 0 0, .slice none 0 0]) (blk_put (cs := #[.int .i64 1, .slice none 0 0, .int .i64 0, .bool false, .bool false, .slice none 0 0, .int .i64 0, .string (⟨#[]⟩ : ByteArray), .slice A6 l6.length c6, .slice A7 l7.length c7, .slice none 0 0]) (cs' := #[.int .i64 1, .slice none 0 0, .int .i64 0, .bool false, .bool false, .slice none 0 0, .int .i64 0, .string (⟨#[]⟩ : ByteArray), .slice none 0 0, .slice A7 l7.length c7, .slice none 0 0]) (blk_put (cs := #[.int .i64 1, .slice none 0 0, .int .i64 0, .bool false, .bool false, .slice none 0 0, .int .i64 0, .string a5, .slice A6 l6.length c6, .slice A7 l7.length c7, .slice none 0 0]) (cs' := #[.int .i64 1, .slice none 0 0, .int .i64 0, .bool false, .bool false, .slice none 0 0, .int .i64 0, .string (⟨#[]⟩ : ByteArray), .slice A6 l6.length c6, .slice A7 l7.length c7, .slice none 0 0]) (blk_put (cs := #[.int .i64 1, .slice none 0 0, .int .i64 0, .bool false, .bool false, .slice none 0 0, .int .i64 a4, .string a5, .slice A6 l6.length c6, .slice A7 l7.length c7, .slice none 0 0]) (cs' := #[.int .i64 1, .slice none 0 0, .int .i64 0, .bool false, .bool false, .slice none 0 0, .int .i64 0, .string a5, .slice A6 l6.length c6, .slice A7 l7.length c7, .slice none 0 0]) (blk_put (cs := #[.int .i64 1, .slice none 0 0, .int .i64 0, .bool false, .bool false, .slice A3 l3.length c3, .int .i64 a4, .string a5, .slice A6 l6.length c6, .slice A7 l7.length c7, .slice none 0 0]) (cs' := #[.int .i64 1, .slice none 0 0, .int .i64 0, .bool false, .bool false, .slice none 0 0, .int .i64 a4, .string a5, .slice A6 l6.length c6, .slice A7 l7.length c7, .slice none 0 0]) (blk_put (cs := #[.int .i64 1, .slice none 0 0, .int .i64 0, .bool false, .bool a2, .slice A3 l3.length c3, .int .i64 a4, .string a5, .slice A6 l6.length c6, .slice A7 l7.length c7, .slice none 0 0]) (cs' := #[.int .i64 1, .slice none 0 0, .int .i64 0, .bool false, .bool false, .slice A3 l3.length c3, .int .i64 a4, .string a5, .slice A6 l6.length c6, .slice A7 l7.length c7, .slice none 0 0]) (blk_put (cs := #[.int .i64 1, .slice none 0 0, .int .i64 0, .bool a1, .bool a2, .slice A3 l3.length c3, .int .i64 a4, .string a5, .slice A6 l6.length c6, .slice A7 l7.length c7, .slice none 0 0]) (cs' := #[.int .i64 1, .slice none 0 0, .int .i64 0, .bool false, .bool a2, .slice A3 l3.length c3, .int .i64 a4, .string a5, .slice A6 l6.length c6, .slice A7 l7.length c7, .slice none 0 0]) (blk_put (cs := #[.int .i64 1, .slice none 0 0, .int .i64 a0, .bool a1, .bool a2, .slice A3 l3.length c3, .int .i64 a4, .string a5, .slice A6 l6.length c6, .slice A7 l7.length c7, .slice none 0 0]) (cs' := #[.int .i64 1, .slice none 0 0, .int .i64 0, .bool a1, .bool a2, .slice A3 l3.length c3, .int .i64 a4, .string a5, .slice A6 l6.length c6, .slice A7 l7.length c7, .slice none 0 0]) HG5.out 2 _ rfl) 3 _ rfl) 4 _ rfl) 5 _ rfl) 6 _ rfl) 7 _ rfl) 8 _ rfl) 9 _ rfl))
        have s0 := (blk_cell HG5.out 0).trans rfl
        have sf0 := blk_frozen HG5.out 0
        have s1 := (blk_cell HG5.out 1).trans rfl
        have sf1 := blk_frozen HG5.out 1
        have s2 := (blk_cell HG5.out 2).trans rfl
        have sf2 := blk_frozen HG5.out 2
        have s3 := (blk_cell HG5.out 3).trans rfl
        have sf3 := blk_frozen HG5.out 3
        have s4 := (blk_cell HG5.out 4).trans rfl
        have sf4 := blk_frozen HG5.out 4
        have s5 := (blk_cell HG5.out 5).trans rfl
        have sf5 := blk_frozen HG5.out 5
        have s6 := (blk_cell HG5.out 6).trans rfl
        have sf6 := blk_frozen HG5.out 6
        have s7 := (blk_cell HG5.out 7).trans rfl
        have sf7 := blk_frozen HG5.out 7
        have s8 := (blk_cell HG5.out 8).trans rfl
        have sf8 := blk_frozen HG5.out 8
        have s9 := (blk_cell HG5.out 9).trans rfl
        have sf9 := blk_frozen HG5.out 9
        have s10 := (blk_cell HG5.out 10).trans rfl
        have sf10 := blk_frozen HG5.out 10
        obtain ⟨w6, hw6⟩ : ∃ w6, (World.setCell (World.setCell (World.setCell (World.setCell (World.setCell (World.setCell (World.setCell (World.setCell w5 ⟨g, 2, none⟩ (.int .i64 0)) ⟨g, 3, none⟩ (.bool false)) ⟨g, 4, none⟩ (.bool false)) ⟨g, 5, none⟩ (.slice none 0 0)) ⟨g, 6, none⟩ (.int .i64 0)) ⟨g, 7, none⟩ (.string (⟨#[]⟩ : ByteArray))) ⟨g, 8, none⟩ (.slice none 0 0)) ⟨g, 9, none⟩ (.slice none 0 0)) = w6 := ⟨_, rfl⟩
        rw [hw6] at HB6 HG6
        have HBw := Aside0.mk (below_step HB4.out HB6.out)
        clear HB5 HG5
        have HXu := Aside0.mk (blk_below HX4.out HB6.out)
        have x0 := (blk_cell HXu.out 0).trans rfl
        have x1 := (blk_cell HXu.out 1).trans rfl
        have x2 := (blk_cell HXu.out 2).trans rfl
        have x3 := (blk_cell HXu.out 3).trans rfl
        have x4 := (blk_cell HXu.out 4).trans rfl
        have x5 := (blk_cell HXu.out 5).trans rfl
        have x6 := (blk_cell HXu.out 6).trans rfl
        have x7 := (blk_cell HXu.out 7).trans rfl
        by_cases h6 : a0 = 6
        case neg =>
          have H9 := H2.out
          rw [if_neg h6] at H9
          injection H9 with H9
          injection H9 with e1 H9
          injection H9 with e2 H9
          injection H9 with e3 H9
          injection H9 with e4 e5
          subst e1 e2 e3 e4 e5
          clear H2
          have hn1 : (a0 == 6) = false := by simp [h6]
          go_wp2_with fail
          refine (wire_must.calls false 2 true 2 _ rfl).mono ?_
          rintro e wt hth
          obtain ⟨rfl, ndt, rfl⟩ := ThrPost.bad hth
          clear hth
          go_wp2_with fail
          exact ⟨rfl, ThrPost.no ⟨rfl, pw_below_drewN HBw.out _⟩⟩
        subst h6
        rw [if_pos rfl] at H2
        go_wp2_with fail
        refine (wire_must.calls true 2 false 0 _ rfl).mono ?_
        rintro e w7 hth
        obtain ⟨rfl, nd7, rfl⟩ := ThrPost.fine hth
        clear hth hw6 HXu s0 s1 s2 s3 s4 s5 s6 s7 s8 s9 s10 sf0 sf1 sf2 sf3 sf4 sf5 sf6 sf7 sf8 sf9 sf10 x0 x1 x2 x3 x4 x5 x6 x7
        have HB7 := Aside0.mk (pw_below_drewN HB6.out nd7)
        have HG7 := Aside0.mk (show (w6.drewN nd7).heap[g]? = _ from blk_drewN HG6.out nd7)
        clear HB6 HG6 HBw
        generalize w6.drewN nd7 = w7 at HB7 HG7 ⊢
        have HBw := Aside0.mk (below_step HB4.out HB7.out)
        have HXu := Aside0.mk (blk_below HX4.out HB7.out)
        have x0 := (blk_cell HXu.out 0).trans rfl
        have x1 := (blk_cell HXu.out 1).trans rfl
        have x2 := (blk_cell HXu.out 2).trans rfl
        have x3 := (blk_cell HXu.out 3).trans rfl
        have x4 := (blk_cell HXu.out 4).trans rfl
        have x5 := (blk_cell HXu.out 5).trans rfl
        have x6 := (blk_cell HXu.out 6).trans rfl
        have x7 := (blk_cell HXu.out 7).trans rfl
        by_cases h60 : l7.length ≤ 60
        case neg =>
          have H9 := H2.out
          rw [if_neg h60] at H9
          injection H9 with H9
          injection H9 with e1 H9
          injection H9 with e2 H9
          injection H9 with e3 H9
          injection H9 with e4 e5
          subst e1 e2 e3 e4 e5
          clear H2
          have hn1 : ¬ ((l7.length : Int) ≤ 60) := by omega
          have hn2 : (60 : Int) < (l7.length : Int) := by omega
          have hd4 : wire_must.f (decide ((l7.length : Int) ≤ 60)) 4 = some (true, 4) := by rw [decide_eq_false hn1]; rfl
          have HD4 := Aside0.mk hd4
          clear hd4 hn1 hn2
          go_wp2_with fail
          refine (wire_must.calls _ 4 true 4 _ HD4.out).mono ?_
          rintro e wt hth
          obtain ⟨rfl, ndt, rfl⟩ := ThrPost.bad hth
          clear hth
          go_wp2_with fail
          exact ⟨rfl, ThrPost.no ⟨rfl, pw_below_drewN HBw.out _⟩⟩
        rw [if_pos h60] at H2
        have hn1 : ((l7.length : Int) ≤ 60) := by omega
        go_wp2_with fail
        refine (wire_must.calls true 4 false 0 _ rfl).mono ?_
        rintro e w8 hth
        obtain ⟨rfl, nd8, rfl⟩ := ThrPost.fine hth
        clear hth HXu x0 x1 x2 x3 x4 x5 x6 x7 hn1
        have HB8 := Aside0.mk (pw_below_drewN HB7.out nd8)
        have HG8 := Aside0.mk (show (w7.drewN nd8).heap[g]? = _ from blk_drewN HG7.out nd8)
        clear HB7 HG7 HBw
        generalize w7.drewN nd8 = w8 at HB8 HG8 ⊢
        have HXu := Aside0.mk (blk_below HX4.out HB8.out)
        have x7 := (blk_cell HXu.out 7).trans rfl
        obtain ⟨⟨o1, o2, o3⟩, ho, H3⟩ := Option.bind_eq_some_iff.1 H2.out
        injection H3 with H3
        injection H3 with e1 H3
        injection H3 with e2 H3
        injection H3 with e3 H3
        injection H3 with e4 e5
        dsimp only at e1 e2 e3
        subst e1 e2 e3 e4 e5
        clear H2
        have HF := Aside0.mk (show ∃ (xs_ : List S39) (v_ : Value), Below w4.heap.size w4 w8 ∧ w8.heap[g]? = some (.cells #[.int .i64 1, v_, .int .i64 0, .bool false, .bool false, .slice none 0 0, .int .i64 0, .string (⟨#[]⟩ : ByteArray), .slice none 0 0, .slice none 0 0, .slice none 0 0] 33 (0, 0)) ∧ Kd.N k39 39 w8 w4.heap.size (fun k_ => PP k_ ∧ k_ < w.heap.size ∨ w.heap.size ≤ k_ ∧ k_ ≠ g ∧ k_ ≠ w1.heap.size) v_ xs_ ∧ xs_.length = 0 ∧ opsF k (l7.drop (0)) xs_ = some (o1, o2, o3) from ⟨[], _, HB8.out, HG8.out, Kd.N_nil _ _ _ _ _, rfl, ho⟩)
        clear ho HB8 HG8 HXu
        go_wp2_with fail
        go_loopw [41] (fun n w' => ∃ i : Nat, i ≤ l7.length ∧ n = .int .i64 i ∧ Aside0 (∃ (xs_ : List S39) (v_ : Value), Below w4.heap.size w4 w' ∧ w'.heap[g]? = some (.cells #[.int .i64 1, v_, .int .i64 0, .bool false, .bool false, .slice none 0 0, .int .i64 0, .string (⟨#[]⟩ : ByteArray), .slice none 0 0, .slice none 0 0, .slice none 0 0] 33 (0, 0)) ∧ Kd.N k39 39 w' w4.heap.size (fun k_ => PP k_ ∧ k_ < w.heap.size ∨ w.heap.size ≤ k_ ∧ k_ ≠ g ∧ k_ ≠ w1.heap.size) v_ xs_ ∧ xs_.length = i ∧ opsF k (l7.drop (i)) xs_ = some (o1, o2, o3))) (fun n _ => l7.length - (intOf n).toNat)
        case atStart => exact ⟨0, Nat.zero_le _, rfl, HF⟩
        case round =>
          clear HF x7
          obtain ⟨i, hi, rfl, HT⟩ := hrel
          obtain ⟨xs, v, hB, hG, hN, hlen, hO⟩ := HT.out
          have HB := Aside0.mk hB
          have HG := Aside0.mk hG
          have HN := Aside0.mk hN
          have HO := Aside0.mk hO
          clear HT hB hG hN hO
          have HBw := Aside0.mk (below_step HB4.out HB.out)
          by_cases hlt : i < l7.length
          case neg =>
            obtain rfl : i = l7.length := by omega
            have H4 := HO.out
            rw [List.drop_of_length_le (Nat.le_refl _), opsF] at H4
            injection H4 with H4
            injection H4 with e1 H4
            injection H4 with e2 e3
            subst e1 e2 e3
            obtain ⟨BO, dO, rfl⟩ := Kd.N_slice HN.out
            have HPF := Aside0.mk (show PatF wr (fun k_ => PP k_ ∧ k_ < w.heap.size ∨ w.heap.size ≤ k_ ∧ k_ ≠ g ∧ k_ ≠ w1.heap.size) xs z29 [] BO dO none 0 none 0 none 0 none 0 from ⟨⟨(Kd.N_reads' HN.out).2.1, Kd.N_F HN.out⟩, ⟨Nat.le_refl _, Kd.F_nil _ _ _⟩, ⟨Nat.le_refl _, Kd.F_nil _ _ _⟩, ⟨Nat.le_refl _, Kd.F_nil _ _ _⟩, ⟨Nat.le_refl _, Kd.F_nil _ _ _⟩⟩)
            clear HO HN
            go_wp2_with fail
            go_meet
            case rel => exact ⟨BO, dO, none, 0, none, 0, none, 0, none, 0, by first | rfl | trivial, HB, HG, ⟨HPF.out⟩⟩
          obtain ⟨y, hy⟩ : ∃ y, l7[i]? = some y := ⟨_, List.getElem?_eq_getElem hlt⟩
          obtain ⟨ad, B3, d3, B6, d6, B7, d7, hA, g0, g1, g2, g3, g4, g5, g6, g7, ⟨m3, q3⟩, ⟨m6, q6⟩, m7, q7⟩ := at_F HR.out.2.2 i hlt y hy
          have hdrop : l7.drop i = y :: l7.drop (i + 1) := by rw [List.drop_eq_getElem_cons hlt]; rw [List.getElem?_eq_getElem hlt] at hy; rw [Option.some.inj hy]
          have HO2 := HO.out
          rw [hdrop, opsF] at HO2
          obtain ⟨⟨u1, u2, u3⟩, hc2, hO2⟩ := Option.bind_eq_some_iff.1 HO2
          have HC2 := Aside0.mk hc2
          have HO2 := Aside0.mk hO2
          clear hc2 hO2 HO hdrop hy
          obtain ⟨y0, y1, ⟨y2, y3, y4⟩, y5, y6, y7⟩ := y
          dsimp only at g0 g1 g2 g3 g4 g5 g6 g7 m3 q3 m6 q6 m7 q7 HC2
          have HQ := Aside0.mk (And.intro q3 (And.intro q6 q7))
          have HMM := Aside0.mk (And.intro m3 (And.intro m6 m7))
          clear q3 q6 q7 m3 m6 m7
          replace g0 := pw_cell_below HBw.out g0
          replace g1 := pw_cell_below HBw.out g1
          replace g2 := pw_cell_below HBw.out g2
          replace g3 := pw_cell_below HBw.out g3
          replace g4 := pw_cell_below HBw.out g4
          replace g5 := pw_cell_below HBw.out g5
          replace g6 := pw_cell_below HBw.out g6
          replace g7 := pw_cell_below HBw.out g7
          subst hA
          go_wp2_with fail
          have HE1 := Aside0.mk (blk_new wr (.cells #[.int .i64 y0, .bool y1, .bool y2, .slice B3 y3.length d3, .int .i64 y4, .string y5, .slice B6 y6.length d6, .slice B7 y7.length d7] 29))
          have HG1 := Aside0.mk (blk_alloc HG.out (.cells #[.int .i64 y0, .bool y1, .bool y2, .slice B3 y3.length d3, .int .i64 y4, .string y5, .slice B6 y6.length d6, .slice B7 y7.length d7] 29))
          have HN1 := Aside0.mk (Kd.N_alloc HN.out (.cells #[.int .i64 y0, .bool y1, .bool y2, .slice B3 y3.length d3, .int .i64 y4, .string y5, .slice B6 y6.length d6, .slice B7 y7.length d7] 29))
          have HB1' := Aside0.mk (below_alloc HB.out (.cells #[.int .i64 y0, .bool y1, .bool y2, .slice B3 y3.length d3, .int .i64 y4, .string y5, .slice B6 y6.length d6, .slice B7 y7.length d7] 29))
          have hNl := Kd.N_lt HN.out
          generalize wr.alloc (.cells #[.int .i64 y0, .bool y1, .bool y2, .slice B3 y3.length d3, .int .i64 y4, .string y5, .slice B6 y6.length d6, .slice B7 y7.length d7] 29) = wv at HE1 HG1 HN1 HB1' ⊢
          have hNl2 := Aside0.mk hNl
          clear hNl g0 g1 g2 g3 g4 g5 g6 g7 HG HN
          obtain ⟨eb, heb⟩ : ∃ eb, wr.heap.size = eb := ⟨_, rfl⟩
          rw [heb] at HE1 hNl2 ⊢
          clear heb
          refine start_ (n := 8) (S := fun w' => w'.heap[g]? = some (.cells #[.int .i64 1, v, .int .i64 0, .bool false, .bool false, .slice none 0 0, .int .i64 0, .string (⟨#[]⟩ : ByteArray), .slice none 0 0, .slice none 0 0, .slice none 0 0] 33 (0, 0)) ∧ w'.heap[eb]? = some (.cells #[.int .i64 y0, .bool y1, .bool y2, .slice B3 y3.length d3, .int .i64 y4, .string y5, .slice B6 y6.length d6, .slice B7 y7.length d7] 29 (0, 0)) ∧ Below w4.heap.size w4 w') (ds := [7]) #[false, false, false, false, false, false, false, false] (by kernel_rfl) rfl rfl ⟨blk_drew HG1.out, blk_drew HE1.out, below_drew HB1'.out⟩ (fun hHeld => ?_)
          have HS := Aside0.mk hHeld
          have HN2 := Aside0.mk (Kd.N_drew HN1.out)
          generalize wv.drew = u at HS HN2 hHeld ⊢
          refine pure_ (i := 0) (N := some 45) (v := ?_) (a' := ?_) #[true, false, false, false, false, false, false, false] rfl rfl (by kernel_rfl) (fun _ _ _ h => h) (Or.inl ⟨by rfl, ?_⟩) ?_ ?_
          rotate_left
          · intro w'
            go_simp
            with_reducible rfl
          rotate_left
          · simp only [Act.put, List.setIfInBounds_toArray, List.set_cons_zero, List.set_cons_succ, i64_w, i32_w]
            rfl
          refine take_ (i := 1) (N := some 46) (v := ?_) (a' := ?_) #[true, true, false, false, false, false, false, false] rfl rfl (by kernel_rfl) (fun _ _ _ h => h) (Or.inl ⟨by rfl, ?_⟩) hHeld ?_ ?_
          rotate_left
          · intro w' s0
            have c1 := (blk_cell s0.1 1).trans rfl
            go_simp
            with_reducible rfl
          rotate_left
          · simp only [Act.put, List.setIfInBounds_toArray, List.set_cons_zero, List.set_cons_succ, i64_w, i32_w]
            rfl
          refine take_ (i := 2) (N := some 47) (v := ?_) (a' := ?_) #[true, true, true, false, false, false, false, false] rfl rfl (by kernel_rfl) (fun _ _ _ h => h) (Or.inl ⟨by rfl, ?_⟩) hHeld ?_ ?_
          rotate_left
          · intro w' s0
            have c0 := (blk_cell s0.2.1 0).trans rfl
            have c1 := (blk_cell s0.2.1 1).trans rfl
            have c2 := (blk_cell s0.2.1 2).trans rfl
            have c3 := (blk_cell s0.2.1 3).trans rfl
            have c4 := (blk_cell s0.2.1 4).trans rfl
            have c5 := (blk_cell s0.2.1 5).trans rfl
            have c6 := (blk_cell s0.2.1 6).trans rfl
            have c7 := (blk_cell s0.2.1 7).trans rfl
            go_simp
            with_reducible rfl
          rotate_left
          · simp only [Act.put, List.setIfInBounds_toArray, List.set_cons_zero, List.set_cons_succ, i64_w, i32_w]
            rfl
          refine one_ (i := 3) (N := some 48) #[true, true, true, true, false, false, false, false] rfl rfl (by kernel_rfl) (by decide) (fun K hK => ?_)
          have HBu := Aside0.mk (below_step HB4.out HS.out.2.2)
          refine may_ Tryd.func13 (by kernel_rfl) rfl #[.agg #[.int .i64 y0, .bool y1, .bool y2, .slice B3 y3.length d3, .int .i64 y4, .string y5, .slice B6 y6.length d6, .slice B7 y7.length d7]] (by rfl) rfl rfl (by (try simp only [List.map_toArray, List.map_cons, List.map_nil]); first | done | rfl) ?_
          refine (oper.calls k y0 y1 y2 B3 d3 y3 y4 y5 B6 d6 y6 B7 d7 y7 (fun k_ => PP k_ ∧ k_ < w.heap.size) u1 u2 u3 _ (HL.out.below HBu.out) (Kd.C_below (Kd.F_now HQ.out.1) HBu.out) HMM.out.1 (Kd.F_below (Kd.F_bound HQ.out.2.1) HBu.out) HMM.out.2.1 (Kd.F_below (Kd.F_bound HQ.out.2.2) HBu.out) HMM.out.2.2 HC2.out).mono ?_
          rintro e u5 hth
          cases u1 with
          | true =>
            obtain ⟨rfl, hb⟩ := ThrPost.bad hth
            have H9 := HO2.out
            rw [if_pos rfl] at H9
            injection H9 with H9
            injection H9 with e1 H9
            injection H9 with e2 e3
            subst e1 e2 e3
            refine .inr ⟨_, rfl, ?_⟩
            have HBf := Aside0.mk (below_step HBu.out hb)
            clear HO2 HC2 hK hth hb HS HN2 HQ HMM HE1 HG1 HN1 hNl2 hHeld
            go_wp2_with fail
            exact ⟨rfl, ThrPost.no ⟨rfl, HBf.out⟩⟩
          | false =>
            obtain ⟨A1', c1', A2', c2', A6', c6', A9', c9', A10', c10', rfl, hFK, hb⟩ := ThrPost.fine hth
            refine .inl ⟨_, rfl, ?_⟩
            have HS5 := Aside0.mk (show u5.heap[g]? = some (.cells #[.int .i64 1, v, .int .i64 0, .bool false, .bool false, .slice none 0 0, .int .i64 0, .string (⟨#[]⟩ : ByteArray), .slice none 0 0, .slice none 0 0, .slice none 0 0] 33 (0, 0)) ∧ u5.heap[eb]? = some (.cells #[.int .i64 y0, .bool y1, .bool y2, .slice B3 y3.length d3, .int .i64 y4, .string y5, .slice B6 y6.length d6, .slice B7 y7.length d7] 29 (0, 0)) ∧ Below w4.heap.size w4 u5 from ⟨blk_below HS.out.1 hb, blk_below HS.out.2.1 hb, below_step HS.out.2.2 hb⟩)
            have HN5 := Aside0.mk (Kd.N_below HN2.out hb)
            have HK5 := Aside0.mk hFK
            have hgu : g < u.heap.size := blk_lt HS.out.1
            have hru : w1.heap.size < u.heap.size := Nat.lt_of_lt_of_le hs4 HS.out.2.2.size
            have hwu : w.heap.size ≤ u.heap.size := HBu.out.size
            have hu5 : u.heap.size ≤ u5.heap.size := hb.size
            have h45 : w4.heap.size ≤ u5.heap.size := HS5.out.2.2.size
            have hw4 : w.heap.size ≤ w4.heap.size := HB4.out.size
            have hown : ∀ b, v.ownBlock = some b → w4.heap.size ≤ b ∧ b < u.heap.size := fun b hb_ => ⟨Kd.N_base HN2.out b hb_, Kd.N_lt HN2.out b hb_⟩
            have HOK := Aside0.mk (show ∀ k_, ((PP k_ ∧ k_ < w.heap.size) ∨ u.heap.size ≤ k_) → (fun k_ => PP k_ ∧ k_ < w.heap.size ∨ w.heap.size ≤ k_ ∧ k_ ≠ g ∧ k_ ≠ w1.heap.size) k_ ∧ some k_ ≠ v.ownBlock from fun k_ hk => ⟨hk.elim (fun h_ => .inl h_) (fun h_ => .inr ⟨by omega, by omega, by omega⟩), fun e_ => by have := hown k_ e_.symm; rcases hk with hk | hk <;> omega⟩)
            have HFR := Aside0.mk (show ∀ k_, u5.heap.size ≤ k_ → (fun k_ => PP k_ ∧ k_ < w.heap.size ∨ w.heap.size ≤ k_ ∧ k_ ≠ g ∧ k_ ≠ w1.heap.size) k_ from fun k_ hk => .inr ⟨by omega, by omega, by omega⟩)
            clear hth hb hFK HS HN2 HC2 HQ HMM hown
            refine hK.out _ _ HS5.out (fun hHeld => ?_)
            clear hK K
            refine norm_ (a' := ?_) ?_ ?_
            rotate_left
            · show Act.put _ (some 48) _ = _
              simp only [Act.put, List.setIfInBounds_toArray, List.set_cons_zero, List.set_cons_succ, i64_w, i32_w]
              rfl
            refine one_ (i := 4) (N := some 49) #[true, true, true, true, true, false, false, false] rfl rfl (by kernel_rfl) (by decide) (fun K hK => ?_)
            refine value_ (w1 := ?_) (v := ?_) (by rfl) rfl ?_ ?_
            rotate_left 2
            · go_simp
              constructor
              · rfl
              · rfl
            refine hK.out _ _ ⟨blk_alloc HS5.out.1 _, blk_alloc HS5.out.2.1 _, below_alloc HS5.out.2.2 _⟩ (fun hHeld => ?_)
            clear hK K
            refine norm_ (a' := ?_) ?_ ?_
            rotate_left
            · show Act.put _ (some 49) _ = _
              simp only [Act.put, List.setIfInBounds_toArray, List.set_cons_zero, List.set_cons_succ, i64_w, i32_w]
              rfl
            refine one_ (i := 5) (N := some 50) #[true, true, true, true, true, true, false, false] rfl rfl (by kernel_rfl) (by decide) (fun K hK => ?_)
            refine Kd.N_append_step k39 (w0 := w4) w4.heap.size (by rfl) (.tmp 46) (.tmp 49) 30 39 (.agg #[(.int .i64 0), (.slice none 0 0), (.slice none 0 0), (.int .i64 0), (.bool false), (.bool false), (.slice none 0 0), (.int .i64 0), (.string ⟨#[]⟩), (.slice none 0 0), (.slice none 0 0)]) 176 rfl Tryd.underlying30 info39 rfl (by decide) (by omega) v xs u3 [.int .i64 u3.f0, .slice A1' u3.f1.length c1', .slice A2' u3.f2.length c2', .int .i64 u3.f3.f0, .bool u3.f3.f1, .bool u3.f3.f2.f0, .slice A6' u3.f3.f2.f1.length c6', .int .i64 u3.f3.f2.f2, .string u3.f3.f3, .slice A9' u3.f3.f4.length c9', .slice A10' u3.f3.f5.length c10'] (fun k_ => PP k_ ∧ k_ < w.heap.size ∨ w.heap.size ≤ k_ ∧ k_ ≠ g ∧ k_ ≠ w1.heap.size) (fun k_ => (PP k_ ∧ k_ < w.heap.size) ∨ u.heap.size ≤ k_) rfl rfl HK5.out HOK.out HFR.out HN5.out HS5.out.2.2 h45 (by omega) ?_
            intro v1 w9 hN9 hB9 hg9 hat9
            have hng : some g ≠ v.ownBlock := fun e_ => by rcases HN5.out.1 g e_.symm with hk | hk <;> omega
            have hne : some eb ≠ v.ownBlock := fun e_ => absurd (hNl2.out eb e_.symm) (Nat.lt_irrefl _)
            have HS9 := Aside0.mk (show w9.heap[g]? = some (.cells #[.int .i64 1, v, .int .i64 0, .bool false, .bool false, .slice none 0 0, .int .i64 0, .string (⟨#[]⟩ : ByteArray), .slice none 0 0, .slice none 0 0, .slice none 0 0] 33 (0, 0)) ∧ w9.heap[eb]? = some (.cells #[.int .i64 y0, .bool y1, .bool y2, .slice B3 y3.length d3, .int .i64 y4, .string y5, .slice B6 y6.length d6, .slice B7 y7.length d7] 29 (0, 0)) ∧ Below w4.heap.size w4 w9 from ⟨blk_grown HS5.out.1 hg9 hng, blk_grown HS5.out.2.1 hg9 hne, hB9⟩)
            have HN9 := Aside0.mk hN9
            clear hN9 hB9 hg9 hat9 hng hne HS5 HN5 HK5 HOK HFR
            refine hK.out _ _ HS9.out (fun hHeld => ?_)
            clear hK K
            refine norm_ (a' := ?_) ?_ ?_
            rotate_left
            · show Act.put _ (some 50) _ = _
              simp only [Act.put, List.setIfInBounds_toArray, List.set_cons_zero, List.set_cons_succ, i64_w, i32_w]
              rfl
            obtain ⟨Bv, dv, hv1⟩ := Kd.N_slice HN9.out
            rw [show (xs ++ [u3]).length = i + 1 by rw [List.length_append, hlen]; rfl] at hv1
            subst hv1
            refine pure_ (i := 6) (N := some 51) (v := ?_) (a' := ?_) #[true, true, true, true, true, true, true, false] rfl rfl (by kernel_rfl) (fun _ _ _ h => h) (Or.inl ⟨by rfl, ?_⟩) ?_ ?_
            rotate_left
            · intro w'
              go_simp
              with_reducible rfl
            rotate_left
            · simp only [Act.put, List.setIfInBounds_toArray, List.set_cons_zero, List.set_cons_succ, i64_w, i32_w]
              rfl
            refine last_ (i := 7) (N := none) #[true, true, true, true, true, true, true, true] rfl rfl (by kernel_rfl) (by decide) (fun K hK => ?_)
            have s1 := (blk_cell HS9.out.1 1).trans rfl
            have sf1 := blk_frozen HS9.out.1 1
            refine skip_ (w1 := ?_) (by rfl) rfl ?_ ?_
            rotate_left
            · go_simp
              rfl
            clear s1 sf1
            refine hK.out _ _ ?_
            clear hK K
            refine done_ (by kernel_rfl) ?_
            have H9 := HO2.out
            rw [if_neg (by decide)] at H9
            have HJ := Aside0.mk (show ∃ (xs_ : List S39) (v_ : Value), Below w4.heap.size w4 (World.setCell w9 ⟨g, 1, none⟩ (.slice Bv (i + 1) dv)) ∧ (World.setCell w9 ⟨g, 1, none⟩ (.slice Bv (i + 1) dv)).heap[g]? = some (.cells #[.int .i64 1, v_, .int .i64 0, .bool false, .bool false, .slice none 0 0, .int .i64 0, .string (⟨#[]⟩ : ByteArray), .slice none 0 0, .slice none 0 0, .slice none 0 0] 33 (0, 0)) ∧ Kd.N k39 39 (World.setCell w9 ⟨g, 1, none⟩ (.slice Bv (i + 1) dv)) w4.heap.size (fun k_ => PP k_ ∧ k_ < w.heap.size ∨ w.heap.size ≤ k_ ∧ k_ ≠ g ∧ k_ ≠ w1.heap.size) v_ xs_ ∧ xs_.length = i + 1 ∧ opsF k (l7.drop (i + 1)) xs_ = some (o1, o2, o3) from ⟨xs ++ [u3], .slice Bv (i + 1) dv, below_set HS9.out.2.2 hg0, (blk_put (cs := #[.int .i64 1, v, .int .i64 0, .bool false, .bool false, .slice none 0 0, .int .i64 0, .string (⟨#[]⟩ : ByteArray), .slice none 0 0, .slice none 0 0, .slice none 0 0]) (cs' := #[.int .i64 1, .slice Bv (i + 1) dv, .int .i64 0, .bool false, .bool false, .slice none 0 0, .int .i64 0, .string (⟨#[]⟩ : ByteArray), .slice none 0 0, .slice none 0 0, .slice none 0 0]) HS9.out.1 1 _ rfl), Kd.N_far (p := ⟨g, 1, none⟩) HN9.out (fun k_ hk => by show k_ ≠ g; rcases hk with hk | hk <;> omega) _, by rw [List.length_append, hlen]; rfl, H9⟩)
            clear H9 HO2 HS9 HN9
            generalize (World.setCell w9 ⟨g, 1, none⟩ (.slice Bv (i + 1) dv)) = w10 at HJ ⊢
            go_wp2_with fail
            go_round
            case rel => exact ⟨i + 1, by omega, by go_num, HJ⟩
            case measure => simp [intOf]; omega
      rw [if_neg h1] at H2
      by_cases h3 : lg = 3
      · subst h3
        rw [if_pos rfl] at H2
        obtain ⟨⟨e1, e2⟩, he, H5⟩ := Option.bind_eq_some_iff.1 H2.out
        have HE := Aside0.mk he
        have H5 := Aside0.mk H5
        have HBw := Aside0.mk (below_step HB4.out HB5.out)
        clear H2 he
        have HXu := Aside0.mk (blk_below HX4.out HB5.out)
        have x0 := (blk_cell HXu.out 0).trans rfl
        have x1 := (blk_cell HXu.out 1).trans rfl
        have x2 := (blk_cell HXu.out 2).trans rfl
        have x3 := (blk_cell HXu.out 3).trans rfl
        have x4 := (blk_cell HXu.out 4).trans rfl
        have x5 := (blk_cell HXu.out 5).trans rfl
        have x6 := (blk_cell HXu.out 6).trans rfl
        have x7 := (blk_cell HXu.out 7).trans rfl
        go_wp2_with fail
        refine (wire_exactly.calls k a0 a1 a2 A3 c3 l3 a4 a5 A6 c6 l6 A7 c7 l7 (some ⟨w5.heap.size, 0, none⟩) 2 exM e1 e2 _ (Kd.C_below (Kd.F_now HR.out.1) (below_alloc HBw.out _)) HM.out.1 (Kd.C_below (Kd.F_now HR.out.2.1) (below_alloc HBw.out _)) HM.out.2.1 (Kd.C_below (Kd.F_now HR.out.2.2) (below_alloc HBw.out _)) HM.out.2.2 (C_lit #[.string (⟨#[109, 97, 115, 107]⟩ : ByteArray), .string (⟨#[118, 97, 108, 117, 101]⟩ : ByteArray)] exM 9 rfl (by decide)) (Nat.le_refl _) HE.out).mono ?_
        rintro e w6 hth
        cases e1 with
        | true =>
          obtain ⟨rfl, hb⟩ := ThrPost.bad hth
          have HBf := Aside0.mk (below_step (below_alloc HBw.out _) hb)
          have H9 := H5.out
          clear H5 hth hb HE x0 x1 x2 x3 x4 x5 x6 x7
          simp only [if_true] at H9
          injection H9 with H9
          injection H9 with e1 H9
          injection H9 with e2 H9
          injection H9 with e3 H9
          injection H9 with e4 e5
          subst e1 e2 e3 e4 e5
          go_wp2_with fail
          exact ⟨rfl, ThrPost.no ⟨rfl, HBf.out⟩⟩
        | false =>
          obtain ⟨rfl, hb⟩ := ThrPost.fine hth
          have HB6 := Aside0.mk (below_step (below_alloc HB5.out _) hb)
          have HG6 := Aside0.mk (blk_below (blk_alloc HG5.out _) hb)
          have HBw6 := Aside0.mk (below_step (below_alloc HBw.out _) hb)
          have H6 := H5.out
          rw [if_neg (by decide)] at H6
          obtain ⟨⟨m1, m2, m3⟩, hm, H6⟩ := Option.bind_eq_some_iff.1 H6
          have HMM := Aside0.mk hm
          have H6 := Aside0.mk H6
          clear H5 hth hb hm HE HB5 HG5 HBw HXu x0 x1 x2 x3 x4 x5 x6 x7
          have HXu := Aside0.mk (blk_below HX4.out HB6.out)
          have x0 := (blk_cell HXu.out 0).trans rfl
          have x1 := (blk_cell HXu.out 1).trans rfl
          have x2 := (blk_cell HXu.out 2).trans rfl
          have x3 := (blk_cell HXu.out 3).trans rfl
          have x4 := (blk_cell HXu.out 4).trans rfl
          have x5 := (blk_cell HXu.out 5).trans rfl
          have x6 := (blk_cell HXu.out 6).trans rfl
          have x7 := (blk_cell HXu.out 7).trans rfl
          go_wp2_with fail
          refine (wire_member.calls k a0 a1 a2 A3 c3 l3 a4 a5 A6 c6 l6 A7 c7 l7 (⟨#[109, 97, 115, 107]⟩ : ByteArray) m1 m2 m3 _ (Kd.C_below (Kd.F_now HR.out.1) HBw6.out) HM.out.1 (Kd.C_below (Kd.F_now HR.out.2.1) HBw6.out) HM.out.2.1 (Kd.C_below (Kd.F_now HR.out.2.2) HBw6.out) HM.out.2.2 HMM.out).mono ?_
          rintro e w7 hth
          cases m1 with
          | true =>
            obtain ⟨rfl, hb⟩ := ThrPost.bad hth
            have HBf := Aside0.mk (below_step HBw6.out hb)
            have H9 := H6.out
            clear H6 hth hb HMM x0 x1 x2 x3 x4 x5 x6 x7
            simp only [if_true] at H9
            injection H9 with H9
            injection H9 with e1 H9
            injection H9 with e2 H9
            injection H9 with e3 H9
            injection H9 with e4 e5
            subst e1 e2 e3 e4 e5
            go_wp2_with fail
            exact ⟨rfl, ThrPost.no ⟨rfl, HBf.out⟩⟩
          | false =>
            obtain ⟨rfl, hb⟩ := ThrPost.fine hth
            have HB7 := Aside0.mk (below_step HB6.out hb)
            have HG7 := Aside0.mk (blk_below HG6.out hb)
            have HBw7 := Aside0.mk (below_step HBw6.out hb)
            have H7 := H6.out
            rw [if_neg (by decide)] at H7
            obtain ⟨⟨n1, n2⟩, hn, H7⟩ := Option.bind_eq_some_iff.1 H7
            have HN := Aside0.mk hn
            have H7 := Aside0.mk H7
            clear H6 hth hb hn HMM HB6 HG6 HBw6 HXu x0 x1 x2 x3 x4 x5 x6 x7
            go_wp2_with fail
            refine (mask_Parse.calls k m3 n1 n2 _ (HL.out.below HBw7.out) HN.out).mono ?_
            rintro e w8 ⟨vM, rfl, hS, hb⟩
            obtain ⟨BM, dM, rfl, hml, _⟩ := Kd.R_reads (Kd.S_R hS)
            have hg7 : g < w7.heap.size := blk_lt HG7.out
            have hr7 : w1.heap.size < w7.heap.size := Nat.lt_of_lt_of_le hs4 HB7.out.size
            have hw7 : w.heap.size ≤ w7.heap.size := HBw7.out.size
            have HFM := Aside0.mk (Kd.F_mono (Kd.R_F (Kd.R_bound (Kd.S_R hS))) (ok' := (fun k_ => PP k_ ∧ k_ < w.heap.size ∨ w.heap.size ≤ k_ ∧ k_ ≠ g ∧ k_ ≠ w1.heap.size)) (fun k_ hk => .inr ⟨by have := hk.2.1; omega, by have := hk.2.1; omega, by have := hk.2.1; omega⟩))
            have HFl := Aside0.mk hml
            have HB8 := Aside0.mk (below_step HB7.out hb)
            have HG8 := Aside0.mk (blk_below HG7.out hb)
            have HBw8 := Aside0.mk (below_step HBw7.out hb)
            clear hS hb hml HN HB7 HG7 HBw7 hg7 hr7 hw7
            by_cases hn0 : n2 = 0
            case neg =>
              have H9 := H7.out
              rw [if_neg hn0] at H9
              injection H9 with H9
              injection H9 with e1 H9
              injection H9 with e2 H9
              injection H9 with e3 H9
              injection H9 with e4 e5
              subst e1 e2 e3 e4 e5
              clear H7
              have hn1 : (n2 == 0) = false := by simp [hn0]
              go_wp2_with fail
              refine (wire_must.calls false n2 true n2 _ rfl).mono ?_
              rintro e wt hth
              obtain ⟨rfl, ndt, rfl⟩ := ThrPost.bad hth
              clear hth
              go_wp2_with fail
              exact ⟨rfl, ThrPost.no ⟨rfl, pw_below_drewN HBw8.out _⟩⟩
            subst hn0
            have H8 := H7.out
            rw [if_pos rfl] at H8
            obtain ⟨⟨j0, j1, j2, j3, j4, j5, j6, j7, j8⟩, hj, H8⟩ := Option.bind_eq_some_iff.1 H8
            have HJ := Aside0.mk hj
            injection H8 with H8
            injection H8 with e1 H8
            injection H8 with e2 H8
            injection H8 with e3 H8
            injection H8 with e4 e5
            subst e1 e2 e3 e4 e5
            clear H7 hj
            go_wp2_with fail
            refine (wire_must.calls true 0 false 0 _ rfl).mono ?_
            rintro e w9 hth
            obtain ⟨rfl, nd9, rfl⟩ := ThrPost.fine hth
            clear hth
            replace HB8 := Aside0.mk (pw_below_drewN HB8.out nd9)
            replace HG8 := Aside0.mk (show (w8.drewN nd9).heap[g]? = _ from blk_drewN HG8.out nd9)
            replace HFM := Aside0.mk (Kd.F_drewN HFM.out nd9)
            clear HBw8
            generalize w8.drewN nd9 = w9 at HB8 HG8 HFM ⊢
            have HB10 := Aside0.mk (show Below w4.heap.size w4 (World.setCell w9 ⟨g, 10, none⟩ (.slice BM n1.length dM)) from below_set HB8.out hg0)
            have HG10 := Aside0.mk (show ((World.setCell w9 ⟨g, 10, none⟩ (.slice BM n1.length dM))).heap[g]? = some (.cells #[.int .i64 3, .slice none 0 0, .int .i64 a0, .bool a1, .bool a2, .slice A3 l3.length c3, .int .i64 a4, .string a5, .slice A6 l6.length c6, .slice A7 l7.length c7, .slice BM n1.length dM] 33 (0, 0)) from (blk_put (cs := #[.int .i64 3, .slice none 0 0, .int .i64 a0, .bool a1, .bool a2, .slice A3 l3.length c3, .int .i64 a4, .string a5, .slice A6 l6.length c6, .slice A7 l7.length c7, .slice none 0 0]) (cs' := #[.int .i64 3, .slice none 0 0, .int .i64 a0, .bool a1, .bool a2, .slice A3 l3.length c3, .int .i64 a4, .string a5, .slice A6 l6.length c6, .slice A7 l7.length c7, .slice BM n1.length dM]) HG8.out 10 _ rfl))
            have hfar : ∀ k_, k_ ≠ g → ((World.setCell w9 ⟨g, 10, none⟩ (.slice BM n1.length dM))).heap[k_]? = w9.heap[k_]? := fun k_ hk => (Below.heap_setCell _ ⟨g, 10, none⟩ _ k_ hk).trans (rfl)
            have HFM10 := Aside0.mk (Kd.F_step HFM.out (fun k_ hk _ => hfar k_ (by rcases hk with hk | hk <;> omega)))
            have s10 := (blk_cell HG8.out 10).trans rfl
            have sf10 := blk_frozen HG8.out 10
            obtain ⟨w10, hw10⟩ : ∃ w10, (World.setCell w9 ⟨g, 10, none⟩ (.slice BM n1.length dM)) = w10 := ⟨_, rfl⟩
            rw [hw10] at HB10 HG10 HFM10
            clear hfar HB8 HG8 HFM
            have HBw := Aside0.mk (below_step HB4.out HB10.out)
            have HXu := Aside0.mk (blk_below HX4.out HB10.out)
            have x0 := (blk_cell HXu.out 0).trans rfl
            have x1 := (blk_cell HXu.out 1).trans rfl
            have x2 := (blk_cell HXu.out 2).trans rfl
            have x3 := (blk_cell HXu.out 3).trans rfl
            have x4 := (blk_cell HXu.out 4).trans rfl
            have x5 := (blk_cell HXu.out 5).trans rfl
            have x6 := (blk_cell HXu.out 6).trans rfl
            have x7 := (blk_cell HXu.out 7).trans rfl
            go_wp2_with fail
            refine (tree_Member.calls k a0 a1 a2 A3 c3 l3 a4 a5 (fun k_ => PP k_ ∧ k_ < w.heap.size) A6 c6 l6 (fun k_ => PP k_ ∧ k_ < w.heap.size) A7 c7 l7 (⟨#[118, 97, 108, 117, 101]⟩ : ByteArray) j0 j1 j2 j3 j4 j5 j6 j7 j8 _ (Kd.C_below (Kd.F_now HR.out.1) HBw.out) HM.out.1 (Kd.V_mk HM.out.2.1 (Kd.F_below (Kd.F_bound HR.out.2.1) HBw.out)) (Kd.V_mk HM.out.2.2 (Kd.F_below (Kd.F_bound HR.out.2.2) HBw.out)) HJ.out).mono ?_
            rintro e w11 ⟨vB3, vB6, vB7, rfl, ⟨B6, d6, rfl, g6, f6⟩, ⟨B9, d9, rfl, g9, f9⟩, ⟨B10, d10, rfl, g10, f10⟩, hb⟩
            have hg10' : g < w10.heap.size := blk_lt HG10.out
            have hr10 : w1.heap.size < w10.heap.size := Nat.lt_of_lt_of_le hs4 HB10.out.size
            have F6 := Aside0.mk (Kd.F_mono f6 (ok' := (fun k_ => PP k_ ∧ k_ < w.heap.size ∨ w.heap.size ≤ k_ ∧ k_ ≠ g ∧ k_ ≠ w1.heap.size)) (fun k_ hk => by rcases hk with (hk | hk) | hk <;> first | exact .inl hk | exact .inr ⟨by omega, by omega, by omega⟩))
            have F9 := Aside0.mk (Kd.F_mono f9 (ok' := (fun k_ => PP k_ ∧ k_ < w.heap.size ∨ w.heap.size ≤ k_ ∧ k_ ≠ g ∧ k_ ≠ w1.heap.size)) (fun k_ hk => by rcases hk with (hk | hk) | hk <;> first | exact .inl hk | exact .inr ⟨by omega, by omega, by omega⟩))
            have F10 := Aside0.mk (Kd.F_mono f10 (ok' := (fun k_ => PP k_ ∧ k_ < w.heap.size ∨ w.heap.size ≤ k_ ∧ k_ ≠ g ∧ k_ ≠ w1.heap.size)) (fun k_ hk => by rcases hk with (hk | hk) | hk <;> first | exact .inl hk | exact .inr ⟨by omega, by omega, by omega⟩))
            have HGG := Aside0.mk (And.intro g6 (And.intro g9 g10))
            have HB11 := Aside0.mk (below_step HB10.out hb)
            have HG11 := Aside0.mk (blk_below HG10.out hb)
            have HFM11 := Aside0.mk (Kd.F_below HFM10.out hb)
            clear f6 f9 f10 g6 g9 g10 hb HB10 HG10 HFM10 HJ HXu HBw s10 sf10 hw10 x0 x1 x2 x3 x4 x5 x6 x7
            have s0 := (blk_cell HG11.out 0).trans rfl
            have sf0 := blk_frozen HG11.out 0
            have s1 := (blk_cell HG11.out 1).trans rfl
            have sf1 := blk_frozen HG11.out 1
            have s2 := (blk_cell HG11.out 2).trans rfl
            have sf2 := blk_frozen HG11.out 2
            have s3 := (blk_cell HG11.out 3).trans rfl
            have sf3 := blk_frozen HG11.out 3
            have s4 := (blk_cell HG11.out 4).trans rfl
            have sf4 := blk_frozen HG11.out 4
            have s5 := (blk_cell HG11.out 5).trans rfl
            have sf5 := blk_frozen HG11.out 5
            have s6 := (blk_cell HG11.out 6).trans rfl
            have sf6 := blk_frozen HG11.out 6
            have s7 := (blk_cell HG11.out 7).trans rfl
            have sf7 := blk_frozen HG11.out 7
            have s8 := (blk_cell HG11.out 8).trans rfl
            have sf8 := blk_frozen HG11.out 8
            have s9 := (blk_cell HG11.out 9).trans rfl
            have sf9 := blk_frozen HG11.out 9
            have s10 := (blk_cell HG11.out 10).trans rfl
            have sf10 := blk_frozen HG11.out 10
            go_wp2_with fail
            clear s0 s1 s2 s3 s4 s5 s6 s7 s8 s9 s10 sf0 sf1 sf2 sf3 sf4 sf5 sf6 sf7 sf8 sf9 sf10
            have HB12 := Aside0.mk (show Below w4.heap.size w4 (World.setCell (World.setCell (World.setCell (World.setCell (World.setCell (World.setCell (World.setCell (World.setCell w11 ⟨g, 2, none⟩ (.int .i64 j0)) ⟨g, 3, none⟩ (.bool j1)) ⟨g, 4, none⟩ (.bool j2)) ⟨g, 5, none⟩ (.slice B6 j3.length d6)) ⟨g, 6, none⟩ (.int .i64 j4)) ⟨g, 7, none⟩ (.string j5)) ⟨g, 8, none⟩ (.slice B9 j6.length d9)) ⟨g, 9, none⟩ (.slice B10 j7.length d10)) from (below_set (below_set (below_set (below_set (below_set (below_set (below_set (below_set HB11.out hg0) hg0) hg0) hg0) hg0) hg0) hg0) hg0))
            have HG12 := Aside0.mk (show ((World.setCell (World.setCell (World.setCell (World.setCell (World.setCell (World.setCell (World.setCell (World.setCell w11 ⟨g, 2, none⟩ (.int .i64 j0)) ⟨g, 3, none⟩ (.bool j1)) ⟨g, 4, none⟩ (.bool j2)) ⟨g, 5, none⟩ (.slice B6 j3.length d6)) ⟨g, 6, none⟩ (.int .i64 j4)) ⟨g, 7, none⟩ (.string j5)) ⟨g, 8, none⟩ (.slice B9 j6.length d9)) ⟨g, 9, none⟩ (.slice B10 j7.length d10))).heap[g]? = some (.cells #[.int .i64 3, .slice none 0 0, .int .i64 j0, .bool j1, .bool j2, .slice B6 j3.length d6, .int .i64 j4, .string j5, .slice B9 j6.length d9, .slice B10 j7.length d10, .slice BM n1.length dM] 33 (0, 0)) from (blk_put (cs := #[.int .i64 3, .slice none 0 0, .int .i64 j0, .bool j1, .bool j2, .slice B6 j3.length d6, .int .i64 j4, .string j5, .slice B9 j6.length d9, .slice A7 l7.length c7, .slice BM n1.length dM]) (cs' := #[.int .i64 3, .slice none 0 0, .int .i64 j0, .bool j1, .bool j2, .slice B6 j3.length d6, .int .i64 j4, .string j5, .slice B9 j6.length d9, .slice B10 j7.length d10, .slice BM n1.length dM]) (blk_put (cs := #[.int .i64 3, .slice none 0 0, .int .i64 j0, .bool j1, .bool j2, .slice B6 j3.length d6, .int .i64 j4, .string j5, .slice A6 l6.length c6, .slice A7 l7.length c7, .slice BM n1.length dM]) (cs' := #[.int .i64 3, .slice none 0 0, .int .i64 j0, .bool j1, .bool j2, .slice B6 j3.length d6, .int .i64 j4, .string j5, .slice B9 j6.length d9, .slice A7 l7.length c7, .slice BM n1.length dM]) (blk_put (cs := #[.int .i64 3, .slice none 0 0, .int .i64 j0, .bool j1, .bool j2, .slice B6 j3.length d6, .int .i64 j4, .string a5, .slice A6 l6.length c6, .slice A7 l7.length c7, .slice BM n1.length dM]) (cs' := #[.int .i64 3, .slice none 0 0, .int .i64 j0, .bool j1, .bool j2, .slice B6 j3.length d6, .int .i64 j4, .string j5, .slice A6 l6.length c6, .slice A7 l7.length c7, .slice BM n1.length dM]) (blk_put (cs := #[.int .i64 3, .slice none 0 0, .int .i64 j0, .bool j1, .bool j2, .slice B6 j3.length d6, .int .i64 a4, .string a5, .slice A6 l6.length c6, .slice A7 l7.length c7, .slice BM n1.length dM]) (cs' := #[.int .i64 3, .slice none 0 0, .int .i64 j0, .bool j1, .bool j2, .slice B6 j3.length d6, .int .i64 j4, .string a5, .slice A6 l6.length c6, .slice A7 l7.length c7, .slice BM n1.length dM]) (blk_put (cs := #[.int .i64 3, .slice none 0 0, .int .i64 j0, .bool j1, .bool j2, .slice A3 l3.length c3, .int .i64 a4, .string a5, .slice A6 l6.length c6, .slice A7 l7.length c7, .slice BM n1.length dM]) (cs' := #[.int .i64 3, .slice none 0 0, .int .i64 j0, .bool j1, .bool j2, .slice B6 j3.length d6, .int .i64 a4, .string a5, .slice A6 l6.length c6, .slice A7 l7.length c7, .slice BM n1.length dM]) (blk_put (cs := #[.int .i64 3, .slice none 0 0, .int .i64 j0, .bool j1, .bool a2, .slice A3 l3.length c3, .int .i64 a4, .string a5, .slice A6 l6.length c6, .slice A7 l7.length c7, .slice BM n1.length dM]) (cs' := #[.int .i64 3, .slice none 0 0, .int .i64 j0, .bool j1, .bool j2, .slice A3 l3.length c3, .int .i64 a4, .string a5, .slice A6 l6.length c6, .slice A7 l7.length c7, .slice BM n1.length dM]) (blk_put (cs := #[.int .i64 3, .slice none 0 0, .int .i64 j0, .bool a1, .bool a2, .slice A3 l3.length c3, .int .i64 a4, .string a5, .slice A6 l6.length c6, .slice A7 l7.length c7, .slice BM n1.length dM]) (cs' := #[.int .i64 3, .slice none 0 0, .int .i64 j0, .bool j1, .bool a2, .slice A3 l3.length c3, .int .i64 a4, .string a5, .slice A6 l6.length c6, .slice A7 l7.length c7, .slice BM n1.length dM]) (blk_put (cs := #[.int .i64 3, .slice none 0 0, .int .i64 a0, .bool a1, .bool a2, .slice A3 l3.length c3, .int .i64 a4, .string a5, .slice A6 l6.length c6, .slice A7 l7.length c7, .slice BM n1.length dM]) (cs' := #[.int .i64 3, .slice none 0 0, .int .i64 j0, .bool a1, .bool a2, .slice A3 l3.length c3, .int .i64 a4, .string a5, .slice A6 l6.length c6, .slice A7 l7.length c7, .slice BM n1.length dM]) HG11.out 2 _ rfl) 3 _ rfl) 4 _ rfl) 5 _ rfl) 6 _ rfl) 7 _ rfl) 8 _ rfl) 9 _ rfl))
            have hfar : ∀ k_, k_ ≠ g → ((World.setCell (World.setCell (World.setCell (World.setCell (World.setCell (World.setCell (World.setCell (World.setCell w11 ⟨g, 2, none⟩ (.int .i64 j0)) ⟨g, 3, none⟩ (.bool j1)) ⟨g, 4, none⟩ (.bool j2)) ⟨g, 5, none⟩ (.slice B6 j3.length d6)) ⟨g, 6, none⟩ (.int .i64 j4)) ⟨g, 7, none⟩ (.string j5)) ⟨g, 8, none⟩ (.slice B9 j6.length d9)) ⟨g, 9, none⟩ (.slice B10 j7.length d10))).heap[k_]? = w11.heap[k_]? := fun k_ hk => (Below.heap_setCell _ ⟨g, 9, none⟩ _ k_ hk).trans ((Below.heap_setCell _ ⟨g, 8, none⟩ _ k_ hk).trans ((Below.heap_setCell _ ⟨g, 7, none⟩ _ k_ hk).trans ((Below.heap_setCell _ ⟨g, 6, none⟩ _ k_ hk).trans ((Below.heap_setCell _ ⟨g, 5, none⟩ _ k_ hk).trans ((Below.heap_setCell _ ⟨g, 4, none⟩ _ k_ hk).trans ((Below.heap_setCell _ ⟨g, 3, none⟩ _ k_ hk).trans ((Below.heap_setCell _ ⟨g, 2, none⟩ _ k_ hk).trans (rfl))))))))
            have HPF := Aside0.mk (show PatF (World.setCell (World.setCell (World.setCell (World.setCell (World.setCell (World.setCell (World.setCell (World.setCell w11 ⟨g, 2, none⟩ (.int .i64 j0)) ⟨g, 3, none⟩ (.bool j1)) ⟨g, 4, none⟩ (.bool j2)) ⟨g, 5, none⟩ (.slice B6 j3.length d6)) ⟨g, 6, none⟩ (.int .i64 j4)) ⟨g, 7, none⟩ (.string j5)) ⟨g, 8, none⟩ (.slice B9 j6.length d9)) ⟨g, 9, none⟩ (.slice B10 j7.length d10)) (fun k_ => PP k_ ∧ k_ < w.heap.size ∨ w.heap.size ≤ k_ ∧ k_ ≠ g ∧ k_ ≠ w1.heap.size) [] ⟨j0, j1, ⟨j2, j3, j4⟩, j5, j6, j7⟩ n1 none 0 B6 d6 B9 d9 B10 d10 BM dM from ⟨⟨Nat.le_refl _, Kd.F_nil _ _ _⟩, ⟨HGG.out.1, (Kd.F_step F6.out (fun k_ hk _ => hfar k_ (by rcases hk with hk | hk <;> omega)))⟩, ⟨HGG.out.2.1, (Kd.F_step F9.out (fun k_ hk _ => hfar k_ (by rcases hk with hk | hk <;> omega)))⟩, ⟨HGG.out.2.2, (Kd.F_step F10.out (fun k_ hk _ => hfar k_ (by rcases hk with hk | hk <;> omega)))⟩, ⟨HFl.out, (Kd.F_step HFM11.out (fun k_ hk _ => hfar k_ (by rcases hk with hk | hk <;> omega)))⟩⟩)
            clear hfar F6 F9 F10 HFM11 HB11 HG11
            generalize (World.setCell (World.setCell (World.setCell (World.setCell (World.setCell (World.setCell (World.setCell (World.setCell w11 ⟨g, 2, none⟩ (.int .i64 j0)) ⟨g, 3, none⟩ (.bool j1)) ⟨g, 4, none⟩ (.bool j2)) ⟨g, 5, none⟩ (.slice B6 j3.length d6)) ⟨g, 6, none⟩ (.int .i64 j4)) ⟨g, 7, none⟩ (.string j5)) ⟨g, 8, none⟩ (.slice B9 j6.length d9)) ⟨g, 9, none⟩ (.slice B10 j7.length d10)) = w12 at HB12 HG12 HPF ⊢
            go_wp2_with fail
            go_meet
            case rel => exact ⟨none, 0, B6, d6, B9, d9, B10, d10, BM, dM, by first | rfl | trivial, HB12, HG12, ⟨HPF.out⟩⟩
      rw [if_neg h3] at H2
      have H3 := H2.out
      injection H3 with H3
      injection H3 with e1 H3
      injection H3 with e2 H3
      injection H3 with e3 H3
      injection H3 with e4 e5
      subst e1 e2 e3 e4 e5
      clear H2
      have hbw5 := below_step HB4.out HB5.out
      have hok : ∀ k_, (PP k_ ∧ k_ < w.heap.size) → (fun k_ => PP k_ ∧ k_ < w.heap.size ∨ w.heap.size ≤ k_ ∧ k_ ≠ g ∧ k_ ≠ w1.heap.size) k_ := fun k_ hk => .inl hk
      have HPF := Aside0.mk (show PatF w5 (fun k_ => PP k_ ∧ k_ < w.heap.size ∨ w.heap.size ≤ k_ ∧ k_ ≠ g ∧ k_ ≠ w1.heap.size) [] ⟨a0, a1, ⟨a2, l3, a4⟩, a5, l6, l7⟩ [] none 0 A3 c3 A6 c6 A7 c7 none 0 from ⟨⟨Nat.le_refl _, Kd.F_nil _ _ _⟩, ⟨HM.out.1, Kd.F_mono (Kd.F_below (Kd.F_bound HR.out.1) hbw5) hok⟩, ⟨HM.out.2.1, Kd.F_mono (Kd.F_below (Kd.F_bound HR.out.2.1) hbw5) hok⟩, ⟨HM.out.2.2, Kd.F_mono (Kd.F_below (Kd.F_bound HR.out.2.2) hbw5) hok⟩, ⟨Nat.le_refl _, Kd.F_nil _ _ _⟩⟩)
      clear hbw5 hok
      go_wp2_with fail
      go_meet
      case rel => exact ⟨none, 0, A3, c3, A6, c6, A7, c7, none, 0, by first | rfl | trivial, HB5, HG5, ⟨HPF.out⟩⟩
    case rest =>
      obtain ⟨BO, dO, B6, d6, B9, d9, B10, d10, BM, dM, rfl, HBu, HGu, HP⟩ := hcut
      have HRu := Aside0.mk (blk_below HR4.out HBu.out)
      clear H2 HB5 HG5 HX4
      have s0 := (blk_cell HGu.out 0).trans rfl
      have s1 := (blk_cell HGu.out 1).trans rfl
      have s2 := (blk_cell HGu.out 2).trans rfl
      have s3 := (blk_cell HGu.out 3).trans rfl
      have s4 := (blk_cell HGu.out 4).trans rfl
      have s5 := (blk_cell HGu.out 5).trans rfl
      have s6 := (blk_cell HGu.out 6).trans rfl
      have s7 := (blk_cell HGu.out 7).trans rfl
      have s8 := (blk_cell HGu.out 8).trans rfl
      have s9 := (blk_cell HGu.out 9).trans rfl
      have s10 := (blk_cell HGu.out 10).trans rfl
      have t0 := (blk_cell HRu.out 0).trans rfl
      have tf0 := blk_frozen HRu.out 0
      have t1 := (blk_cell HRu.out 1).trans rfl
      have tf1 := blk_frozen HRu.out 1
      have t2 := (blk_cell HRu.out 2).trans rfl
      have tf2 := blk_frozen HRu.out 2
      have t3 := (blk_cell HRu.out 3).trans rfl
      have tf3 := blk_frozen HRu.out 3
      have t4 := (blk_cell HRu.out 4).trans rfl
      have tf4 := blk_frozen HRu.out 4
      have t5 := (blk_cell HRu.out 5).trans rfl
      have tf5 := blk_frozen HRu.out 5
      have t6 := (blk_cell HRu.out 6).trans rfl
      have tf6 := blk_frozen HRu.out 6
      have t7 := (blk_cell HRu.out 7).trans rfl
      have tf7 := blk_frozen HRu.out 7
      have t8 := (blk_cell HRu.out 8).trans rfl
      have tf8 := blk_frozen HRu.out 8
      have t9 := (blk_cell HRu.out 9).trans rfl
      have tf9 := blk_frozen HRu.out 9
      have t10 := (blk_cell HRu.out 10).trans rfl
      have tf10 := blk_frozen HRu.out 10
      have hne : g ≠ w1.heap.size := by omega
      have hne2 : w1.heap.size ≠ g := by omega
      go_wp2_with fail
      clear s0 s1 s2 s3 s4 s5 s6 s7 s8 s9 s10
      clear t0 t1 t2 t3 t4 t5 t6 t7 t8 t9 t10 tf0 tf1 tf2 tf3 tf4 tf5 tf6 tf7 tf8 tf9 tf10
      have HRn := Aside0.mk (show ((World.setCell (World.setCell (World.setCell (World.setCell (World.setCell (World.setCell (World.setCell (World.setCell (World.setCell (World.setCell (World.setCell wc ⟨w1.heap.size, 0, none⟩ (.int .i64 lg)) ⟨w1.heap.size, 1, none⟩ (.slice BO os.length dO)) ⟨w1.heap.size, 2, none⟩ (.int .i64 v.f0)) ⟨w1.heap.size, 3, none⟩ (.bool v.f1)) ⟨w1.heap.size, 4, none⟩ (.bool v.f2.f0)) ⟨w1.heap.size, 5, none⟩ (.slice B6 v.f2.f1.length d6)) ⟨w1.heap.size, 6, none⟩ (.int .i64 v.f2.f2)) ⟨w1.heap.size, 7, none⟩ (.string v.f3)) ⟨w1.heap.size, 8, none⟩ (.slice B9 v.f4.length d9)) ⟨w1.heap.size, 9, none⟩ (.slice B10 v.f5.length d10)) ⟨w1.heap.size, 10, none⟩ (.slice BM ms.length dM))).heap[w1.heap.size]? = some (.cells #[.int .i64 lg, .slice BO os.length dO, .int .i64 v.f0, .bool v.f1, .bool v.f2.f0, .slice B6 v.f2.f1.length d6, .int .i64 v.f2.f2, .string v.f3, .slice B9 v.f4.length d9, .slice B10 v.f5.length d10, .slice BM ms.length dM] 33 (0, 0)) from (blk_put (cs := #[.int .i64 lg, .slice BO os.length dO, .int .i64 v.f0, .bool v.f1, .bool v.f2.f0, .slice B6 v.f2.f1.length d6, .int .i64 v.f2.f2, .string v.f3, .slice B9 v.f4.length d9, .slice B10 v.f5.length d10, .slice none 0 0]) (cs' := #[.int .i64 lg, .slice BO os.length dO, .int .i64 v.f0, .bool v.f1, .bool v.f2.f0, .slice B6 v.f2.f1.length d6, .int .i64 v.f2.f2, .string v.f3, .slice B9 v.f4.length d9, .slice B10 v.f5.length d10, .slice BM ms.length dM]) (blk_put (cs := #[.int .i64 lg, .slice BO os.length dO, .int .i64 v.f0, .bool v.f1, .bool v.f2.f0, .slice B6 v.f2.f1.length d6, .int .i64 v.f2.f2, .string v.f3, .slice B9 v.f4.length d9, .slice none 0 0, .slice none 0 0]) (cs' := #[.int .i64 lg, .slice BO os.length dO, .int .i64 v.f0, .bool v.f1, .bool v.f2.f0, .slice B6 v.f2.f1.length d6, .int .i64 v.f2.f2, .string v.f3, .slice B9 v.f4.length d9, .slice B10 v.f5.length d10, .slice none 0 0]) (blk_put (cs := #[.int .i64 lg, .slice BO os.length dO, .int .i64 v.f0, .bool v.f1, .bool v.f2.f0, .slice B6 v.f2.f1.length d6, .int .i64 v.f2.f2, .string v.f3, .slice none 0 0, .slice none 0 0, .slice none 0 0]) (cs' := #[.int .i64 lg, .slice BO os.length dO, .int .i64 v.f0, .bool v.f1, .bool v.f2.f0, .slice B6 v.f2.f1.length d6, .int .i64 v.f2.f2, .string v.f3, .slice B9 v.f4.length d9, .slice none 0 0, .slice none 0 0]) (blk_put (cs := #[.int .i64 lg, .slice BO os.length dO, .int .i64 v.f0, .bool v.f1, .bool v.f2.f0, .slice B6 v.f2.f1.length d6, .int .i64 v.f2.f2, .string (⟨#[]⟩ : ByteArray), .slice none 0 0, .slice none 0 0, .slice none 0 0]) (cs' := #[.int .i64 lg, .slice BO os.length dO, .int .i64 v.f0, .bool v.f1, .bool v.f2.f0, .slice B6 v.f2.f1.length d6, .int .i64 v.f2.f2, .string v.f3, .slice none 0 0, .slice none 0 0, .slice none 0 0]) (blk_put (cs := #[.int .i64 lg, .slice BO os.length dO, .int .i64 v.f0, .bool v.f1, .bool v.f2.f0, .slice B6 v.f2.f1.length d6, .int .i64 0, .string (⟨#[]⟩ : ByteArray), .slice none 0 0, .slice none 0 0, .slice none 0 0]) (cs' := #[.int .i64 lg, .slice BO os.length dO, .int .i64 v.f0, .bool v.f1, .bool v.f2.f0, .slice B6 v.f2.f1.length d6, .int .i64 v.f2.f2, .string (⟨#[]⟩ : ByteArray), .slice none 0 0, .slice none 0 0, .slice none 0 0]) (blk_put (cs := #[.int .i64 lg, .slice BO os.length dO, .int .i64 v.f0, .bool v.f1, .bool v.f2.f0, .slice none 0 0, .int .i64 0, .string (⟨#[]⟩ : ByteArray), .slice none 0 0, .slice none 0 0, .slice none 0 0]) (cs' := #[.int .i64 lg, .slice BO os.length dO, .int .i64 v.f0, .bool v.f1, .bool v.f2.f0, .slice B6 v.f2.f1.length d6, .int .i64 0, .string (⟨#[]⟩ : ByteArray), .slice none 0 0, .slice none 0 0, .slice none 0 0]) (blk_put (cs := #[.int .i64 lg, .slice BO os.length dO, .int .i64 v.f0, .bool v.f1, .bool false, .slice none 0 0, .int .i64 0, .string (⟨#[]⟩ : ByteArray), .slice none 0 0, .slice none 0 0, .slice none 0 0]) (cs' := #[.int .i64 lg, .slice BO os.length dO, .int .i64 v.f0, .bool v.f1, .bool v.f2.f0, .slice none 0 0, .int .i64 0, .string (⟨#[]⟩ : ByteArray), .slice none 0 0, .slice none 0 0, .slice none 0 0]) (blk_put (cs := #[.int .i64 lg, .slice BO os.length dO, .int .i64 v.f0, .bool false, .bool false, .slice none 0 0, .int .i64 0, .string (⟨#[]⟩ : ByteArray), .slice none 0 0, .slice none 0 0, .slice none 0 0]) (cs' := #[.int .i64 lg, .slice BO os.length dO, .int .i64 v.f0, .bool v.f1, .bool false, .slice none 0 0, .int .i64 0, .string (⟨#[]⟩ : ByteArray), .slice none 0 0, .slice none 0 0, .slice none 0 0]) (blk_put (cs := #[.int .i64 lg, .slice BO os.length dO, .int .i64 0, .bool false, .bool false, .slice none 0 0, .int .i64 0, .string (⟨#[]⟩ : ByteArray), .slice none 0 0, .slice none 0 0, .slice none 0 0]) (cs' := #[.int .i64 lg, .slice BO os.length dO, .int .i64 v.f0, .bool false, .bool false, .slice none 0 0, .int .i64 0, .string (⟨#[]⟩ : ByteArray), .slice none 0 0, .slice none 0 0, .slice none 0 0]) (blk_put (cs := #[.int .i64 lg, .slice none 0 0, .int .i64 0, .bool false, .bool false, .slice none 0 0, .int .i64 0, .string (⟨#[]⟩ : ByteArray), .slice none 0 0, .slice none 0 0, .slice none 0 0]) (cs' := #[.int .i64 lg, .slice BO os.length dO, .int .i64 0, .bool false, .bool false, .slice none 0 0, .int .i64 0, .string (⟨#[]⟩ : ByteArray), .slice none 0 0, .slice none 0 0, .slice none 0 0]) (blk_put (cs := #[.int .i64 0, .slice none 0 0, .int .i64 0, .bool false, .bool false, .slice none 0 0, .int .i64 0, .string (⟨#[]⟩ : ByteArray), .slice none 0 0, .slice none 0 0, .slice none 0 0]) (cs' := #[.int .i64 lg, .slice none 0 0, .int .i64 0, .bool false, .bool false, .slice none 0 0, .int .i64 0, .string (⟨#[]⟩ : ByteArray), .slice none 0 0, .slice none 0 0, .slice none 0 0]) HRu.out 0 _ rfl) 1 _ rfl) 2 _ rfl) 3 _ rfl) 4 _ rfl) 5 _ rfl) 6 _ rfl) 7 _ rfl) 8 _ rfl) 9 _ rfl) 10 _ rfl))
      have HBn := Aside0.mk (show Below w.heap.size w (World.setCell (World.setCell (World.setCell (World.setCell (World.setCell (World.setCell (World.setCell (World.setCell (World.setCell (World.setCell (World.setCell wc ⟨w1.heap.size, 0, none⟩ (.int .i64 lg)) ⟨w1.heap.size, 1, none⟩ (.slice BO os.length dO)) ⟨w1.heap.size, 2, none⟩ (.int .i64 v.f0)) ⟨w1.heap.size, 3, none⟩ (.bool v.f1)) ⟨w1.heap.size, 4, none⟩ (.bool v.f2.f0)) ⟨w1.heap.size, 5, none⟩ (.slice B6 v.f2.f1.length d6)) ⟨w1.heap.size, 6, none⟩ (.int .i64 v.f2.f2)) ⟨w1.heap.size, 7, none⟩ (.string v.f3)) ⟨w1.heap.size, 8, none⟩ (.slice B9 v.f4.length d9)) ⟨w1.heap.size, 9, none⟩ (.slice B10 v.f5.length d10)) ⟨w1.heap.size, 10, none⟩ (.slice BM ms.length dM)) from (below_set (below_set (below_set (below_set (below_set (below_set (below_set (below_set (below_set (below_set (below_set (below_step HB4.out HBu.out) hrc) hrc) hrc) hrc) hrc) hrc) hrc) hrc) hrc) hrc) hrc))
      have hfar : ∀ k_, k_ ≠ w1.heap.size → ((World.setCell (World.setCell (World.setCell (World.setCell (World.setCell (World.setCell (World.setCell (World.setCell (World.setCell (World.setCell (World.setCell wc ⟨w1.heap.size, 0, none⟩ (.int .i64 lg)) ⟨w1.heap.size, 1, none⟩ (.slice BO os.length dO)) ⟨w1.heap.size, 2, none⟩ (.int .i64 v.f0)) ⟨w1.heap.size, 3, none⟩ (.bool v.f1)) ⟨w1.heap.size, 4, none⟩ (.bool v.f2.f0)) ⟨w1.heap.size, 5, none⟩ (.slice B6 v.f2.f1.length d6)) ⟨w1.heap.size, 6, none⟩ (.int .i64 v.f2.f2)) ⟨w1.heap.size, 7, none⟩ (.string v.f3)) ⟨w1.heap.size, 8, none⟩ (.slice B9 v.f4.length d9)) ⟨w1.heap.size, 9, none⟩ (.slice B10 v.f5.length d10)) ⟨w1.heap.size, 10, none⟩ (.slice BM ms.length dM))).heap[k_]? = wc.heap[k_]? := fun k_ hk => (Below.heap_setCell _ ⟨w1.heap.size, 10, none⟩ _ k_ hk).trans ((Below.heap_setCell _ ⟨w1.heap.size, 9, none⟩ _ k_ hk).trans ((Below.heap_setCell _ ⟨w1.heap.size, 8, none⟩ _ k_ hk).trans ((Below.heap_setCell _ ⟨w1.heap.size, 7, none⟩ _ k_ hk).trans ((Below.heap_setCell _ ⟨w1.heap.size, 6, none⟩ _ k_ hk).trans ((Below.heap_setCell _ ⟨w1.heap.size, 5, none⟩ _ k_ hk).trans ((Below.heap_setCell _ ⟨w1.heap.size, 4, none⟩ _ k_ hk).trans ((Below.heap_setCell _ ⟨w1.heap.size, 3, none⟩ _ k_ hk).trans ((Below.heap_setCell _ ⟨w1.heap.size, 2, none⟩ _ k_ hk).trans ((Below.heap_setCell _ ⟨w1.heap.size, 1, none⟩ _ k_ hk).trans ((Below.heap_setCell _ ⟨w1.heap.size, 0, none⟩ _ k_ hk).trans (rfl)))))))))))
      have HQ := Aside0.mk (show PatF (World.setCell (World.setCell (World.setCell (World.setCell (World.setCell (World.setCell (World.setCell (World.setCell (World.setCell (World.setCell (World.setCell wc ⟨w1.heap.size, 0, none⟩ (.int .i64 lg)) ⟨w1.heap.size, 1, none⟩ (.slice BO os.length dO)) ⟨w1.heap.size, 2, none⟩ (.int .i64 v.f0)) ⟨w1.heap.size, 3, none⟩ (.bool v.f1)) ⟨w1.heap.size, 4, none⟩ (.bool v.f2.f0)) ⟨w1.heap.size, 5, none⟩ (.slice B6 v.f2.f1.length d6)) ⟨w1.heap.size, 6, none⟩ (.int .i64 v.f2.f2)) ⟨w1.heap.size, 7, none⟩ (.string v.f3)) ⟨w1.heap.size, 8, none⟩ (.slice B9 v.f4.length d9)) ⟨w1.heap.size, 9, none⟩ (.slice B10 v.f5.length d10)) ⟨w1.heap.size, 10, none⟩ (.slice BM ms.length dM)) (fun k_ => PP k_ ∨ w.heap.size ≤ k_) os v ms BO dO B6 d6 B9 d9 B10 d10 BM dM from HP.out.step (fun k_ hk _ => hfar k_ (by rcases hk with hk | hk <;> omega)) (fun k_ hk => hk.elim (fun h_ => .inl h_.1) (fun h_ => .inr h_.1)))
      clear hfar HP HGu HRu HBu
      generalize (World.setCell (World.setCell (World.setCell (World.setCell (World.setCell (World.setCell (World.setCell (World.setCell (World.setCell (World.setCell (World.setCell wc ⟨w1.heap.size, 0, none⟩ (.int .i64 lg)) ⟨w1.heap.size, 1, none⟩ (.slice BO os.length dO)) ⟨w1.heap.size, 2, none⟩ (.int .i64 v.f0)) ⟨w1.heap.size, 3, none⟩ (.bool v.f1)) ⟨w1.heap.size, 4, none⟩ (.bool v.f2.f0)) ⟨w1.heap.size, 5, none⟩ (.slice B6 v.f2.f1.length d6)) ⟨w1.heap.size, 6, none⟩ (.int .i64 v.f2.f2)) ⟨w1.heap.size, 7, none⟩ (.string v.f3)) ⟨w1.heap.size, 8, none⟩ (.slice B9 v.f4.length d9)) ⟨w1.heap.size, 9, none⟩ (.slice B10 v.f5.length d10)) ⟨w1.heap.size, 10, none⟩ (.slice BM ms.length dM)) = wz at HRn HBn HQ ⊢
      try go_wp2_with fail
      refine bodyPost_ret (results_cell_row rfl _ _ w1.heap.size 33 #[.int .i64 lg, .slice BO os.length dO, .int .i64 v.f0, .bool v.f1, .bool v.f2.f0, .slice B6 v.f2.f1.length d6, .int .i64 v.f2.f2, .string v.f3, .slice B9 v.f4.length d9, .slice B10 v.f5.length d10, .slice BM ms.length dM] (0, 0) _ rfl HRn.out Tryd.underlying33 rfl (by kernel_rfl)) rfl ?_
      exact ThrPost.ok ⟨_, _, _, _, _, _, _, _, _, _, rfl, HQ.out, HBn.out⟩
end Go.Proofs.YtondpnipoogoiaaDoor.X
/- wire.Read: what is thrown becomes an error. -/
namespace Go.Proofs.YtondpnipoogoiaaDoor.X
open Go.RowKit Go.Proofs.YtondpnipoogoiaaDoorW.PrintWords Go.Proofs.YtondpnipoogoiaaDoorW.PrintLast Go.Proofs.YtondpnipoogoiaaDoorW.PrintMore
set_option linter.unusedVariables false
set_option linter.unusedSimpArgs false
def caughtR (p q : Nat) (c : Int) (w : World) : World := ((World.setCell (World.setCell (World.setCell (World.setCell (World.setCell (World.setCell (World.setCell (World.setCell (World.setCell (World.setCell (World.setCell w ⟨p, 0, none⟩ (.int .i64 0)) ⟨p, 1, none⟩ (.slice none 0 0)) ⟨p, 2, none⟩ (.int .i64 0)) ⟨p, 3, none⟩ (.bool false)) ⟨p, 4, none⟩ (.bool false)) ⟨p, 5, none⟩ (.slice none 0 0)) ⟨p, 6, none⟩ (.int .i64 0)) ⟨p, 7, none⟩ (.string (⟨#[]⟩ : ByteArray))) ⟨p, 8, none⟩ (.slice none 0 0)) ⟨p, 9, none⟩ (.slice none 0 0)) ⟨p, 10, none⟩ (.slice none 0 0))).setCell ⟨q, 0, none⟩ (.int .i64 c)
theorem assert_errno (c : Int) (xT : TypeId) (w : World) : (Instr.typeAssert (.iface 34 (.int .i64 c)) xT 34 true).run Tryd.prog w = .ok (.tuple #[.int .i64 c, .bool true]) w := by
  simp [Instr.typeAssert, run_underlying Tryd.underlying34, go_sem, Result.andThen]
set_option maxRecDepth 100000 in
set_option maxHeartbeats 4000000 in
theorem catchR_panicking (p q : Nat) (hne : p ≠ q) (c : Int) (older : List PanicEntry) (w : World)
    (hp : w.heap[p]? = some (.cells #[.int .i64 0, .slice none 0 0, .int .i64 0, .bool false, .bool false, .slice none 0 0, .int .i64 0, .string (⟨#[]⟩ : ByteArray), .slice none 0 0, .slice none 0 0, .slice none 0 0] 33 (0, 0))) (hq : w.heap[q]? = some (.cells #[.int .i64 0] 34 (0, 0))) :
    CallsD Tryd.prog 8 #[.pointer (some ⟨p, 0, none⟩), .pointer (some ⟨q, 0, none⟩)] (.panicking ({ v := .iface 34 (.int .i64 c), recovered := false } :: older)) w fun e u' w' =>
      e = .returned (.tuple #[]) ∧ u' = .panicking ({ v := .iface 34 (.int .i64 c), recovered := true } :: older) ∧ w' = caughtR p q c w := by
  have hu25 := Tryd.underlying33
  have hc0 := (blk_cell hp 0).trans rfl
  have hf0 := blk_frozen hp 0
  have hc1 := (blk_cell hp 1).trans rfl
  have hf1 := blk_frozen hp 1
  have hc2 := (blk_cell hp 2).trans rfl
  have hf2 := blk_frozen hp 2
  have hc3 := (blk_cell hp 3).trans rfl
  have hf3 := blk_frozen hp 3
  have hc4 := (blk_cell hp 4).trans rfl
  have hf4 := blk_frozen hp 4
  have hc5 := (blk_cell hp 5).trans rfl
  have hf5 := blk_frozen hp 5
  have hc6 := (blk_cell hp 6).trans rfl
  have hf6 := blk_frozen hp 6
  have hc7 := (blk_cell hp 7).trans rfl
  have hf7 := blk_frozen hp 7
  have hc8 := (blk_cell hp 8).trans rfl
  have hf8 := blk_frozen hp 8
  have hc9 := (blk_cell hp 9).trans rfl
  have hf9 := blk_frozen hp 9
  have hc10 := (blk_cell hp 10).trans rfl
  have hf10 := blk_frozen hp 10
  have hd0 : w.cell? ⟨q, 0, none⟩ = some (.int .i64 0) := (blk_cell hq 0).trans rfl
  have he0 := blk_frozen hq 0
  have hne2 := hne.symm
  clear hp hq
  refine callsD_of_wpS Tryd.func8 rfl fun c₀ cs hu => ?_
  apply wpS_seq
  apply wpS_region
  simp [wpOpsS, go_sem, recoverD, hu, Tryd.ntmps8, Exit.thenS]
  refine wpS_of_wp ?_
  have ht : (#[Value.pointer (some ⟨p, 0, none⟩), Value.pointer (some ⟨q, 0, none⟩)] ++ ((Array.replicate 16 undef).setIfInBounds 3 (Value.iface 34 (Value.int IntKind.i64 c))).setIfInBounds 0 (Value.iface 34 (Value.int IntKind.i64 c)) : Array Value) = #[Value.pointer (some ⟨p, 0, none⟩), Value.pointer (some ⟨q, 0, none⟩), Value.iface 34 (Value.int IntKind.i64 c), undef, undef, Value.iface 34 (Value.int IntKind.i64 c), undef, undef, undef, undef, undef, undef, undef, undef, undef, undef, undef, undef] := rfl
  rw [ht]
  clear ht
  have hta := fun xT w => assert_errno c xT w
  have HU := Aside0.mk hu
  clear hu
  go_wp2_with fail
  simp [bodyPostS, results, Tryd.results8, caughtR]
theorem catchR_idle (p q : Nat) (w : World) :
    CallsD Tryd.prog 8 #[.pointer (some ⟨p, 0, none⟩), .pointer (some ⟨q, 0, none⟩)] .returning w fun e u' w' => e = .returned (.tuple #[]) ∧ u' = .returning ∧ w' = w := by
  refine callsD_of_wpS Tryd.func8 rfl fun c₀ cs hu => ?_
  apply wpS_seq
  apply wpS_region
  simp [wpOpsS, go_sem, recoverD, hu, Tryd.ntmps8, Exit.thenS]
  refine wpS_of_wp ?_
  have ht : (#[Value.pointer (some ⟨p, 0, none⟩), Value.pointer (some ⟨q, 0, none⟩)] ++ ((Array.replicate 16 undef).setIfInBounds 3 Value.nilIface).setIfInBounds 0 Value.nilIface : Array Value) = #[Value.pointer (some ⟨p, 0, none⟩), Value.pointer (some ⟨q, 0, none⟩), Value.nilIface, undef, undef, Value.nilIface, undef, undef, undef, undef, undef, undef, undef, undef, undef, undef, undef, undef] := rfl
  rw [ht]
  clear ht
  have HU := Aside0.mk hu
  clear hu
  go_wp2_with fail
  cases c₀
  have hu := HU.out
  simp_all [bodyPostS, results, Tryd.results8]
theorem results_read (tmps : Array Value) (g2 g3 : Nat) (v0 v1 v2 v3 v4 v5 v6 v7 v8 v9 v10 : Value) (c : Int) (W : World) (hp : tmps.getD 4 undef = .pointer (some ⟨g2, 0, none⟩)) (hq : tmps.getD 5 undef = .pointer (some ⟨g3, 0, none⟩))
    (h2 : W.heap[g2]? = some (.cells #[v0, v1, v2, v3, v4, v5, v6, v7, v8, v9, v10] 33 (0, 0))) (h3 : W.heap[g3]? = some (.cells #[.int .i64 c] 34 (0, 0))) :
    (results Tryd.f5 tmps).run Tryd.prog W = .ok (.tuple #[.agg #[v0, v1, v2, v3, v4, v5, v6, v7, v8, v9, v10], .int .i64 c]) W := by
  have hp' : tmps[4]?.getD undef = .pointer (some ⟨g2, 0, none⟩) := by simpa using hp
  have hq' : tmps[5]?.getD undef = .pointer (some ⟨g3, 0, none⟩) := by simpa using hq
  have hc : W.cell? ⟨g3, 0, none⟩ = some (.int .i64 c) := (blk_cell h3 0).trans rfl
  have hc0 : W.cell? ⟨g2, 0, none⟩ = some v0 := (blk_cell h2 0).trans rfl
  have hc1 : W.cell? ⟨g2, 1, none⟩ = some v1 := (blk_cell h2 1).trans rfl
  have hc2 : W.cell? ⟨g2, 2, none⟩ = some v2 := (blk_cell h2 2).trans rfl
  have hc3 : W.cell? ⟨g2, 3, none⟩ = some v3 := (blk_cell h2 3).trans rfl
  have hc4 : W.cell? ⟨g2, 4, none⟩ = some v4 := (blk_cell h2 4).trans rfl
  have hc5 : W.cell? ⟨g2, 5, none⟩ = some v5 := (blk_cell h2 5).trans rfl
  have hc6 : W.cell? ⟨g2, 6, none⟩ = some v6 := (blk_cell h2 6).trans rfl
  have hc7 : W.cell? ⟨g2, 7, none⟩ = some v7 := (blk_cell h2 7).trans rfl
  have hc8 : W.cell? ⟨g2, 8, none⟩ = some v8 := (blk_cell h2 8).trans rfl
  have hc9 : W.cell? ⟨g2, 9, none⟩ = some v9 := (blk_cell h2 9).trans rfl
  have hc10 : W.cell? ⟨g2, 10, none⟩ = some v10 := (blk_cell h2 10).trans rfl
  have hu33 := Tryd.underlying33
  have hr : Tryd.f5.results = #[.cell 4 33, .cell 5 34] := rfl
  simp [results, hr, hp', hq', asAddr, go_sem, hc, hc0, hc1, hc2, hc3, hc4, hc5, hc6, hc7, hc8, hc9, hc10, Result.andThen]
def Read.f (k : Nat) (lg : Int) (a0 : Int) (a1 a2 : Bool) (l3 : List Int) (a4 : Int) (a5 : ByteArray) (l6 : List ByteArray) (l7 : List S29) : Option (Int × List S39 × S29 × List (List ByteArray) × Int) :=
  (readr.f k lg a0 a1 a2 l3 a4 a5 l6 l7).bind fun r => if r.1 = true then some (0, [], z29, [], r.2.1) else some (lg, r.2.2.1, r.2.2.2.1, r.2.2.2.2, 0)
set_option maxRecDepth 100000 in
set_option maxHeartbeats 8000000 in
theorem Read.calls (k : Nat) (lg : Int) (a0 : Int) (a1 a2 : Bool) (A3 : Option Addr) (c3 : Nat) (l3 : List Int) (a4 : Int) (a5 : ByteArray) (A6 : Option Addr) (c6 : Nat) (l6 : List ByteArray) (A7 : Option Addr) (c7 : Nat) (l7 : List S29) (PP : Nat → Prop) (r0 : Int) (os : List S39) (v : S29) (ms : List (List ByteArray)) (c : Int) (w : World) (hL : Laid w)
    (hf3 : Kd.F (Kd.int .u32) w PP A3 l3.length l3) (hc3 : l3.length ≤ c3) (hf6 : Kd.F Kd.string w PP A6 l6.length l6) (hc6 : l6.length ≤ c6) (hf7 : Kd.F k29 w PP A7 l7.length l7) (hc7 : l7.length ≤ c7) (h : Read.f k lg a0 a1 a2 l3 a4 a5 l6 l7 = some (r0, os, v, ms, c)) :
    Calls Tryd.prog 5 #[.int .i64 lg, .agg #[.int .i64 a0, .bool a1, .bool a2, .slice A3 l3.length c3, .int .i64 a4, .string a5, .slice A6 l6.length c6, .slice A7 l7.length c7]] w fun e w' => ∃ BO dO B6 d6 B9 d9 B10 d10 BM dM, e = .returned (.tuple #[.agg #[.int .i64 r0, .slice BO os.length dO, .int .i64 v.f0, .bool v.f1, .bool v.f2.f0, .slice B6 v.f2.f1.length d6, .int .i64 v.f2.f2, .string v.f3, .slice B9 v.f4.length d9, .slice B10 v.f5.length d10, .slice BM ms.length dM], .int .i64 c]) ∧ PatF w' (fun k_ => PP k_ ∨ w.heap.size ≤ k_) os v ms BO dO B6 d6 B9 d9 B10 d10 BM dM ∧ Below w.heap.size w w' := by
  have hmf : ∀ (fn : Fn) (first cap : Array Value) (w : World), (Instr.makeFunc fn first cap).run Tryd.prog w = .ok (.func fn first cap) w := fun _ _ _ _ => rfl
  have hu := Tryd.underlying29
  have hu2 := Tryd.underlying33
  have HL := Aside0.mk hL
  have HR := Aside0.mk (And.intro hf3 (And.intro hf6 hf7))
  have HM := Aside0.mk (And.intro hc3 (And.intro hc6 hc7))
  obtain ⟨⟨e1, e2, e3, e4, e5⟩, he, h2⟩ := Option.bind_eq_some_iff.1 h
  have HE := Aside0.mk he
  have H2 := Aside0.mk h2
  clear hL hf3 hf6 hf7 hc3 hc6 hc7 h he h2
  have HX1 := Aside0.mk (blk_new w (.cells #[.int .i64 a0, .bool a1, .bool a2, .slice A3 l3.length c3, .int .i64 a4, .string a5, .slice A6 l6.length c6, .slice A7 l7.length c7] 29))
  have HB1 := Aside0.mk (below_alloc (Below.refl w.heap.size w) (.cells #[.int .i64 a0, .bool a1, .bool a2, .slice A3 l3.length c3, .int .i64 a4, .string a5, .slice A6 l6.length c6, .slice A7 l7.length c7] 29))
  obtain ⟨w1, hw1⟩ : ∃ w1, w.alloc (.cells #[.int .i64 a0, .bool a1, .bool a2, .slice A3 l3.length c3, .int .i64 a4, .string a5, .slice A6 l6.length c6, .slice A7 l7.length c7] 29) = w1 := ⟨_, rfl⟩
  rw [hw1] at HX1 HB1
  have HX2 := Aside0.mk (blk_alloc HX1.out (.cells #[.int .i64 0, .slice none 0 0, .int .i64 0, .bool false, .bool false, .slice none 0 0, .int .i64 0, .string (⟨#[]⟩ : ByteArray), .slice none 0 0, .slice none 0 0, .slice none 0 0] 33))
  have HP2 := Aside0.mk (blk_new w1 (.cells #[.int .i64 0, .slice none 0 0, .int .i64 0, .bool false, .bool false, .slice none 0 0, .int .i64 0, .string (⟨#[]⟩ : ByteArray), .slice none 0 0, .slice none 0 0, .slice none 0 0] 33))
  have HB2 := Aside0.mk (below_alloc HB1.out (.cells #[.int .i64 0, .slice none 0 0, .int .i64 0, .bool false, .bool false, .slice none 0 0, .int .i64 0, .string (⟨#[]⟩ : ByteArray), .slice none 0 0, .slice none 0 0, .slice none 0 0] 33))
  obtain ⟨w2, hw2⟩ : ∃ w2, w1.alloc (.cells #[.int .i64 0, .slice none 0 0, .int .i64 0, .bool false, .bool false, .slice none 0 0, .int .i64 0, .string (⟨#[]⟩ : ByteArray), .slice none 0 0, .slice none 0 0, .slice none 0 0] 33) = w2 := ⟨_, rfl⟩
  rw [hw2] at HX2 HP2 HB2
  have HX3 := Aside0.mk (blk_alloc HX2.out (.cells #[.int .i64 0] 34))
  have HP3 := Aside0.mk (blk_alloc HP2.out (.cells #[.int .i64 0] 34))
  have HQ3 := Aside0.mk (blk_new w2 (.cells #[.int .i64 0] 34))
  have HB3 := Aside0.mk (below_alloc HB2.out (.cells #[.int .i64 0] 34))
  obtain ⟨w3, hw3⟩ : ∃ w3, w2.alloc (.cells #[.int .i64 0] 34) = w3 := ⟨_, rfl⟩
  rw [hw3] at HX3 HP3 HQ3 HB3
  have hp0 : w.heap.size ≤ w1.heap.size := HB1.out.size
  have hq0 : w.heap.size ≤ w2.heap.size := HB2.out.size
  have hpq : w1.heap.size < w2.heap.size := blk_lt HP2.out
  have hp3 : w1.heap.size < w3.heap.size := blk_lt HP3.out
  have hq3 : w2.heap.size < w3.heap.size := blk_lt HQ3.out
  have x0 := (blk_cell HX3.out 0).trans rfl
  have x1 := (blk_cell HX3.out 1).trans rfl
  have x2 := (blk_cell HX3.out 2).trans rfl
  have x3 := (blk_cell HX3.out 3).trans rfl
  have x4 := (blk_cell HX3.out 4).trans rfl
  have x5 := (blk_cell HX3.out 5).trans rfl
  have x6 := (blk_cell HX3.out 6).trans rfl
  have x7 := (blk_cell HX3.out 7).trans rfl
  go_enter_defers Tryd.func5, Tryd.ntmps5
  go_wp2_with fail
  refine (readr.calls k lg a0 a1 a2 A3 c3 l3 a4 a5 A6 c6 l6 A7 c7 l7 (fun k_ => PP k_ ∧ k_ < w.heap.size) e1 e2 e3 e4 e5 _ (HL.out.below HB3.out) (Kd.F_below (Kd.F_bound HR.out.1) HB3.out) HM.out.1 (Kd.F_below (Kd.F_bound HR.out.2.1) HB3.out) HM.out.2.1 (Kd.F_below (Kd.F_bound HR.out.2.2) HB3.out) HM.out.2.2 HE.out).mono ?_
  rintro e w4 hth
  clear HE x0 x1 x2 x3 x4 x5 x6 x7 HX1 HX2 HX3 HP2 HB1 HB2 hw1 hw2 hw3
  have hpn : w1.heap.size ≠ w2.heap.size := by omega
  have hpn2 : w2.heap.size ≠ w1.heap.size := by omega
  cases e1 with
  | true =>
    obtain ⟨rfl, hb⟩ := ThrPost.bad hth
    have HB4 := Aside0.mk (below_step HB3.out hb)
    have HP4 := Aside0.mk (blk_below HP3.out hb)
    have HQ4 := Aside0.mk (blk_below HQ3.out hb)
    have h5 := H2.out
    rw [if_pos rfl] at h5
    injection h5 with h5
    injection h5 with q1 h5
    injection h5 with q2 h5
    injection h5 with q3 h5
    injection h5 with q4 q5
    try dsimp only at q5
    subst q1 q2 q3 q4 q5
    clear hth hb H2 HP3 HQ3 HB3
    go_wp2_with fail
    refine leaves_cons (f := 8) (args := #[.pointer (some ⟨w1.heap.size, 0, none⟩), .pointer (some ⟨w2.heap.size, 0, none⟩)]) (by simp) (by simp [go_sem]) ?_
    refine (catchR_panicking w1.heap.size w2.heap.size hpn e2 [] _ HP4.out HQ4.out).mono ?_
    rintro e u' w5 ⟨rfl, rfl, rfl⟩
    have D2 : (caughtR w1.heap.size w2.heap.size e2 w4).heap[w1.heap.size]? = some (.cells #[.int .i64 0, .slice none 0 0, .int .i64 0, .bool false, .bool false, .slice none 0 0, .int .i64 0, .string (⟨#[]⟩ : ByteArray), .slice none 0 0, .slice none 0 0, .slice none 0 0] 33 (0, 0)) := by
      unfold caughtR
      rw [Below.heap_setCell _ _ _ _ hpn]
      exact (blk_put (cs := #[.int .i64 0, .slice none 0 0, .int .i64 0, .bool false, .bool false, .slice none 0 0, .int .i64 0, .string (⟨#[]⟩ : ByteArray), .slice none 0 0, .slice none 0 0, .slice none 0 0]) (cs' := #[.int .i64 0, .slice none 0 0, .int .i64 0, .bool false, .bool false, .slice none 0 0, .int .i64 0, .string (⟨#[]⟩ : ByteArray), .slice none 0 0, .slice none 0 0, .slice none 0 0]) (blk_put (cs := #[.int .i64 0, .slice none 0 0, .int .i64 0, .bool false, .bool false, .slice none 0 0, .int .i64 0, .string (⟨#[]⟩ : ByteArray), .slice none 0 0, .slice none 0 0, .slice none 0 0]) (cs' := #[.int .i64 0, .slice none 0 0, .int .i64 0, .bool false, .bool false, .slice none 0 0, .int .i64 0, .string (⟨#[]⟩ : ByteArray), .slice none 0 0, .slice none 0 0, .slice none 0 0]) (blk_put (cs := #[.int .i64 0, .slice none 0 0, .int .i64 0, .bool false, .bool false, .slice none 0 0, .int .i64 0, .string (⟨#[]⟩ : ByteArray), .slice none 0 0, .slice none 0 0, .slice none 0 0]) (cs' := #[.int .i64 0, .slice none 0 0, .int .i64 0, .bool false, .bool false, .slice none 0 0, .int .i64 0, .string (⟨#[]⟩ : ByteArray), .slice none 0 0, .slice none 0 0, .slice none 0 0]) (blk_put (cs := #[.int .i64 0, .slice none 0 0, .int .i64 0, .bool false, .bool false, .slice none 0 0, .int .i64 0, .string (⟨#[]⟩ : ByteArray), .slice none 0 0, .slice none 0 0, .slice none 0 0]) (cs' := #[.int .i64 0, .slice none 0 0, .int .i64 0, .bool false, .bool false, .slice none 0 0, .int .i64 0, .string (⟨#[]⟩ : ByteArray), .slice none 0 0, .slice none 0 0, .slice none 0 0]) (blk_put (cs := #[.int .i64 0, .slice none 0 0, .int .i64 0, .bool false, .bool false, .slice none 0 0, .int .i64 0, .string (⟨#[]⟩ : ByteArray), .slice none 0 0, .slice none 0 0, .slice none 0 0]) (cs' := #[.int .i64 0, .slice none 0 0, .int .i64 0, .bool false, .bool false, .slice none 0 0, .int .i64 0, .string (⟨#[]⟩ : ByteArray), .slice none 0 0, .slice none 0 0, .slice none 0 0]) (blk_put (cs := #[.int .i64 0, .slice none 0 0, .int .i64 0, .bool false, .bool false, .slice none 0 0, .int .i64 0, .string (⟨#[]⟩ : ByteArray), .slice none 0 0, .slice none 0 0, .slice none 0 0]) (cs' := #[.int .i64 0, .slice none 0 0, .int .i64 0, .bool false, .bool false, .slice none 0 0, .int .i64 0, .string (⟨#[]⟩ : ByteArray), .slice none 0 0, .slice none 0 0, .slice none 0 0]) (blk_put (cs := #[.int .i64 0, .slice none 0 0, .int .i64 0, .bool false, .bool false, .slice none 0 0, .int .i64 0, .string (⟨#[]⟩ : ByteArray), .slice none 0 0, .slice none 0 0, .slice none 0 0]) (cs' := #[.int .i64 0, .slice none 0 0, .int .i64 0, .bool false, .bool false, .slice none 0 0, .int .i64 0, .string (⟨#[]⟩ : ByteArray), .slice none 0 0, .slice none 0 0, .slice none 0 0]) (blk_put (cs := #[.int .i64 0, .slice none 0 0, .int .i64 0, .bool false, .bool false, .slice none 0 0, .int .i64 0, .string (⟨#[]⟩ : ByteArray), .slice none 0 0, .slice none 0 0, .slice none 0 0]) (cs' := #[.int .i64 0, .slice none 0 0, .int .i64 0, .bool false, .bool false, .slice none 0 0, .int .i64 0, .string (⟨#[]⟩ : ByteArray), .slice none 0 0, .slice none 0 0, .slice none 0 0]) (blk_put (cs := #[.int .i64 0, .slice none 0 0, .int .i64 0, .bool false, .bool false, .slice none 0 0, .int .i64 0, .string (⟨#[]⟩ : ByteArray), .slice none 0 0, .slice none 0 0, .slice none 0 0]) (cs' := #[.int .i64 0, .slice none 0 0, .int .i64 0, .bool false, .bool false, .slice none 0 0, .int .i64 0, .string (⟨#[]⟩ : ByteArray), .slice none 0 0, .slice none 0 0, .slice none 0 0]) (blk_put (cs := #[.int .i64 0, .slice none 0 0, .int .i64 0, .bool false, .bool false, .slice none 0 0, .int .i64 0, .string (⟨#[]⟩ : ByteArray), .slice none 0 0, .slice none 0 0, .slice none 0 0]) (cs' := #[.int .i64 0, .slice none 0 0, .int .i64 0, .bool false, .bool false, .slice none 0 0, .int .i64 0, .string (⟨#[]⟩ : ByteArray), .slice none 0 0, .slice none 0 0, .slice none 0 0]) (blk_put (cs := #[.int .i64 0, .slice none 0 0, .int .i64 0, .bool false, .bool false, .slice none 0 0, .int .i64 0, .string (⟨#[]⟩ : ByteArray), .slice none 0 0, .slice none 0 0, .slice none 0 0]) (cs' := #[.int .i64 0, .slice none 0 0, .int .i64 0, .bool false, .bool false, .slice none 0 0, .int .i64 0, .string (⟨#[]⟩ : ByteArray), .slice none 0 0, .slice none 0 0, .slice none 0 0]) HP4.out 0 _ rfl) 1 _ rfl) 2 _ rfl) 3 _ rfl) 4 _ rfl) 5 _ rfl) 6 _ rfl) 7 _ rfl) 8 _ rfl) 9 _ rfl) 10 _ rfl)
    have D3 : (caughtR w1.heap.size w2.heap.size e2 w4).heap[w2.heap.size]? = some (.cells #[.int .i64 e2] 34 (0, 0)) := by
      unfold caughtR
      refine blk_put (cs := #[.int .i64 0]) ?_ 0 (.int .i64 e2) rfl
      exact ((Below.heap_setCell _ ⟨w1.heap.size, 10, none⟩ _ _ hpn2).trans ((Below.heap_setCell _ ⟨w1.heap.size, 9, none⟩ _ _ hpn2).trans ((Below.heap_setCell _ ⟨w1.heap.size, 8, none⟩ _ _ hpn2).trans ((Below.heap_setCell _ ⟨w1.heap.size, 7, none⟩ _ _ hpn2).trans ((Below.heap_setCell _ ⟨w1.heap.size, 6, none⟩ _ _ hpn2).trans ((Below.heap_setCell _ ⟨w1.heap.size, 5, none⟩ _ _ hpn2).trans ((Below.heap_setCell _ ⟨w1.heap.size, 4, none⟩ _ _ hpn2).trans ((Below.heap_setCell _ ⟨w1.heap.size, 3, none⟩ _ _ hpn2).trans ((Below.heap_setCell _ ⟨w1.heap.size, 2, none⟩ _ _ hpn2).trans ((Below.heap_setCell _ ⟨w1.heap.size, 1, none⟩ _ _ hpn2).trans ((Below.heap_setCell _ ⟨w1.heap.size, 0, none⟩ _ _ hpn2).trans (rfl)))))))))))).trans HQ4.out
    have D4 : Below w.heap.size w (caughtR w1.heap.size w2.heap.size e2 w4) := by
      unfold caughtR
      exact below_set (below_set (below_set (below_set (below_set (below_set (below_set (below_set (below_set (below_set (below_set (below_set HB4.out hp0) hp0) hp0) hp0) hp0) hp0) hp0) hp0) hp0) hp0) hp0) hq0
    simp only [Leaves, settle]
    exact ⟨_, results_read _ w1.heap.size w2.heap.size _ _ _ _ _ _ _ _ _ _ _ e2 _ rfl rfl D2 D3, none, 0, none, 0, none, 0, none, 0, none, 0, rfl, ⟨⟨Nat.le_refl _, Kd.F_nil _ _ _⟩, ⟨Nat.le_refl _, Kd.F_nil _ _ _⟩, ⟨Nat.le_refl _, Kd.F_nil _ _ _⟩, ⟨Nat.le_refl _, Kd.F_nil _ _ _⟩, ⟨Nat.le_refl _, Kd.F_nil _ _ _⟩⟩, D4⟩
  | false =>
    obtain ⟨BO, dO, B6, d6, B9, d9, B10, d10, BM, dM, rfl, hpf, hb⟩ := ThrPost.fine hth
    have HB4 := Aside0.mk (below_step HB3.out hb)
    have HP4 := Aside0.mk (blk_below HP3.out hb)
    have HQ4 := Aside0.mk (blk_below HQ3.out hb)
    have HPF := Aside0.mk hpf
    have h5 := H2.out
    rw [if_neg (by decide)] at h5
    injection h5 with h5
    injection h5 with q1 h5
    injection h5 with q2 h5
    injection h5 with q3 h5
    injection h5 with q4 q5
    try dsimp only at q2 q3 q4
    subst q1 q2 q3 q4 q5
    clear hth hb H2 HP3 HQ3 HB3 hpf
    have s0 := (blk_cell HP4.out 0).trans rfl
    have sf0 := blk_frozen HP4.out 0
    have s1 := (blk_cell HP4.out 1).trans rfl
    have sf1 := blk_frozen HP4.out 1
    have s2 := (blk_cell HP4.out 2).trans rfl
    have sf2 := blk_frozen HP4.out 2
    have s3 := (blk_cell HP4.out 3).trans rfl
    have sf3 := blk_frozen HP4.out 3
    have s4 := (blk_cell HP4.out 4).trans rfl
    have sf4 := blk_frozen HP4.out 4
    have s5 := (blk_cell HP4.out 5).trans rfl
    have sf5 := blk_frozen HP4.out 5
    have s6 := (blk_cell HP4.out 6).trans rfl
    have sf6 := blk_frozen HP4.out 6
    have s7 := (blk_cell HP4.out 7).trans rfl
    have sf7 := blk_frozen HP4.out 7
    have s8 := (blk_cell HP4.out 8).trans rfl
    have sf8 := blk_frozen HP4.out 8
    have s9 := (blk_cell HP4.out 9).trans rfl
    have sf9 := blk_frozen HP4.out 9
    have s10 := (blk_cell HP4.out 10).trans rfl
    have sf10 := blk_frozen HP4.out 10
    have t0 := (blk_cell HQ4.out 0).trans rfl
    have tf0 := blk_frozen HQ4.out 0
    go_wp2_with fail
    clear s0 s1 s2 s3 s4 s5 s6 s7 s8 s9 s10 sf0 sf1 sf2 sf3 sf4 sf5 sf6 sf7 sf8 sf9 sf10
    clear t0 tf0
    have D2 : (((World.setCell (World.setCell (World.setCell (World.setCell (World.setCell (World.setCell (World.setCell (World.setCell (World.setCell (World.setCell (World.setCell w4 ⟨w1.heap.size, 0, none⟩ (.int .i64 lg)) ⟨w1.heap.size, 1, none⟩ (.slice BO e3.length dO)) ⟨w1.heap.size, 2, none⟩ (.int .i64 e4.f0)) ⟨w1.heap.size, 3, none⟩ (.bool e4.f1)) ⟨w1.heap.size, 4, none⟩ (.bool e4.f2.f0)) ⟨w1.heap.size, 5, none⟩ (.slice B6 e4.f2.f1.length d6)) ⟨w1.heap.size, 6, none⟩ (.int .i64 e4.f2.f2)) ⟨w1.heap.size, 7, none⟩ (.string e4.f3)) ⟨w1.heap.size, 8, none⟩ (.slice B9 e4.f4.length d9)) ⟨w1.heap.size, 9, none⟩ (.slice B10 e4.f5.length d10)) ⟨w1.heap.size, 10, none⟩ (.slice BM e5.length dM))).setCell ⟨w2.heap.size, 0, none⟩ (.int .i64 0)).heap[w1.heap.size]? = some (.cells #[.int .i64 lg, .slice BO e3.length dO, .int .i64 e4.f0, .bool e4.f1, .bool e4.f2.f0, .slice B6 e4.f2.f1.length d6, .int .i64 e4.f2.f2, .string e4.f3, .slice B9 e4.f4.length d9, .slice B10 e4.f5.length d10, .slice BM e5.length dM] 33 (0, 0)) := (Below.heap_setCell _ ⟨w2.heap.size, 0, none⟩ _ _ hpn).trans (blk_put (cs := #[.int .i64 lg, .slice BO e3.length dO, .int .i64 e4.f0, .bool e4.f1, .bool e4.f2.f0, .slice B6 e4.f2.f1.length d6, .int .i64 e4.f2.f2, .string e4.f3, .slice B9 e4.f4.length d9, .slice B10 e4.f5.length d10, .slice none 0 0]) (cs' := #[.int .i64 lg, .slice BO e3.length dO, .int .i64 e4.f0, .bool e4.f1, .bool e4.f2.f0, .slice B6 e4.f2.f1.length d6, .int .i64 e4.f2.f2, .string e4.f3, .slice B9 e4.f4.length d9, .slice B10 e4.f5.length d10, .slice BM e5.length dM]) (blk_put (cs := #[.int .i64 lg, .slice BO e3.length dO, .int .i64 e4.f0, .bool e4.f1, .bool e4.f2.f0, .slice B6 e4.f2.f1.length d6, .int .i64 e4.f2.f2, .string e4.f3, .slice B9 e4.f4.length d9, .slice none 0 0, .slice none 0 0]) (cs' := #[.int .i64 lg, .slice BO e3.length dO, .int .i64 e4.f0, .bool e4.f1, .bool e4.f2.f0, .slice B6 e4.f2.f1.length d6, .int .i64 e4.f2.f2, .string e4.f3, .slice B9 e4.f4.length d9, .slice B10 e4.f5.length d10, .slice none 0 0]) (blk_put (cs := #[.int .i64 lg, .slice BO e3.length dO, .int .i64 e4.f0, .bool e4.f1, .bool e4.f2.f0, .slice B6 e4.f2.f1.length d6, .int .i64 e4.f2.f2, .string e4.f3, .slice none 0 0, .slice none 0 0, .slice none 0 0]) (cs' := #[.int .i64 lg, .slice BO e3.length dO, .int .i64 e4.f0, .bool e4.f1, .bool e4.f2.f0, .slice B6 e4.f2.f1.length d6, .int .i64 e4.f2.f2, .string e4.f3, .slice B9 e4.f4.length d9, .slice none 0 0, .slice none 0 0]) (blk_put (cs := #[.int .i64 lg, .slice BO e3.length dO, .int .i64 e4.f0, .bool e4.f1, .bool e4.f2.f0, .slice B6 e4.f2.f1.length d6, .int .i64 e4.f2.f2, .string (⟨#[]⟩ : ByteArray), .slice none 0 0, .slice none 0 0, .slice none 0 0]) (cs' := #[.int .i64 lg, .slice BO e3.length dO, .int .i64 e4.f0, .bool e4.f1, .bool e4.f2.f0, .slice B6 e4.f2.f1.length d6, .int .i64 e4.f2.f2, .string e4.f3, .slice none 0 0, .slice none 0 0, .slice none 0 0]) (blk_put (cs := #[.int .i64 lg, .slice BO e3.length dO, .int .i64 e4.f0, .bool e4.f1, .bool e4.f2.f0, .slice B6 e4.f2.f1.length d6, .int .i64 0, .string (⟨#[]⟩ : ByteArray), .slice none 0 0, .slice none 0 0, .slice none 0 0]) (cs' := #[.int .i64 lg, .slice BO e3.length dO, .int .i64 e4.f0, .bool e4.f1, .bool e4.f2.f0, .slice B6 e4.f2.f1.length d6, .int .i64 e4.f2.f2, .string (⟨#[]⟩ : ByteArray), .slice none 0 0, .slice none 0 0, .slice none 0 0]) (blk_put (cs := #[.int .i64 lg, .slice BO e3.length dO, .int .i64 e4.f0, .bool e4.f1, .bool e4.f2.f0, .slice none 0 0, .int .i64 0, .string (⟨#[]⟩ : ByteArray), .slice none 0 0, .slice none 0 0, .slice none 0 0]) (cs' := #[.int .i64 lg, .slice BO e3.length dO, .int .i64 e4.f0, .bool e4.f1, .bool e4.f2.f0, .slice B6 e4.f2.f1.length d6, .int .i64 0, .string (⟨#[]⟩ : ByteArray), .slice none 0 0, .slice none 0 0, .slice none 0 0]) (blk_put (cs := #[.int .i64 lg, .slice BO e3.length dO, .int .i64 e4.f0, .bool e4.f1, .bool false, .slice none 0 0, .int .i64 0, .string (⟨#[]⟩ : ByteArray), .slice none 0 0, .slice none 0 0, .slice none 0 0]) (cs' := #[.int .i64 lg, .slice BO e3.length dO, .int .i64 e4.f0, .bool e4.f1, .bool e4.f2.f0, .slice none 0 0, .int .i64 0, .string (⟨#[]⟩ : ByteArray), .slice none 0 0, .slice none 0 0, .slice none 0 0]) (blk_put (cs := #[.int .i64 lg, .slice BO e3.length dO, .int .i64 e4.f0, .bool false, .bool false, .slice none 0 0, .int .i64 0, .string (⟨#[]⟩ : ByteArray), .slice none 0 0, .slice none 0 0, .slice none 0 0]) (cs' := #[.int .i64 lg, .slice BO e3.length dO, .int .i64 e4.f0, .bool e4.f1, .bool false, .slice none 0 0, .int .i64 0, .string (⟨#[]⟩ : ByteArray), .slice none 0 0, .slice none 0 0, .slice none 0 0]) (blk_put (cs := #[.int .i64 lg, .slice BO e3.length dO, .int .i64 0, .bool false, .bool false, .slice none 0 0, .int .i64 0, .string (⟨#[]⟩ : ByteArray), .slice none 0 0, .slice none 0 0, .slice none 0 0]) (cs' := #[.int .i64 lg, .slice BO e3.length dO, .int .i64 e4.f0, .bool false, .bool false, .slice none 0 0, .int .i64 0, .string (⟨#[]⟩ : ByteArray), .slice none 0 0, .slice none 0 0, .slice none 0 0]) (blk_put (cs := #[.int .i64 lg, .slice none 0 0, .int .i64 0, .bool false, .bool false, .slice none 0 0, .int .i64 0, .string (⟨#[]⟩ : ByteArray), .slice none 0 0, .slice none 0 0, .slice none 0 0]) (cs' := #[.int .i64 lg, .slice BO e3.length dO, .int .i64 0, .bool false, .bool false, .slice none 0 0, .int .i64 0, .string (⟨#[]⟩ : ByteArray), .slice none 0 0, .slice none 0 0, .slice none 0 0]) (blk_put (cs := #[.int .i64 0, .slice none 0 0, .int .i64 0, .bool false, .bool false, .slice none 0 0, .int .i64 0, .string (⟨#[]⟩ : ByteArray), .slice none 0 0, .slice none 0 0, .slice none 0 0]) (cs' := #[.int .i64 lg, .slice none 0 0, .int .i64 0, .bool false, .bool false, .slice none 0 0, .int .i64 0, .string (⟨#[]⟩ : ByteArray), .slice none 0 0, .slice none 0 0, .slice none 0 0]) HP4.out 0 _ rfl) 1 _ rfl) 2 _ rfl) 3 _ rfl) 4 _ rfl) 5 _ rfl) 6 _ rfl) 7 _ rfl) 8 _ rfl) 9 _ rfl) 10 _ rfl)
    have D3 : (((World.setCell (World.setCell (World.setCell (World.setCell (World.setCell (World.setCell (World.setCell (World.setCell (World.setCell (World.setCell (World.setCell w4 ⟨w1.heap.size, 0, none⟩ (.int .i64 lg)) ⟨w1.heap.size, 1, none⟩ (.slice BO e3.length dO)) ⟨w1.heap.size, 2, none⟩ (.int .i64 e4.f0)) ⟨w1.heap.size, 3, none⟩ (.bool e4.f1)) ⟨w1.heap.size, 4, none⟩ (.bool e4.f2.f0)) ⟨w1.heap.size, 5, none⟩ (.slice B6 e4.f2.f1.length d6)) ⟨w1.heap.size, 6, none⟩ (.int .i64 e4.f2.f2)) ⟨w1.heap.size, 7, none⟩ (.string e4.f3)) ⟨w1.heap.size, 8, none⟩ (.slice B9 e4.f4.length d9)) ⟨w1.heap.size, 9, none⟩ (.slice B10 e4.f5.length d10)) ⟨w1.heap.size, 10, none⟩ (.slice BM e5.length dM))).setCell ⟨w2.heap.size, 0, none⟩ (.int .i64 0)).heap[w2.heap.size]? = some (.cells #[.int .i64 0] 34 (0, 0)) := blk_put (cs := #[.int .i64 0]) (((Below.heap_setCell _ ⟨w1.heap.size, 10, none⟩ _ _ hpn2).trans ((Below.heap_setCell _ ⟨w1.heap.size, 9, none⟩ _ _ hpn2).trans ((Below.heap_setCell _ ⟨w1.heap.size, 8, none⟩ _ _ hpn2).trans ((Below.heap_setCell _ ⟨w1.heap.size, 7, none⟩ _ _ hpn2).trans ((Below.heap_setCell _ ⟨w1.heap.size, 6, none⟩ _ _ hpn2).trans ((Below.heap_setCell _ ⟨w1.heap.size, 5, none⟩ _ _ hpn2).trans ((Below.heap_setCell _ ⟨w1.heap.size, 4, none⟩ _ _ hpn2).trans ((Below.heap_setCell _ ⟨w1.heap.size, 3, none⟩ _ _ hpn2).trans ((Below.heap_setCell _ ⟨w1.heap.size, 2, none⟩ _ _ hpn2).trans ((Below.heap_setCell _ ⟨w1.heap.size, 1, none⟩ _ _ hpn2).trans ((Below.heap_setCell _ ⟨w1.heap.size, 0, none⟩ _ _ hpn2).trans (rfl)))))))))))).trans HQ4.out) 0 _ rfl
    have D4 : Below w.heap.size w (((World.setCell (World.setCell (World.setCell (World.setCell (World.setCell (World.setCell (World.setCell (World.setCell (World.setCell (World.setCell (World.setCell w4 ⟨w1.heap.size, 0, none⟩ (.int .i64 lg)) ⟨w1.heap.size, 1, none⟩ (.slice BO e3.length dO)) ⟨w1.heap.size, 2, none⟩ (.int .i64 e4.f0)) ⟨w1.heap.size, 3, none⟩ (.bool e4.f1)) ⟨w1.heap.size, 4, none⟩ (.bool e4.f2.f0)) ⟨w1.heap.size, 5, none⟩ (.slice B6 e4.f2.f1.length d6)) ⟨w1.heap.size, 6, none⟩ (.int .i64 e4.f2.f2)) ⟨w1.heap.size, 7, none⟩ (.string e4.f3)) ⟨w1.heap.size, 8, none⟩ (.slice B9 e4.f4.length d9)) ⟨w1.heap.size, 9, none⟩ (.slice B10 e4.f5.length d10)) ⟨w1.heap.size, 10, none⟩ (.slice BM e5.length dM))).setCell ⟨w2.heap.size, 0, none⟩ (.int .i64 0)) := below_set (below_set (below_set (below_set (below_set (below_set (below_set (below_set (below_set (below_set (below_set (below_set HB4.out hp0) hp0) hp0) hp0) hp0) hp0) hp0) hp0) hp0) hp0) hp0) hq0
    have D5 : PatF (((World.setCell (World.setCell (World.setCell (World.setCell (World.setCell (World.setCell (World.setCell (World.setCell (World.setCell (World.setCell (World.setCell w4 ⟨w1.heap.size, 0, none⟩ (.int .i64 lg)) ⟨w1.heap.size, 1, none⟩ (.slice BO e3.length dO)) ⟨w1.heap.size, 2, none⟩ (.int .i64 e4.f0)) ⟨w1.heap.size, 3, none⟩ (.bool e4.f1)) ⟨w1.heap.size, 4, none⟩ (.bool e4.f2.f0)) ⟨w1.heap.size, 5, none⟩ (.slice B6 e4.f2.f1.length d6)) ⟨w1.heap.size, 6, none⟩ (.int .i64 e4.f2.f2)) ⟨w1.heap.size, 7, none⟩ (.string e4.f3)) ⟨w1.heap.size, 8, none⟩ (.slice B9 e4.f4.length d9)) ⟨w1.heap.size, 9, none⟩ (.slice B10 e4.f5.length d10)) ⟨w1.heap.size, 10, none⟩ (.slice BM e5.length dM))).setCell ⟨w2.heap.size, 0, none⟩ (.int .i64 0)) (fun k_ => PP k_ ∨ w.heap.size ≤ k_) e3 e4 e5 BO dO B6 d6 B9 d9 B10 d10 BM dM := HPF.out.step (fun k_ hk _ => by
        have n1 : k_ ≠ w1.heap.size := by rcases hk with hk | hk <;> omega
        have n2 : k_ ≠ w2.heap.size := by rcases hk with hk | hk <;> omega
        exact (Below.heap_setCell _ ⟨w2.heap.size, 0, none⟩ _ k_ n2).trans ((Below.heap_setCell _ ⟨w1.heap.size, 10, none⟩ _ k_ n1).trans ((Below.heap_setCell _ ⟨w1.heap.size, 9, none⟩ _ k_ n1).trans ((Below.heap_setCell _ ⟨w1.heap.size, 8, none⟩ _ k_ n1).trans ((Below.heap_setCell _ ⟨w1.heap.size, 7, none⟩ _ k_ n1).trans ((Below.heap_setCell _ ⟨w1.heap.size, 6, none⟩ _ k_ n1).trans ((Below.heap_setCell _ ⟨w1.heap.size, 5, none⟩ _ k_ n1).trans ((Below.heap_setCell _ ⟨w1.heap.size, 4, none⟩ _ k_ n1).trans ((Below.heap_setCell _ ⟨w1.heap.size, 3, none⟩ _ k_ n1).trans ((Below.heap_setCell _ ⟨w1.heap.size, 2, none⟩ _ k_ n1).trans ((Below.heap_setCell _ ⟨w1.heap.size, 1, none⟩ _ k_ n1).trans ((Below.heap_setCell _ ⟨w1.heap.size, 0, none⟩ _ k_ n1).trans (rfl))))))))))))) (fun k_ hk => by rcases hk with hk | hk; exact .inl hk.1; exact .inr (by omega))
    clear HPF HP4 HQ4 HB4
    generalize ((World.setCell (World.setCell (World.setCell (World.setCell (World.setCell (World.setCell (World.setCell (World.setCell (World.setCell (World.setCell (World.setCell w4 ⟨w1.heap.size, 0, none⟩ (.int .i64 lg)) ⟨w1.heap.size, 1, none⟩ (.slice BO e3.length dO)) ⟨w1.heap.size, 2, none⟩ (.int .i64 e4.f0)) ⟨w1.heap.size, 3, none⟩ (.bool e4.f1)) ⟨w1.heap.size, 4, none⟩ (.bool e4.f2.f0)) ⟨w1.heap.size, 5, none⟩ (.slice B6 e4.f2.f1.length d6)) ⟨w1.heap.size, 6, none⟩ (.int .i64 e4.f2.f2)) ⟨w1.heap.size, 7, none⟩ (.string e4.f3)) ⟨w1.heap.size, 8, none⟩ (.slice B9 e4.f4.length d9)) ⟨w1.heap.size, 9, none⟩ (.slice B10 e4.f5.length d10)) ⟨w1.heap.size, 10, none⟩ (.slice BM e5.length dM))).setCell ⟨w2.heap.size, 0, none⟩ (.int .i64 0) = wz at D2 D3 D4 D5 ⊢
    refine leaves_cons (f := 8) (args := #[.pointer (some ⟨w1.heap.size, 0, none⟩), .pointer (some ⟨w2.heap.size, 0, none⟩)]) (by simp) (by simp [go_sem]) ?_
    refine (catchR_idle w1.heap.size w2.heap.size _).mono ?_
    rintro e u' w5 ⟨rfl, rfl, rfl⟩
    simp only [Leaves, settle]
    exact ⟨_, results_read _ w1.heap.size w2.heap.size _ _ _ _ _ _ _ _ _ _ _ 0 _ rfl rfl D2 D3, BO, dO, B6, d6, B9, d9, B10, d10, BM, dM, rfl, D5, D4⟩
end Go.Proofs.YtondpnipoogoiaaDoor.X
-- A walk, written by a program of this session (xp.py).
namespace Go.Proofs.YtondpnipoogoiaaDoor.X
open Go.RowKit Go.Proofs.YtondpnipoogoiaaDoorW.PrintWords Go.Proofs.YtondpnipoogoiaaDoorW.PrintLast Go.Proofs.YtondpnipoogoiaaDoorW.PrintMore
attribute [local go_sem] max2_int min2_int max_two min_two max_three min_three max_four min_four
set_option linter.unusedVariables false
set_option linter.unusedSimpArgs false

/-! ### erratumlaw00_Place: function 4 -/
def erratumlaw00_Place.f (a0 : Int) (a1 : Int) : Option (Int) := if a1 = 0 then (none) else (if (Int.tmod a0 a1) < 0 then (some (wrap64 ((Int.tmod a0 a1) + a1))) else (some (Int.tmod a0 a1)))
set_option maxHeartbeats 8000000 in
set_option maxRecDepth 100000 in
theorem erratumlaw00_Place.calls (a0 : Int) (a1 : Int) (r : Int) (w : World) (h : erratumlaw00_Place.f a0 a1 = some r) :
    Calls Tryd.prog 4 #[.int .i64 a0, .int .i64 a1] w fun e w' => e = .returned (.int .i64 r) ∧ Drawn0 w w' := by
  have H : (if a1 = 0 then (none) else (if (Int.tmod a0 a1) < 0 then (some (wrap64 ((Int.tmod a0 a1) + a1))) else (some (Int.tmod a0 a1)))) = some r := h
  clear h
  by_cases c3 : a1 = 0
  · rw [if_pos c3] at H
    exact absurd H (by simp)
  · rw [if_neg c3] at H
    have c3b0 : (a1 == 0) = false := beq_eq_false_iff_ne.mpr c3
    have c3b1 : (a1 != 0) = true := bne_iff_ne.mpr c3
    by_cases c4 : (Int.tmod a0 a1) < 0
    · rw [if_pos c4] at H
      have c4b0 : decide ((Int.tmod a0 a1) < 0) = true := decide_eq_true c4
      clear c4
      obtain rfl := Option.some.inj H
      go_enter Tryd.func4, Tryd.ntmps4
      go_wp2
      go_ret
      exact ⟨by first | rfl | (simp; done) | (simp [*]; done), by repeat (first | exact Drawn0.refl _ | apply Drawn0.step)⟩
    · rw [if_neg c4] at H
      have c4b0 : decide ((Int.tmod a0 a1) < 0) = false := decide_eq_false c4
      clear c4
      obtain rfl := Option.some.inj H
      go_enter Tryd.func4, Tryd.ntmps4
      go_wp2
      go_ret
      exact ⟨by first | rfl | (simp; done) | (simp [*]; done), by repeat (first | exact Drawn0.refl _ | apply Drawn0.step)⟩

end Go.Proofs.YtondpnipoogoiaaDoor.X
-- A walk, written by a program of this session (xp.py).
namespace Go.Proofs.YtondpnipoogoiaaDoor.X
open Go.RowKit Go.Proofs.YtondpnipoogoiaaDoorW.PrintWords Go.Proofs.YtondpnipoogoiaaDoorW.PrintLast Go.Proofs.YtondpnipoogoiaaDoorW.PrintMore
attribute [local go_sem] max2_int min2_int max_two min_two max_three min_three max_four min_four
set_option linter.unusedVariables false
set_option linter.unusedSimpArgs false

/-! ### erratumlaw18_WireLimits_1: function 6 -/
def erratumlaw18_WireLimits_1.f (a0 : Bool) : Option (Int) := if a0 = true then (some 4) else (some 0)
set_option maxHeartbeats 8000000 in
set_option maxRecDepth 100000 in
theorem erratumlaw18_WireLimits_1.calls (a0 : Bool) (r : Int) (w : World) (h : erratumlaw18_WireLimits_1.f a0 = some r) :
    Calls Tryd.prog 6 #[.bool a0] w fun e w' => e = .returned (.int .i64 r) ∧ Drawn0 w w' := by
  have H : (if a0 = true then (some 4) else (some 0)) = some r := h
  clear h
  by_cases c2 : a0 = true
  · subst c2
    have H1 : (some 4) = some r := by rw [if_pos rfl] at H; exact H
    clear H
    have H := H1
    clear H1
    obtain rfl := Option.some.inj H
    go_enter Tryd.func6, Tryd.ntmps6
    go_wp2
    go_ret
    exact ⟨by first | rfl | (simp; done) | (simp [*]; done), by repeat (first | exact Drawn0.refl _ | apply Drawn0.step)⟩
  · replace c2 := Bool.eq_false_iff.mpr c2
    subst c2
    have H1 : (some 0) = some r := by rw [if_neg (show ¬ (false = true) by decide)] at H; exact H
    clear H
    have H := H1
    clear H1
    obtain rfl := Option.some.inj H
    go_enter Tryd.func6, Tryd.ntmps6
    go_wp2
    go_ret
    exact ⟨by first | rfl | (simp; done) | (simp [*]; done), by repeat (first | exact Drawn0.refl _ | apply Drawn0.step)⟩

end Go.Proofs.YtondpnipoogoiaaDoor.X
/- The law WireLimits: its walk. -/
namespace Go.Proofs.YtondpnipoogoiaaDoor.X
open Go.RowKit Go.Proofs.YtondpnipoogoiaaDoorW.PrintWords Go.Proofs.YtondpnipoogoiaaDoorW.PrintLast Go.Proofs.YtondpnipoogoiaaDoorW.PrintMore
set_option linter.unusedVariables false
set_option linter.unusedSimpArgs false
def remT : S29 := (⟨7, false, ⟨false, [], 0⟩, (⟨#[]⟩ : ByteArray), [(⟨#[111, 112]⟩ : ByteArray), (⟨#[112, 97, 116, 104]⟩ : ByteArray)], [(⟨4, false, ⟨false, [], 0⟩, (⟨#[114, 101, 109, 111, 118, 101]⟩ : ByteArray), [], []⟩ : S29), (⟨4, false, ⟨false, [], 0⟩, (⟨#[]⟩ : ByteArray), [], []⟩ : S29)]⟩ : S29)
def opT (s : ByteArray) : S29 := (⟨7, false, ⟨false, [], 0⟩, (⟨#[]⟩ : ByteArray), [(⟨#[111, 112]⟩ : ByteArray), (⟨#[112, 97, 116, 104]⟩ : ByteArray)], [(⟨4, false, ⟨false, [], 0⟩, (⟨#[114, 101, 109, 111, 118, 101]⟩ : ByteArray), [], []⟩ : S29), (⟨4, false, ⟨false, [], 0⟩, s, [], []⟩ : S29)]⟩ : S29)
def txT (s : ByteArray) : S29 := (⟨4, false, ⟨false, [], 0⟩, s, [], []⟩ : S29)
def nullT : S29 := (⟨1, false, ⟨false, [], 0⟩, (⟨#[]⟩ : ByteArray), [], []⟩ : S29)
def pathT : Nat → ByteArray
  | 0 => ⟨#[]⟩
  | n + 1 => pathT n ++ ⟨#[47, 97]⟩
def maskT : Nat → ByteArray
  | 0 => ⟨#[]⟩
  | n + 1 => (if n = 0 then maskT n else maskT n ++ ⟨#[44]⟩) ++ ⟨#[97]⟩
theorem pathT_size (n : Nat) : (pathT n).size = 2 * n := by
  induction n with
  | zero => rfl
  | succ n ih => rw [pathT, ByteArray.size_append, ih]; show 2 * n + 2 = _; omega
theorem maskT_size (n : Nat) : (maskT n).size ≤ 2 * n := by
  induction n with
  | zero => exact Nat.le_refl _
  | succ n ih =>
    rw [maskT, ByteArray.size_append]
    split
    · show (maskT n).size + 1 ≤ _; omega
    · rw [ByteArray.size_append]; show (maskT n).size + 1 + 1 ≤ _; omega
theorem info_tree : (Tryd.prog.info? 29).map (fun i => (i.zero, i.size, i.bytes)) = some (some (.agg #[(.int .i64 0), (.bool false), (.bool false), (.slice none 0 0), (.int .i64 0), (.string ⟨#[]⟩), (.slice none 0 0), (.slice none 0 0)]), 8, 120) := by kernel_rfl
theorem F_lit {W : World} {b : Nat} {e : TypeId} (cs : Array Value) (xs : List ByteArray) (hb : W.heap[b]? = some (.cells cs e (0, 0))) (hcs : cs = (xs.map Value.string).toArray) (hn : xs.length ≤ 9223372036854775807) : Kd.F Kd.string W (fun k => k = b) (some ⟨b, 0, none⟩) xs.length xs := by
  intro W' hW
  have hb' := (hW b rfl (blk_lt hb)).trans hb
  subst hcs
  refine ⟨rfl, hn, fun _ => ⟨_, rfl, fun j q hj => ⟨[.string q], rfl, rfl, fun i u hu => ?_⟩⟩⟩
  obtain rfl : i = 0 := by
    have := (List.getElem?_eq_some_iff.1 hu).1
    simp at this
    exact this
  obtain rfl : Value.string q = u := by simpa using hu
  refine Eq.trans (show W'.cell? _ = W'.cell? ⟨b, j, none⟩ from congrArg _ (show Addr.add ⟨b, 0, none⟩ (j * 1 + 0) = _ from by rcases j with _ | j <;> simp [Addr.add])) ?_
  refine (blk_cell hb' j).trans ?_
  simp [hj]
theorem F_rows1 {α : Type} {d : Kd α} {W : World} {b : Nat} {e : TypeId} {ok : Nat → Prop} (x : α) (c : List Value) (hb : W.heap[b]? = some (.cells c.toArray e (0, 0))) (hx : Kd.FK d W ok x c) : Kd.F d W (fun k => k = b ∨ ok k) (some ⟨b, 0, none⟩) 1 [x] := by
  intro W' hW
  have hb' := (hW b (.inl rfl) (blk_lt hb)).trans hb
  have hk := hx W' (fun k hk hl => hW k (.inr hk) hl)
  refine ⟨rfl, by decide, fun _ => ⟨_, rfl, fun j q hj => ?_⟩⟩
  obtain rfl : j = 0 := by
    have := (List.getElem?_eq_some_iff.1 hj).1
    simp at this
    exact this
  obtain rfl : x = q := by simpa using hj
  refine ⟨c, d.K_len hk, hk, fun i u hu => ?_⟩
  refine Eq.trans (show W'.cell? _ = W'.cell? ⟨b, i, none⟩ from congrArg _ (by rw [Nat.zero_mul, Nat.zero_add]; rcases i with _ | i <;> simp [Addr.add])) ?_
  refine (blk_cell hb' i).trans ?_
  simpa using hu
theorem F_rows2 {α : Type} {d : Kd α} {W : World} {b : Nat} {e : TypeId} {ok : Nat → Prop} (x y : α) (c c' : List Value) (hs : c.length = d.sz) (hb : W.heap[b]? = some (.cells (c ++ c').toArray e (0, 0))) (hx : Kd.FK d W ok x c) (hy : Kd.FK d W ok y c') : Kd.F d W (fun k => k = b ∨ ok k) (some ⟨b, 0, none⟩) 2 [x, y] := by
  intro W' hW
  have hb' := (hW b (.inl rfl) (blk_lt hb)).trans hb
  have hk := hx W' (fun k hk hl => hW k (.inr hk) hl)
  have hk' := hy W' (fun k hk hl => hW k (.inr hk) hl)
  refine ⟨rfl, by decide, fun _ => ⟨_, rfl, fun j q hj => ?_⟩⟩
  rcases j with _ | _ | j
  · obtain rfl : x = q := by simpa using hj
    refine ⟨c, hs, hk, fun i u hu => ?_⟩
    refine Eq.trans (show W'.cell? _ = W'.cell? ⟨b, i, none⟩ from congrArg _ (by rw [Nat.zero_mul, Nat.zero_add]; rcases i with _ | i <;> simp [Addr.add])) ?_
    refine (blk_cell hb' i).trans ?_
    obtain ⟨hl, he⟩ := List.getElem?_eq_some_iff.1 hu
    simp [List.getElem?_append_left hl, hu]
  · obtain rfl : y = q := by simpa using hj
    refine ⟨c', d.K_len hk', hk', fun i u hu => ?_⟩
    refine Eq.trans (show W'.cell? _ = W'.cell? ⟨b, d.sz + i, none⟩ from congrArg _ (by rw [Nat.zero_add, Nat.one_mul]; by_cases h0 : d.sz + i = 0; (rw [h0]; rfl); (simp [Addr.add]; omega))) ?_
    refine (blk_cell hb' (d.sz + i)).trans ?_
    rw [← hs]
    simp [List.getElem?_append_right, hu]
  · simp at hj
theorem at_path {W : World} {ok : Nat → Prop} {A : Option Addr} {y : S39} {ys : List S39} (h : Kd.F k39 W ok A (y :: ys).length (y :: ys)) : ∃ ad B d', A = some ad ∧ W.cell? ⟨ad.block, ad.off + 1, none⟩ = some (.slice B y.f1.length d') := by
  obtain ⟨ad, c, e, _, hK, hc0⟩ := Kd.C_get (Kd.F_now h) z39 0 (by decide) (by simp)
  obtain ⟨A1, c1, A2, c2, A6, c6, A9, c9, A10, c10, rfl, _⟩ := k39_open hK
  refine ⟨ad, A1, c1, e, ?_⟩
  have := hc0 1 _ rfl
  simpa [Addr.add] using this
theorem lim_f (x c : Nat) (e : Int) (he : e = if c < x then 4 else 0) : erratumlaw18_WireLimits_1.f (decide ((c : Int) < (x : Int))) = some e := by
  subst he
  unfold erratumlaw18_WireLimits_1.f
  by_cases h : c < x
  · rw [if_pos h, if_pos (decide_eq_true (by omega))]
  · rw [if_neg h, if_neg (by rw [decide_eq_false (by omega)]; decide)]
theorem fk_leaf (W : World) (ok : Nat → Prop) (kd : Int) (b : Bool) (s : ByteArray) : Kd.FK k29 W ok (⟨kd, b, ⟨false, [], 0⟩, s, [], []⟩ : S29) [.int .i64 kd, .bool b, .bool false, .slice none 0 0, .int .i64 0, .string s, .slice none 0 0, .slice none 0 0] :=
  k29_mkF W ok (⟨kd, b, ⟨false, [], 0⟩, s, [], []⟩ : S29) (Nat.le_refl _) (Kd.F_nil _ _ _) (Nat.le_refl _) (Kd.F_nil _ _ _) (Nat.le_refl _) (Kd.F_nil _ _ _)
set_option maxHeartbeats 16000000 in
set_option maxRecDepth 100000 in
theorem limits.calls (k : Nat) (n kk m : Int) (o tk pt : Nat) (ra rb rc : Int) (oa ob oc : List S39) (va vb vc : S29) (ma mb mc : List (List ByteArray)) (ea eb ec : Int) (w : World) (hL : Laid w)
    (hp1 : erratumlaw00_Place.f n 75 = some (o : Int)) (hp2 : erratumlaw00_Place.f kk 80 = some (tk : Int)) (hp3 : erratumlaw00_Place.f m 75 = some (pt : Int)) (ho : o ≤ 100) (htk : tk ≤ 100) (hpt : pt ≤ 100)
    (hA : Read.f k 1 6 false false [] 0 ⟨#[]⟩ [] (List.replicate o remT) = some (ra, oa, va, ma, ea)) (hA1 : ea = if 60 < o then 4 else 0) (hA2 : ea = 0 → oa.length = o)
    (hB : Read.f k 1 6 false false [] 0 ⟨#[]⟩ [] [opT (pathT tk)] = some (rb, ob, vb, mb, eb)) (hB1 : eb = if 63 < tk then 4 else 0) (hB2 : eb = 0 → ∃ y, ob = [y] ∧ y.f1.length = tk)
    (hC : Read.f k 3 7 false false [] 0 ⟨#[]⟩ [(⟨#[109, 97, 115, 107]⟩ : ByteArray), (⟨#[118, 97, 108, 117, 101]⟩ : ByteArray)] [txT (maskT pt), nullT] = some (rc, oc, vc, mc, ec)) (hC1 : ec = if 60 < pt then 4 else 0) (hC2 : ec = 0 → mc.length = pt)
    (hW : ∀ W, Laid W → Calls Tryd.prog 7 #[] W fun e w' => e = .returned (.bool true) ∧ Below W.heap.size W w') :
    Calls Tryd.prog 3 #[.int .i64 n, .int .i64 kk, .int .i64 m] w fun e w' => e = .returned (.bool true) ∧ Below w.heap.size w w' := by
  have hu := Tryd.underlying29
  have hu2 := Tryd.underlying33
  have HL := Aside0.mk hL
  have HP := Aside0.mk (And.intro hp1 (And.intro hp2 hp3))
  have HA := Aside0.mk (And.intro hA (And.intro hA1 hA2))
  have HBB := Aside0.mk (And.intro hB (And.intro hB1 hB2))
  have HC := Aside0.mk (And.intro hC (And.intro hC1 hC2))
  have HW := Aside0.mk hW
  clear hL hp1 hp2 hp3 hA hA1 hA2 hB hB1 hB2 hC hC1 hC2 hW
  go_enter Tryd.func3, Tryd.ntmps3
  go_wp2_with fail
  refine (erratumlaw00_Place.calls n 75 o _ HP.out.1).mono ?_
  rintro e w' ⟨rfl, ndn, rfl⟩
  go_wp2_with fail
  refine (erratumlaw00_Place.calls kk 80 tk _ HP.out.2.1).mono ?_
  rintro e w' ⟨rfl, ndkk, rfl⟩
  go_wp2_with fail
  refine (erratumlaw00_Place.calls m 75 pt _ HP.out.2.2).mono ?_
  rintro e w' ⟨rfl, ndm, rfl⟩
  have HB0 := Aside0.mk (pw_below_drewN (pw_below_drewN (pw_below_drewN (Below.refl w.heap.size w) ndn) ndkk) ndm)
  have HB0 := Aside0.mk (pw_below_drewN (pw_below_drewN (Below.refl w.heap.size w) (ndn + ndkk)) ndm)
  generalize (w.drewN (ndn + ndkk)).drewN ndm = w0 at HB0 ⊢
  go_wp2_with fail
  obtain ⟨wt, hwt⟩ : ∃ wt, w0.alloc (.cells #[.int .i64 6, .bool false, .bool false, .slice none 0 0, .int .i64 0, .string (⟨#[]⟩ : ByteArray), .slice none 0 0, .slice none 0 0] 29) = wt := ⟨_, rfl⟩
  have HT := Aside0.mk (show wt.heap[w0.heap.size]? = some (.cells #[.int .i64 6, .bool false, .bool false, .slice none 0 0, .int .i64 0, .string (⟨#[]⟩ : ByteArray), .slice none 0 0, .slice none 0 0] 29 (0, 0)) from hwt ▸ blk_new _ _)
  have HB1 := Aside0.mk (show Below w.heap.size w wt from hwt ▸ below_alloc HB0.out _)
  have hw0 : w.heap.size ≤ w0.heap.size := HB0.out.size
  have HF := Aside0.mk (show ∃ v_ : Value, Below w.heap.size w wt ∧ wt.heap[w0.heap.size]? = some (.cells #[.int .i64 6, .bool false, .bool false, .slice none 0 0, .int .i64 0, .string (⟨#[]⟩ : ByteArray), .slice none 0 0, v_] 29 (0, 0)) ∧ Kd.N k29 29 wt w.heap.size (fun k_ => w.heap.size ≤ k_ ∧ k_ ≠ w0.heap.size) v_ (List.replicate 0 remT) from ⟨_, HB1.out, HT.out, Kd.N_nil _ _ _ _ _⟩)
  clear HB1 HT HB0
  rw [hwt]
  go_loopw [11] (fun n_ w' => ∃ i : Nat, i ≤ o ∧ n_ = .int .i64 i ∧ Aside0 (∃ v_ : Value, Below w.heap.size w w' ∧ w'.heap[w0.heap.size]? = some (.cells #[.int .i64 6, .bool false, .bool false, .slice none 0 0, .int .i64 0, .string (⟨#[]⟩ : ByteArray), .slice none 0 0, v_] 29 (0, 0)) ∧ Kd.N k29 29 w' w.heap.size (fun k_ => w.heap.size ≤ k_ ∧ k_ ≠ w0.heap.size) v_ (List.replicate i remT))) (fun n_ _ => o - (intOf n_).toNat)
  case atStart => exact ⟨0, Nat.zero_le _, rfl, HF⟩
  case round =>
    clear HF hwt
    obtain ⟨i, hi, rfl, HQ⟩ := hrel
    obtain ⟨v, hB, hT, hN⟩ := HQ.out
    have HB := Aside0.mk hB
    have HT := Aside0.mk hT
    have HN := Aside0.mk hN
    clear HQ hB hT hN
    by_cases hlt : i < o
    · skip
      obtain ⟨wk, hwk⟩ : ∃ wk, wr.alloc (.cells #[.string (⟨#[111, 112]⟩ : ByteArray), .string (⟨#[112, 97, 116, 104]⟩ : ByteArray)] 9) = wk := ⟨_, rfl⟩
      obtain ⟨wv, hwv⟩ : ∃ wv, wk.alloc (.cells #[.int .i64 4, .bool false, .bool false, .slice none 0 0, .int .i64 0, .string (⟨#[114, 101, 109, 111, 118, 101]⟩ : ByteArray), .slice none 0 0, .slice none 0 0, .int .i64 4, .bool false, .bool false, .slice none 0 0, .int .i64 0, .string (⟨#[]⟩ : ByteArray), .slice none 0 0, .slice none 0 0] 29) = wv := ⟨_, rfl⟩
      have hk1 := hwk ▸ blk_new wr (.cells #[.string (⟨#[111, 112]⟩ : ByteArray), .string (⟨#[112, 97, 116, 104]⟩ : ByteArray)] 9)
      have hv1 := hwv ▸ blk_new wk (.cells #[.int .i64 4, .bool false, .bool false, .slice none 0 0, .int .i64 0, .string (⟨#[114, 101, 109, 111, 118, 101]⟩ : ByteArray), .slice none 0 0, .slice none 0 0, .int .i64 4, .bool false, .bool false, .slice none 0 0, .int .i64 0, .string (⟨#[]⟩ : ByteArray), .slice none 0 0, .slice none 0 0] 29)
      have hbk : Below wr.heap.size wr wk := hwk ▸ below_alloc (Below.refl _ _) _
      have hbv : Below wk.heap.size wk wv := hwv ▸ below_alloc (Below.refl _ _) _
      have hk2 := blk_below hk1 hbv
      have hbkv := below_step hbk hbv
      have hsz1 : wr.heap.size < wk.heap.size := blk_lt hk1
      have hsz2 : wk.heap.size < wv.heap.size := blk_lt hv1
      have hsw : w.heap.size ≤ wr.heap.size := HB.out.size
      have hst : w0.heap.size < wr.heap.size := blk_lt HT.out
      have HFK := Aside0.mk (show Kd.FK k29 wv (fun k_ => k_ = wr.heap.size ∨ k_ = wk.heap.size) remT [.int .i64 7, .bool false, .bool false, .slice none 0 0, .int .i64 0, .string (⟨#[]⟩ : ByteArray), .slice (some ⟨wr.heap.size, 0, none⟩) 2 2, .slice (some ⟨wk.heap.size, 0, none⟩) 2 2] from k29_mkF wv _ remT (Nat.le_refl _) (Kd.F_nil _ _ _) (Nat.le_refl 2) (Kd.F_mono (F_lit _ _ hk2 rfl (by decide)) (fun k_ hk => .inl hk)) (Nat.le_refl 2) (Kd.F_mono (F_rows2 (ok := fun _ => False) _ _ _ _ rfl hv1 (fk_leaf wv _ 4 false (⟨#[114, 101, 109, 111, 118, 101]⟩ : ByteArray)) (fk_leaf wv _ 4 false ⟨#[]⟩)) (fun k_ hk => hk.elim .inr False.elim)))
      have hNv := Kd.N_below HN.out hbkv
      have HNv := Aside0.mk hNv
      have HTv := Aside0.mk (blk_below HT.out hbkv)
      have HBv := Aside0.mk (below_step HB.out hbkv)
      have hown : ∀ b, v.ownBlock = some b → w.heap.size ≤ b ∧ b < wr.heap.size ∧ b ≠ w0.heap.size := fun b hb_ => ⟨Kd.N_base HN.out b hb_, Kd.N_lt HN.out b hb_, (HN.out.1 b hb_).2⟩
      have HOW := Aside0.mk hown
      have HOK := Aside0.mk (show ∀ k_, (k_ = wr.heap.size ∨ k_ = wk.heap.size) → (fun k_ => w.heap.size ≤ k_ ∧ k_ ≠ w0.heap.size) k_ ∧ some k_ ≠ v.ownBlock from fun k_ hk => ⟨by constructor <;> (rcases hk with rfl | rfl <;> omega), fun e_ => by have := hown k_ e_.symm; rcases hk with rfl | rfl <;> omega⟩)
      have HFR := Aside0.mk (show ∀ k_, wv.heap.size ≤ k_ → (fun k_ => w.heap.size ≤ k_ ∧ k_ ≠ w0.heap.size) k_ from fun k_ hk => by constructor <;> omega)
      have x7 := (blk_cell HT.out 7).trans rfl
      have xf7 := blk_frozen HT.out 7
      have hwsz : w.heap.size ≤ wv.heap.size := HBv.out.size
      clear hk1 hv1 hk2 hbk hbv hbkv hNv hown HT HB HN
      go_wp2_with (first | ((with_reducible refine gate_builtin (b := .append) (xs := #[.tmp 38, .tmp 44]) rfl ?_); at_builtin; refine Kd.N_append k29 (w0 := w) w.heap.size rfl (.tmp 38) (.tmp 44) 27 29 (.agg #[(.int .i64 0), (.bool false), (.bool false), (.slice none 0 0), (.int .i64 0), (.string ⟨#[]⟩), (.slice none 0 0), (.slice none 0 0)]) 120 rfl Tryd.underlying27 info_tree rfl (by decide) (by omega) v (List.replicate i remT) remT [.int .i64 7, .bool false, .bool false, .slice none 0 0, .int .i64 0, .string (⟨#[]⟩ : ByteArray), .slice (some ⟨wr.heap.size, 0, none⟩) 2 2, .slice (some ⟨wk.heap.size, 0, none⟩) 2 2] (fun k_ => w.heap.size ≤ k_ ∧ k_ ≠ w0.heap.size) (fun k_ => k_ = wr.heap.size ∨ k_ = wk.heap.size) rfl rfl HFK.out HOK.out HFR.out HNv.out HBv.out hwsz (by rw [List.length_replicate]; omega) ?_; intro v1 w5 hN9 hB9 hg9 hat9; have hnt : some w0.heap.size ≠ v.ownBlock := fun e_ => (HOW.out _ e_.symm).2.2 rfl; have hT9 := blk_grown HTv.out hg9 hnt; obtain ⟨Bv, dv, hv9⟩ := Kd.N_slice hN9; rw [show (List.replicate i remT ++ [remT]).length = i + 1 by simp] at hv9; subst hv9; have HN9 := Aside0.mk (show Kd.N k29 29 w5 w.heap.size (fun k_ => w.heap.size ≤ k_ ∧ k_ ≠ w0.heap.size) (.slice Bv (i + 1) dv) (List.replicate (i + 1) remT) from List.replicate_succ' ▸ hN9); have HB9 := Aside0.mk hB9; have HT9 := Aside0.mk hT9; have y7 := (blk_cell HT9.out 7).trans rfl; have yf7 := blk_frozen HT9.out 7; clear hN9 hB9 hg9 hat9 hnt hT9 HFK HOK HFR HNv HBv HTv HOW x7 xf7 hwk hwv))
      have HJ := Aside0.mk (show ∃ v_ : Value, Below w.heap.size w (World.setCell w5 ⟨w0.heap.size, 7, none⟩ (.slice Bv (i + 1) dv)) ∧ (World.setCell w5 ⟨w0.heap.size, 7, none⟩ (.slice Bv (i + 1) dv)).heap[w0.heap.size]? = some (.cells #[.int .i64 6, .bool false, .bool false, .slice none 0 0, .int .i64 0, .string (⟨#[]⟩ : ByteArray), .slice none 0 0, v_] 29 (0, 0)) ∧ Kd.N k29 29 (World.setCell w5 ⟨w0.heap.size, 7, none⟩ (.slice Bv (i + 1) dv)) w.heap.size (fun k_ => w.heap.size ≤ k_ ∧ k_ ≠ w0.heap.size) v_ (List.replicate (i + 1) remT) from ⟨_, below_set HB9.out hw0, (blk_put (cs := #[.int .i64 6, .bool false, .bool false, .slice none 0 0, .int .i64 0, .string (⟨#[]⟩ : ByteArray), .slice none 0 0, v]) (cs' := #[.int .i64 6, .bool false, .bool false, .slice none 0 0, .int .i64 0, .string (⟨#[]⟩ : ByteArray), .slice none 0 0, .slice Bv (i + 1) dv]) HT9.out 7 _ rfl), Kd.N_far (p := ⟨w0.heap.size, 7, none⟩) HN9.out (fun k_ hk => hk.2) _⟩)
      clear HB9 HT9 HN9 y7 yf7
      generalize (World.setCell w5 ⟨w0.heap.size, 7, none⟩ (.slice Bv (i + 1) dv)) = w10 at HJ ⊢
      try go_wp2_with fail
      go_round
      case rel => exact ⟨i + 1, by omega, by go_num, HJ⟩
      case measure => simp [intOf]; omega
    obtain rfl : i = o := by omega
    obtain ⟨Bt, dt, rfl⟩ := Kd.N_slice HN.out
    have HFt := Aside0.mk (And.intro (Kd.N_reads' HN.out).2.1 (Kd.N_F HN.out))
    clear HN
    generalize wr = w1 at HB HT HFt ⊢
    go_wp2_with fail
    go_loopw [12, 14] (fun s_ n_ w' => ∃ j : Nat, j ≤ tk ∧ n_ = .int .i64 j ∧ s_ = .string (pathT j) ∧ w' = w1) (fun s_ n_ _ => tk - (intOf n_).toNat)
    case atStart => exact ⟨0, Nat.zero_le _, rfl, rfl, rfl⟩
    case round =>
      obtain ⟨j, hj, rfl, rfl, rfl⟩ := hrel
      by_cases hlt2 : j < tk
      · have hsz : (pathT j).size + 2 ≤ 9223372036854775807 := by have := pathT_size j; omega
        go_wp2_with fail
        go_round
        case rel => exact ⟨j + 1, by omega, by go_num, rfl, by first | rfl | trivial⟩
        case measure => simp [intOf]; omega
      obtain rfl : j = tk := by omega
      generalize wr = w1 at HB HT HFt ⊢
      go_wp2_with fail
      go_loopw [13, 15] (fun s_ n_ w' => ∃ q : Nat, q ≤ pt ∧ n_ = .int .i64 q ∧ s_ = .string (maskT q) ∧ w' = w1) (fun s_ n_ _ => pt - (intOf n_).toNat)
      case atStart => exact ⟨0, Nat.zero_le _, rfl, rfl, rfl⟩
      case round =>
        obtain ⟨q, hq, rfl, rfl, rfl⟩ := hrel
        by_cases hlt3 : q < pt
        · have hsz := maskT_size q
          have hsz1 : (maskT q).size + 1 ≤ 9223372036854775807 := by omega
          by_cases hq0 : q = 0
          · subst hq0
            go_wp2_with fail
            go_round
            case rel => exact ⟨1, by omega, by go_num, rfl, by first | rfl | trivial⟩
            case measure => simp [intOf]; omega
          · have hsz2 : (maskT q ++ (⟨#[44]⟩ : ByteArray)).size + 1 ≤ 9223372036854775807 := by rw [ByteArray.size_append]; show (maskT q).size + 1 + 1 ≤ _; omega
            have hq1 : 0 < q := by omega
            have hmm : maskT (q + 1) = (maskT q ++ ⟨#[44]⟩) ++ ⟨#[97]⟩ := by rw [maskT, if_neg hq0]
            go_wp2_with fail
            go_round
            case rel => exact ⟨q + 1, by omega, by go_num, by rw [hmm], by first | rfl | trivial⟩
            case measure => simp [intOf]; omega
        obtain rfl : q = pt := by omega
        generalize wr = w1 at HB HT HFt ⊢
        have HBL := Aside0.mk (Below.refl w1.heap.size w1)
        obtain ⟨wa, hwwa⟩ : ∃ wa_, w1.alloc (.cells #[.string (⟨#[111, 112]⟩ : ByteArray), .string (⟨#[112, 97, 116, 104]⟩ : ByteArray)] 9) = wa_ := ⟨_, rfl⟩
        have hnwa := hwwa ▸ blk_new w1 (.cells #[.string (⟨#[111, 112]⟩ : ByteArray), .string (⟨#[112, 97, 116, 104]⟩ : ByteArray)] 9)
        have hbwa : Below w1.heap.size w1 wa := hwwa ▸ below_alloc (Below.refl _ _) _
        obtain ⟨wb, hwwb⟩ : ∃ wb_, wa.alloc (.cells #[.int .i64 4, .bool false, .bool false, .slice none 0 0, .int .i64 0, .string (⟨#[114, 101, 109, 111, 118, 101]⟩ : ByteArray), .slice none 0 0, .slice none 0 0, .int .i64 4, .bool false, .bool false, .slice none 0 0, .int .i64 0, .string (pathT j), .slice none 0 0, .slice none 0 0] 29) = wb_ := ⟨_, rfl⟩
        have hnwb := hwwb ▸ blk_new wa (.cells #[.int .i64 4, .bool false, .bool false, .slice none 0 0, .int .i64 0, .string (⟨#[114, 101, 109, 111, 118, 101]⟩ : ByteArray), .slice none 0 0, .slice none 0 0, .int .i64 4, .bool false, .bool false, .slice none 0 0, .int .i64 0, .string (pathT j), .slice none 0 0, .slice none 0 0] 29)
        have hbwb : Below wa.heap.size wa wb := hwwb ▸ below_alloc (Below.refl _ _) _
        obtain ⟨wc, hwwc⟩ : ∃ wc_, wb.alloc (.cells #[.int .i64 7, .bool false, .bool false, .slice none 0 0, .int .i64 0, .string (⟨#[]⟩ : ByteArray), .slice (some ⟨w1.heap.size, 0, none⟩) 2 2, .slice (some ⟨wa.heap.size, 0, none⟩) 2 2] 29) = wc_ := ⟨_, rfl⟩
        have hnwc := hwwc ▸ blk_new wb (.cells #[.int .i64 7, .bool false, .bool false, .slice none 0 0, .int .i64 0, .string (⟨#[]⟩ : ByteArray), .slice (some ⟨w1.heap.size, 0, none⟩) 2 2, .slice (some ⟨wa.heap.size, 0, none⟩) 2 2] 29)
        have hbwc : Below wb.heap.size wb wc := hwwc ▸ below_alloc (Below.refl _ _) _
        obtain ⟨wd, hwwd⟩ : ∃ wd_, wc.alloc (.cells #[.int .i64 6, .bool false, .bool false, .slice none 0 0, .int .i64 0, .string (⟨#[]⟩ : ByteArray), .slice none 0 0, .slice (some ⟨wb.heap.size, 0, none⟩) 1 1] 29) = wd_ := ⟨_, rfl⟩
        have hnwd := hwwd ▸ blk_new wc (.cells #[.int .i64 6, .bool false, .bool false, .slice none 0 0, .int .i64 0, .string (⟨#[]⟩ : ByteArray), .slice none 0 0, .slice (some ⟨wb.heap.size, 0, none⟩) 1 1] 29)
        have hbwd : Below wc.heap.size wc wd := hwwd ▸ below_alloc (Below.refl _ _) _
        obtain ⟨we, hwwe⟩ : ∃ we_, wd.alloc (.cells #[.string (⟨#[109, 97, 115, 107]⟩ : ByteArray), .string (⟨#[118, 97, 108, 117, 101]⟩ : ByteArray)] 9) = we_ := ⟨_, rfl⟩
        have hnwe := hwwe ▸ blk_new wd (.cells #[.string (⟨#[109, 97, 115, 107]⟩ : ByteArray), .string (⟨#[118, 97, 108, 117, 101]⟩ : ByteArray)] 9)
        have hbwe : Below wd.heap.size wd we := hwwe ▸ below_alloc (Below.refl _ _) _
        obtain ⟨wf, hwwf⟩ : ∃ wf_, we.alloc (.cells #[.int .i64 4, .bool false, .bool false, .slice none 0 0, .int .i64 0, .string (maskT q), .slice none 0 0, .slice none 0 0, .int .i64 1, .bool false, .bool false, .slice none 0 0, .int .i64 0, .string (⟨#[]⟩ : ByteArray), .slice none 0 0, .slice none 0 0] 29) = wf_ := ⟨_, rfl⟩
        have hnwf := hwwf ▸ blk_new we (.cells #[.int .i64 4, .bool false, .bool false, .slice none 0 0, .int .i64 0, .string (maskT q), .slice none 0 0, .slice none 0 0, .int .i64 1, .bool false, .bool false, .slice none 0 0, .int .i64 0, .string (⟨#[]⟩ : ByteArray), .slice none 0 0, .slice none 0 0] 29)
        have hbwf : Below we.heap.size we wf := hwwf ▸ below_alloc (Below.refl _ _) _
        obtain ⟨wg, hwwg⟩ : ∃ wg_, wf.alloc (.cells #[.int .i64 7, .bool false, .bool false, .slice none 0 0, .int .i64 0, .string (⟨#[]⟩ : ByteArray), .slice (some ⟨wd.heap.size, 0, none⟩) 2 2, .slice (some ⟨we.heap.size, 0, none⟩) 2 2] 29) = wg_ := ⟨_, rfl⟩
        have hnwg := hwwg ▸ blk_new wf (.cells #[.int .i64 7, .bool false, .bool false, .slice none 0 0, .int .i64 0, .string (⟨#[]⟩ : ByteArray), .slice (some ⟨wd.heap.size, 0, none⟩) 2 2, .slice (some ⟨we.heap.size, 0, none⟩) 2 2] 29)
        have hbwg : Below wf.heap.size wf wg := hwwg ▸ below_alloc (Below.refl _ _) _
        have HTg := Aside0.mk (blk_below (blk_below (blk_below (blk_below (blk_below (blk_below (blk_below HT.out hbwa) hbwb) hbwc) hbwd) hbwe) hbwf) hbwg)
        have HXg := Aside0.mk (blk_below (blk_below (blk_below hnwd hbwe) hbwf) hbwg)
        have HYg := Aside0.mk hnwg
        have HBg := Aside0.mk (below_step (below_step (below_step (below_step (below_step (below_step (below_step HB.out hbwa) hbwb) hbwc) hbwd) hbwe) hbwf) hbwg)
        have HF1 := Aside0.mk (Kd.F_mono (Kd.F_below (Kd.F_below (Kd.F_below (Kd.F_below (Kd.F_below (Kd.F_below (Kd.F_below HFt.out.2 hbwa) hbwb) hbwc) hbwd) hbwe) hbwf) hbwg) (ok' := (fun _ => True)) (fun _ _ => trivial))
        have hfk2 : Kd.FK k29 wg (fun _ => True) (opT (pathT j)) [.int .i64 7, .bool false, .bool false, .slice none 0 0, .int .i64 0, .string (⟨#[]⟩ : ByteArray), .slice (some ⟨w1.heap.size, 0, none⟩) 2 2, .slice (some ⟨wa.heap.size, 0, none⟩) 2 2] := k29_mkF wg _ (opT (pathT j)) (Nat.le_refl _) (Kd.F_nil _ _ _) (Nat.le_refl 2) (Kd.F_mono (Kd.F_below (Kd.F_below (Kd.F_below (Kd.F_below (Kd.F_below (Kd.F_below (F_lit _ [(⟨#[111, 112]⟩ : ByteArray), (⟨#[112, 97, 116, 104]⟩ : ByteArray)] hnwa rfl (by decide)) hbwb) hbwc) hbwd) hbwe) hbwf) hbwg) (fun _ _ => trivial)) (Nat.le_refl 2) (Kd.F_mono (Kd.F_below (Kd.F_below (Kd.F_below (Kd.F_below (Kd.F_below (F_rows2 (ok := fun _ => False) _ _ _ _ rfl hnwb (fk_leaf wb _ 4 false (⟨#[114, 101, 109, 111, 118, 101]⟩ : ByteArray)) (fk_leaf wb _ 4 false (pathT j))) hbwc) hbwd) hbwe) hbwf) hbwg) (fun _ _ => trivial))
        have HF2 := Aside0.mk (show Kd.F k29 wg (fun _ => True) (some ⟨wb.heap.size, 0, none⟩) 1 [opT (pathT j)] from Kd.F_mono (F_rows1 _ _ (blk_below (blk_below (blk_below (blk_below hnwc hbwd) hbwe) hbwf) hbwg) hfk2) (fun _ _ => trivial))
        have HF3 := Aside0.mk (show Kd.F Kd.string wg (fun _ => True) (some ⟨wd.heap.size, 0, none⟩) 2 [(⟨#[109, 97, 115, 107]⟩ : ByteArray), (⟨#[118, 97, 108, 117, 101]⟩ : ByteArray)] from Kd.F_mono (Kd.F_below (Kd.F_below (F_lit _ [(⟨#[109, 97, 115, 107]⟩ : ByteArray), (⟨#[118, 97, 108, 117, 101]⟩ : ByteArray)] hnwe rfl (by decide)) hbwf) hbwg) (fun _ _ => trivial))
        have HF4 := Aside0.mk (show Kd.F k29 wg (fun _ => True) (some ⟨we.heap.size, 0, none⟩) 2 [txT (maskT q), nullT] from Kd.F_mono (Kd.F_below (F_rows2 (ok := fun _ => False) _ _ _ _ rfl hnwf (fk_leaf wf _ 4 false (maskT q)) (fk_leaf wf _ 1 false ⟨#[]⟩)) hbwg) (fun _ _ => trivial))
        have x0 := (blk_cell HTg.out 0).trans rfl
        have x1 := (blk_cell HTg.out 1).trans rfl
        have x2 := (blk_cell HTg.out 2).trans rfl
        have x3 := (blk_cell HTg.out 3).trans rfl
        have x4 := (blk_cell HTg.out 4).trans rfl
        have x5 := (blk_cell HTg.out 5).trans rfl
        have x6 := (blk_cell HTg.out 6).trans rfl
        have x7 := (blk_cell HTg.out 7).trans rfl
        clear hfk2 hnwa hbwa hnwb hbwb hnwc hbwc hnwd hbwd hnwe hbwe hnwf hbwf hnwg hbwg HB HT HBL
        go_wp2_with fail
        clear hwwa hwwb hwwc hwwd hwwe hwwf hwwg
        have hlen : (List.replicate i remT).length = i := List.length_replicate
        have hc := Read.calls k 1 6 false false none 0 [] 0 ⟨#[]⟩ none 0 [] Bt dt (List.replicate i remT) (fun _ => True) ra oa va ma ea _ (HL.out.below HBg.out) (Kd.F_nil _ _ _) (Nat.le_refl _) (Kd.F_nil _ _ _) (Nat.le_refl _) HF1.out HFt.out.1 HA.out.1
        (try rw [List.length_replicate] at hc)
        refine hc.mono ?_
        clear hc
        rintro e wh ⟨Bao, dao, Ba6, da6, Ba9, da9, Bat, dat, Bam, dam, rfl, hpf, hb⟩
        obtain ⟨wi, hw⟩ : ∃ u_, wh.alloc (.cells #[.int .i64 ra, .slice Bao oa.length dao, .int .i64 va.f0, .bool va.f1, .bool va.f2.f0, .slice Ba6 va.f2.f1.length da6, .int .i64 va.f2.f2, .string va.f3, .slice Ba9 va.f4.length da9, .slice Bat va.f5.length dat, .slice Bam ma.length dam] 33) = u_ := ⟨_, rfl⟩
        have hn := hw ▸ blk_new wh (.cells #[.int .i64 ra, .slice Bao oa.length dao, .int .i64 va.f0, .bool va.f1, .bool va.f2.f0, .slice Ba6 va.f2.f1.length da6, .int .i64 va.f2.f2, .string va.f3, .slice Ba9 va.f4.length da9, .slice Bat va.f5.length dat, .slice Bam ma.length dam] 33)
        have hb2 := below_step hb (show Below wh.heap.size wh wi from hw ▸ below_alloc (Below.refl _ _) _)
        have Han := Aside0.mk hn
        have HPFa := Aside0.mk (Kd.F_below hpf.1.2 (show Below wh.heap.size wh wi from hw ▸ below_alloc (Below.refl _ _) _))
        replace HXg := Aside0.mk (blk_below HXg.out hb2)
        replace HYg := Aside0.mk (blk_below HYg.out hb2)
        replace HF2 := Aside0.mk (Kd.F_below HF2.out hb2)
        replace HF3 := Aside0.mk (Kd.F_below HF3.out hb2)
        replace HF4 := Aside0.mk (Kd.F_below HF4.out hb2)
        replace HBg := Aside0.mk (below_step HBg.out hb2)
        clear hpf hb hn hb2 HF1 HFt x0 x1 x2 x3 x4 x5 x6 x7 HTg
        have x0 := (blk_cell HXg.out 0).trans rfl
        have x1 := (blk_cell HXg.out 1).trans rfl
        have x2 := (blk_cell HXg.out 2).trans rfl
        have x3 := (blk_cell HXg.out 3).trans rfl
        have x4 := (blk_cell HXg.out 4).trans rfl
        have x5 := (blk_cell HXg.out 5).trans rfl
        have x6 := (blk_cell HXg.out 6).trans rfl
        have x7 := (blk_cell HXg.out 7).trans rfl
        go_wp2_with fail
        have hc := Read.calls k 1 6 false false none 0 [] 0 ⟨#[]⟩ none 0 [] (some ⟨wb.heap.size, 0, none⟩) 1 [opT (pathT j)] (fun _ => True) rb ob vb mb eb _ (HL.out.below HBg.out) (Kd.F_nil _ _ _) (Nat.le_refl _) (Kd.F_nil _ _ _) (Nat.le_refl _) HF2.out (Nat.le_refl 1) HBB.out.1
        (try rw [List.length_replicate] at hc)
        refine hc.mono ?_
        clear hc
        rintro e wj ⟨Bbo, dbo, Bb6, db6, Bb9, db9, Bbt, dbt, Bbm, dbm, rfl, hpf, hb⟩
        obtain ⟨wl, hw⟩ : ∃ u_, wj.alloc (.cells #[.int .i64 rb, .slice Bbo ob.length dbo, .int .i64 vb.f0, .bool vb.f1, .bool vb.f2.f0, .slice Bb6 vb.f2.f1.length db6, .int .i64 vb.f2.f2, .string vb.f3, .slice Bb9 vb.f4.length db9, .slice Bbt vb.f5.length dbt, .slice Bbm mb.length dbm] 33) = u_ := ⟨_, rfl⟩
        have hn := hw ▸ blk_new wj (.cells #[.int .i64 rb, .slice Bbo ob.length dbo, .int .i64 vb.f0, .bool vb.f1, .bool vb.f2.f0, .slice Bb6 vb.f2.f1.length db6, .int .i64 vb.f2.f2, .string vb.f3, .slice Bb9 vb.f4.length db9, .slice Bbt vb.f5.length dbt, .slice Bbm mb.length dbm] 33)
        have hb2 := below_step hb (show Below wj.heap.size wj wl from hw ▸ below_alloc (Below.refl _ _) _)
        have Hbn := Aside0.mk hn
        have HPFb := Aside0.mk (Kd.F_below hpf.1.2 (show Below wj.heap.size wj wl from hw ▸ below_alloc (Below.refl _ _) _))
        replace HYg := Aside0.mk (blk_below HYg.out hb2)
        replace Han := Aside0.mk (blk_below Han.out hb2)
        replace HF3 := Aside0.mk (Kd.F_below HF3.out hb2)
        replace HF4 := Aside0.mk (Kd.F_below HF4.out hb2)
        replace HBg := Aside0.mk (below_step HBg.out hb2)
        clear hpf hb hn hb2 HF2 x0 x1 x2 x3 x4 x5 x6 x7 HXg
        have x0 := (blk_cell HYg.out 0).trans rfl
        have x1 := (blk_cell HYg.out 1).trans rfl
        have x2 := (blk_cell HYg.out 2).trans rfl
        have x3 := (blk_cell HYg.out 3).trans rfl
        have x4 := (blk_cell HYg.out 4).trans rfl
        have x5 := (blk_cell HYg.out 5).trans rfl
        have x6 := (blk_cell HYg.out 6).trans rfl
        have x7 := (blk_cell HYg.out 7).trans rfl
        go_wp2_with fail
        have hc := Read.calls k 3 7 false false none 0 [] 0 ⟨#[]⟩ (some ⟨wd.heap.size, 0, none⟩) 2 [(⟨#[109, 97, 115, 107]⟩ : ByteArray), (⟨#[118, 97, 108, 117, 101]⟩ : ByteArray)] (some ⟨we.heap.size, 0, none⟩) 2 [txT (maskT q), nullT] (fun _ => True) rc oc vc mc ec _ (HL.out.below HBg.out) (Kd.F_nil _ _ _) (Nat.le_refl _) HF3.out (Nat.le_refl 2) HF4.out (Nat.le_refl 2) HC.out.1
        (try rw [List.length_replicate] at hc)
        refine hc.mono ?_
        clear hc
        rintro e wm ⟨Bco, dco, Bc6, dc6, Bc9, dc9, Bct, dct, Bcm, dcm, rfl, hpf, hb⟩
        obtain ⟨wo, hw⟩ : ∃ u_, wm.alloc (.cells #[.int .i64 rc, .slice Bco oc.length dco, .int .i64 vc.f0, .bool vc.f1, .bool vc.f2.f0, .slice Bc6 vc.f2.f1.length dc6, .int .i64 vc.f2.f2, .string vc.f3, .slice Bc9 vc.f4.length dc9, .slice Bct vc.f5.length dct, .slice Bcm mc.length dcm] 33) = u_ := ⟨_, rfl⟩
        have hn := hw ▸ blk_new wm (.cells #[.int .i64 rc, .slice Bco oc.length dco, .int .i64 vc.f0, .bool vc.f1, .bool vc.f2.f0, .slice Bc6 vc.f2.f1.length dc6, .int .i64 vc.f2.f2, .string vc.f3, .slice Bc9 vc.f4.length dc9, .slice Bct vc.f5.length dct, .slice Bcm mc.length dcm] 33)
        have hb2 := below_step hb (show Below wm.heap.size wm wo from hw ▸ below_alloc (Below.refl _ _) _)
        have Hcn := Aside0.mk hn
        have HPFc := Aside0.mk (Kd.F_below hpf.1.2 (show Below wm.heap.size wm wo from hw ▸ below_alloc (Below.refl _ _) _))
        replace Han := Aside0.mk (blk_below Han.out hb2)
        replace Hbn := Aside0.mk (blk_below Hbn.out hb2)
        replace HPFb := Aside0.mk (Kd.F_below HPFb.out hb2)
        replace HBg := Aside0.mk (below_step HBg.out hb2)
        clear hpf hb hn hb2 HF3 HF4 x0 x1 x2 x3 x4 x5 x6 x7 HYg HPFa HPFc
        have HL1 := Aside0.mk (lim_f i 60 ea HA.out.2.1)
        have HL2 := Aside0.mk (lim_f j 63 eb HBB.out.2.1)
        have HL3 := Aside0.mk (lim_f q 60 ec HC.out.2.1)
        go_wp2_with fail
        refine (erratumlaw18_WireLimits_1.calls _ ea _ HL1.out).mono ?_
        rintro e w' ⟨rfl, nda, rfl⟩
        try clear hw
        replace HBg := Aside0.mk (pw_below_drewN HBg.out nda)
        replace Han := Aside0.mk (blk_drewN Han.out nda)
        replace Hbn := Aside0.mk (blk_drewN Hbn.out nda)
        replace Hcn := Aside0.mk (blk_drewN Hcn.out nda)
        replace HPFb := Aside0.mk (Kd.F_drewN HPFb.out nda)
        generalize wo.drewN nda = woa at HBg Han Hbn Hcn HPFb ⊢
        go_wp2_with fail
        refine (erratumlaw18_WireLimits_1.calls _ eb _ HL2.out).mono ?_
        rintro e w' ⟨rfl, ndb, rfl⟩
        replace HBg := Aside0.mk (pw_below_drewN HBg.out ndb)
        replace Han := Aside0.mk (blk_drewN Han.out ndb)
        replace Hbn := Aside0.mk (blk_drewN Hbn.out ndb)
        replace Hcn := Aside0.mk (blk_drewN Hcn.out ndb)
        replace HPFb := Aside0.mk (Kd.F_drewN HPFb.out ndb)
        generalize woa.drewN ndb = woab at HBg Han Hbn Hcn HPFb ⊢
        go_wp2_with fail
        refine (erratumlaw18_WireLimits_1.calls _ ec _ HL3.out).mono ?_
        rintro e w' ⟨rfl, ndc, rfl⟩
        replace HBg := Aside0.mk (pw_below_drewN HBg.out ndc)
        replace Han := Aside0.mk (blk_drewN Han.out ndc)
        replace Hbn := Aside0.mk (blk_drewN Hbn.out ndc)
        replace Hcn := Aside0.mk (blk_drewN Hcn.out ndc)
        replace HPFb := Aside0.mk (Kd.F_drewN HPFb.out ndc)
        generalize woab.drewN ndc = woabc at HBg Han Hbn Hcn HPFb ⊢
        have xa := (blk_cell Han.out 1).trans rfl
        have xb := (blk_cell Hbn.out 1).trans rfl
        have xc := (blk_cell Hcn.out 10).trans rfl
        have hA2 := HA.out.2.2
        have hB2 := HBB.out.2.2
        have hC2 := HC.out.2.2
        have hea : ea ≠ 0 ∨ (ea = 0 ∧ oa.length = i) := by by_cases h : ea = 0; exact .inr ⟨h, hA2 h⟩; exact .inl h
        have heb : eb ≠ 0 ∨ (eb = 0 ∧ ∃ y, ob = [y] ∧ y.f1.length = j) := by by_cases h : eb = 0; exact .inr ⟨h, hB2 h⟩; exact .inl h
        have hec : ec ≠ 0 ∨ (ec = 0 ∧ mc.length = q) := by by_cases h : ec = 0; exact .inr ⟨h, hC2 h⟩; exact .inl h
        clear hA2 hB2 hC2 HA HBB HC HL1 HL2 HL3
        rcases heb with heb | ⟨heb, y, hob, hy⟩
        · skip
          rcases hea with hea | ⟨hea, hla⟩ <;> rcases hec with hec | ⟨hec, hlc⟩
          · skip
            go_wp2_with fail
            refine (HW.out _ (HL.out.below HBg.out)).mono ?_
            rintro e w' ⟨rfl, hb⟩
            have HBz := Aside0.mk (below_step HBg.out hb)
            clear hb xa xb xc
            go_wp2_with fail
            go_ret
            exact ⟨rfl, HBz.out⟩
          · skip
            subst hec
            have xc2 : _ = some (Value.slice Bcm q dcm) := hlc ▸ xc
            clear xc hlc
            have xc := xc2
            clear xc2
            go_wp2_with fail
            refine (HW.out _ (HL.out.below HBg.out)).mono ?_
            rintro e w' ⟨rfl, hb⟩
            have HBz := Aside0.mk (below_step HBg.out hb)
            clear hb xa xb xc
            go_wp2_with fail
            go_ret
            exact ⟨rfl, HBz.out⟩
          · skip
            subst hea
            have xa2 : _ = some (Value.slice Bao i dao) := hla ▸ xa
            clear xa hla
            have xa := xa2
            clear xa2
            go_wp2_with fail
            refine (HW.out _ (HL.out.below HBg.out)).mono ?_
            rintro e w' ⟨rfl, hb⟩
            have HBz := Aside0.mk (below_step HBg.out hb)
            clear hb xa xb xc
            go_wp2_with fail
            go_ret
            exact ⟨rfl, HBz.out⟩
          · skip
            subst hea
            have xa2 : _ = some (Value.slice Bao i dao) := hla ▸ xa
            clear xa hla
            have xa := xa2
            clear xa2
            subst hec
            have xc2 : _ = some (Value.slice Bcm q dcm) := hlc ▸ xc
            clear xc hlc
            have xc := xc2
            clear xc2
            go_wp2_with fail
            refine (HW.out _ (HL.out.below HBg.out)).mono ?_
            rintro e w' ⟨rfl, hb⟩
            have HBz := Aside0.mk (below_step HBg.out hb)
            clear hb xa xb xc
            go_wp2_with fail
            go_ret
            exact ⟨rfl, HBz.out⟩
        · skip
          subst hob
          obtain ⟨ad, Bp, dp, hBp, xp⟩ := at_path HPFb.out
          subst hBp
          subst heb
          replace xb : _ = some (Value.slice (some ad) 1 dbo) := xb
          rw [hy] at xp
          clear hy
          rcases hea with hea | ⟨hea, hla⟩ <;> rcases hec with hec | ⟨hec, hlc⟩
          · skip
            go_wp2_with fail
            refine (HW.out _ (HL.out.below HBg.out)).mono ?_
            rintro e w' ⟨rfl, hb⟩
            have HBz := Aside0.mk (below_step HBg.out hb)
            clear hb xa xb xc
            go_wp2_with fail
            go_ret
            exact ⟨rfl, HBz.out⟩
          · skip
            subst hec
            have xc2 : _ = some (Value.slice Bcm q dcm) := hlc ▸ xc
            clear xc hlc
            have xc := xc2
            clear xc2
            go_wp2_with fail
            refine (HW.out _ (HL.out.below HBg.out)).mono ?_
            rintro e w' ⟨rfl, hb⟩
            have HBz := Aside0.mk (below_step HBg.out hb)
            clear hb xa xb xc
            go_wp2_with fail
            go_ret
            exact ⟨rfl, HBz.out⟩
          · skip
            subst hea
            have xa2 : _ = some (Value.slice Bao i dao) := hla ▸ xa
            clear xa hla
            have xa := xa2
            clear xa2
            go_wp2_with fail
            refine (HW.out _ (HL.out.below HBg.out)).mono ?_
            rintro e w' ⟨rfl, hb⟩
            have HBz := Aside0.mk (below_step HBg.out hb)
            clear hb xa xb xc
            go_wp2_with fail
            go_ret
            exact ⟨rfl, HBz.out⟩
          · skip
            subst hea
            have xa2 : _ = some (Value.slice Bao i dao) := hla ▸ xa
            clear xa hla
            have xa := xa2
            clear xa2
            subst hec
            have xc2 : _ = some (Value.slice Bcm q dcm) := hlc ▸ xc
            clear xc hlc
            have xc := xc2
            clear xc2
            go_wp2_with fail
            refine (HW.out _ (HL.out.below HBg.out)).mono ?_
            rintro e w' ⟨rfl, hb⟩
            have HBz := Aside0.mk (below_step HBg.out hb)
            clear hb xa xb xc
            go_wp2_with fail
            go_ret
            exact ⟨rfl, HBz.out⟩
end Go.Proofs.YtondpnipoogoiaaDoor.X
/- The texts that WireLimits builds: what Split, Valid, pointer.Parse and mask.Parse say of them. -/
namespace Go.Proofs.YtondpnipoogoiaaDoor.X
open Go.RowKit Go.Proofs.YtondpnipoogoiaaDoorW.PrintWords Go.Proofs.YtondpnipoogoiaaDoorW.PrintLast Go.Proofs.YtondpnipoogoiaaDoorW.PrintMore
set_option linter.unusedVariables false
set_option linter.unusedSimpArgs false
def aB : ByteArray := ⟨#[97]⟩
theorem LeO.iter {α : Type} {f : Nat → Option α} (h : ∀ k, LeO (f k) (f (k + 1))) {k j : Nat} (hj : k ≤ j) {r : α} (hr : f k = some r) : f j = some r := by
  obtain ⟨d, rfl⟩ := Nat.exists_eq_add_of_le hj
  clear hj
  induction d with
  | zero => exact hr
  | succ d ih => exact h _ _ ih
/-- a, c, a, c, .., a -/
def qL (c : UInt8) : Nat → List UInt8
  | 0 => [97]
  | m + 1 => 97 :: c :: qL c m
theorem qL_back (c : UInt8) : ∀ m, qL c m ++ [c, 97] = qL c (m + 1)
  | 0 => rfl
  | m + 1 => by show 97 :: c :: (qL c m ++ [c, 97]) = _; rw [qL_back c m]; rfl
theorem pathT_data : ∀ m, (pathT (m + 1)).data.toList = 47 :: qL 47 m
  | 0 => rfl
  | m + 1 => by
    rw [pathT, ByteArray.data_append, Array.toList_append, pathT_data m]
    show 47 :: (qL 47 m ++ [47, 97]) = _
    rw [qL_back]
theorem maskT_data : ∀ m, (maskT (m + 1)).data.toList = qL 44 m
  | 0 => rfl
  | m + 1 => by
    rw [maskT, if_neg (by omega), ByteArray.data_append, ByteArray.data_append, Array.toList_append, Array.toList_append, maskT_data m]
    show qL 44 m ++ [44] ++ [97] = _
    rw [List.append_assoc]
    exact qL_back 44 m
theorem qL_count (c : UInt8) (hc : c ≠ 97) : ∀ m, Lib.count (qL c m) [c] = m
  | 0 => by rw [Lib.count_one, qL, List.count_cons_of_ne (by simpa using Ne.symm hc)]; rfl
  | m + 1 => by rw [qL, Lib.count_cons_ne _ _ _ (Ne.symm hc), Lib.count_cons_eq, qL_count c hc m, Nat.add_comm]
theorem qL_split (c : UInt8) (hc : c ≠ 97) : ∀ m, Lib.splitK [c] 0 m (qL c m) = List.replicate (m + 1) [97]
  | 0 => rfl
  | m + 1 => by
    have hi : Lib.index (qL c (m + 1)) [c] = 1 := by
      have h1 : ([c] : List UInt8).isPrefixOf (97 :: c :: qL c m) = false := by simp [List.isPrefixOf]; exact hc
      have h2 : ([c] : List UInt8).isPrefixOf (c :: qL c m) = true := by simp [List.isPrefixOf]
      show Lib.index (97 :: c :: qL c m) [c] = 1
      rw [Lib.index, h1, Lib.index, h2]
      rfl
    rw [Lib.splitK, hi, if_neg (by decide)]
    show (97 :: c :: qL c m).take 1 :: Lib.splitK [c] 0 m ((97 :: c :: qL c m).drop 2) = _
    rw [List.replicate_succ]
    exact congrArg _ (qL_split c hc m)
theorem ba_ext {a b : ByteArray} (h : a.data.toList = b.data.toList) : a = b := by
  obtain ⟨⟨a⟩⟩ := a
  obtain ⟨⟨b⟩⟩ := b
  simp at h
  rw [h]
theorem map_data : ∀ {l : List ByteArray} {n : Nat}, l.map (·.data.toList) = List.replicate n [97] → l = List.replicate n aB
  | [], n, h => by cases n with | zero => rfl | succ n => simp [List.replicate_succ] at h
  | a :: l, n, h => by
    cases n with
    | zero => simp at h
    | succ n =>
      rw [List.map_cons, List.replicate_succ] at h
      injection h with h1 h2
      rw [List.replicate_succ, map_data h2]
      exact congrArg (· :: _) (ba_ext (by rw [h1]; rfl))
theorem split_of (c : UInt8) (hc : c ≠ 97) (s : ByteArray) (m : Nat) (hs : s.data.toList = qL c m) (hl : s.size < 4294967281) : strings_Split.f s ⟨#[c]⟩ = some (List.replicate (m + 1) aB) := by
  unfold strings_Split.f
  rw [if_pos ⟨hl, Nat.le_refl 1⟩]
  refine congrArg some (map_data ?_)
  rw [Lib.splitB_data, hs]
  show Lib.splitK [c] 0 (Lib.count s.data.toList [c]) (qL c m) = _
  rw [hs, qL_count c hc, qL_split c hc]
theorem validAt_ascii (s : ByteArray) (h : ∀ i (hi : i < s.size), (s[i]'hi).toNat < 128) : ∀ b i, validAt s b i = true
  | 0, _ => rfl
  | b + 1, i => by
    unfold validAt
    by_cases hi : i < s.size
    · rw [if_pos hi, decode_ascii s i hi (h i hi)]
      have := h i hi
      rw [if_neg (by show ¬ ((s[i]'hi).toNat = 65533); omega)]
      exact validAt_ascii s h b _
    · rw [if_neg hi]
theorem valid_of (s : ByteArray) (h : ∀ c ∈ s.data.toList, c.toNat < 128) : utf_Valid.f s = some true := by
  unfold utf_Valid.f
  rw [validAt_ascii s (fun i hi => h _ (by rw [Array.mem_toList_iff]; exact Array.getElem_mem hi))]
theorem qL_ascii (c : UInt8) (hc : c.toNat < 128) : ∀ m, ∀ d ∈ qL c m, d.toNat < 128
  | 0, d, h => by simp [qL] at h; subst h; decide
  | m + 1, d, h => by
    rcases List.mem_cons.1 h with rfl | h
    · decide
    · rcases List.mem_cons.1 h with rfl | h
      · exact hc
      · exact qL_ascii c hc m d h
theorem path_valid (n : Nat) : utf_Valid.f (pathT n) = some true := by
  refine valid_of _ fun c hc => ?_
  cases n with
  | zero => simp [pathT] at hc
  | succ m =>
    rw [pathT_data] at hc
    rcases List.mem_cons.1 hc with rfl | hc
    · decide
    · exact qL_ascii 47 (by decide) m c hc
theorem mask_valid (n : Nat) : utf_Valid.f (maskT n) = some true := by
  refine valid_of _ fun c hc => ?_
  cases n with
  | zero => simp [maskT] at hc
  | succ m => rw [maskT_data] at hc; exact qL_ascii 44 (by decide) m c hc
theorem tok_a : pointer_token.f aB = some (aB, true) := by decide +kernel
theorem rd_rep {α : Type} (d x : α) (n i : Nat) (h : i < n) : rdOf d (List.replicate n x) (i : Int) = x := by
  unfold rdOf
  rw [Int.toNat_natCast, List.getD_eq_getElem?_getD, List.getElem?_eq_getElem (by rw [List.length_replicate]; exact h), Option.getD_some, List.getElem_replicate]
theorem wrap_succ (i n : Nat) (h : i < 4611686018427387904) : wrap64 ((i : Int) + 1) = ((i + 1 : Nat) : Int) := by
  unfold wrap64
  omega
theorem parse_loop (n : Nat) (hn : n < 1000) : ∀ (d : Nat) (i : Nat), i + d = n → ∀ k, d < k → pointer_Parse.l0 k (List.replicate i aB) (List.replicate n aB) (n : Int) (i : Int) = if 63 < n then some ([], 4) else some (List.replicate n aB, 0)
  | 0, i, hi, k + 1, hk => by
    obtain rfl : i = n := by omega
    rw [pointer_Parse.l0, if_neg (by omega), List.length_replicate]
    by_cases h : 63 < i
    · rw [if_pos (by omega), if_pos h]
    · rw [if_neg (by omega), if_neg h]
  | d + 1, i, hi, k + 1, hk => by
    rw [pointer_Parse.l0, if_pos (by omega), if_pos (by omega), if_pos (by rw [List.length_replicate]; omega), rd_rep _ _ _ _ (by omega), tok_a, Option.bind_some, if_pos rfl, if_pos (by rw [List.length_replicate]; omega), wrap_succ i n (by omega), ← List.replicate_succ']
    exact parse_loop n hn d (i + 1) (by omega) k (by omega)
theorem parse_path (n k : Nat) (hn : n < 1000) (hk : n + 2 ≤ k) : pointer_Parse.f k (pathT n) = if 63 < n then some ([], 4) else some (List.replicate n aB, 0) := by
  cases n with
  | zero => unfold pointer_Parse.f; rw [if_pos (by rw [Lib.toList_data]; rfl)]; rfl
  | succ m =>
    obtain ⟨k, rfl⟩ : ∃ k', k = k' + 1 := ⟨k - 1, by omega⟩
    have hd := pathT_data m
    have hsz := pathT_size (m + 1)
    have hne : ¬ (pathT (m + 1)).toList = ([] : List UInt8) := by rw [Lib.toList_data, hd]; simp
    have hbt : bt (pathT (m + 1)) 0 = 47 := by
      have h0 : (pathT (m + 1)).data.toList[0]? = some 47 := by rw [hd]; rfl
      unfold bt
      have hl : (0 : Int).toNat < (pathT (m + 1)).size := by rw [hsz]; simp
      rw [dif_pos hl]
      have : (pathT (m + 1))[(0 : Int).toNat]'hl = 47 := by
        rw [Array.getElem?_toList] at h0
        have h2 := (Array.getElem?_eq_some_iff.1 h0).2
        exact h2
      rw [this]; rfl
    have hs : strings_Split.f ((pathT (m + 1)).extract 1 (pathT (m + 1)).size) ⟨#[47]⟩ = some (List.replicate (m + 1) aB) := by
      refine split_of 47 (by decide) _ m ?_ (by rw [ByteArray.size_extract]; omega)
      rw [Lib.extract_to_end, hd]; rfl
    unfold pointer_Parse.f
    rw [if_neg hne, if_pos (by omega), if_pos hbt, path_valid, Option.bind_some]
    show pointer_Parse.j0 (k + 1) (pathT (m + 1)) false = _
    rw [pointer_Parse.j0, if_neg (by decide), if_pos (by omega), hs, Option.bind_some, List.length_replicate]
    exact parse_loop (m + 1) hn (m + 1) 0 (by omega) k (by omega)
theorem split_a : strings_Split.f aB ⟨#[46]⟩ = some [aB] := by decide +kernel
theorem has_a (k : Nat) (hk : 6 ≤ k) : slices_ContainsFunc_string_string_mask_Parse_1.f k [aB] = some false := LeO.iter (fun k => slices_ContainsFunc_string_string_mask_Parse_1.mono _ k) hk (by decide +kernel)
theorem chk_a (k : Nat) (hk : 8 ≤ k) : mask_Check_1.f k [aB] = some false := LeO.iter (fun k => mask_Check_1.mono _ k) hk (by decide +kernel)
theorem rdL_rep (x : List ByteArray) (n i : Nat) (h : i < n) : rd_L6 (List.replicate n x) (i : Int) = x := by
  unfold rd_L6
  rw [Int.toNat_natCast, List.getD_eq_getElem?_getD, List.getElem?_eq_getElem (by rw [List.length_replicate]; exact h), Option.getD_some, List.getElem_replicate]
theorem index_loop (n : Nat) (hn : n < 1000) : ∀ (d : Nat) (i : Nat), i + d = n → ∀ k, d + 9 ≤ k → slices_IndexFunc_string_string_mask_Check_1.l0 k (List.replicate n [aB]) (n : Int) (i : Int) = some (-1)
  | 0, i, hi, k + 1, hk => by
    rw [slices_IndexFunc_string_string_mask_Check_1.l0, if_neg (by omega)]
  | d + 1, i, hi, k + 1, hk => by
    rw [slices_IndexFunc_string_string_mask_Check_1.l0, if_pos (by omega), if_pos (by omega), if_pos (by rw [List.length_replicate]; omega), rdL_rep _ _ _ (by omega), chk_a k (by omega), Option.bind_some, if_neg (by decide), wrap_succ i (n + 1) (by omega)]
    exact index_loop n hn d (i + 1) (by omega) k (by omega)
theorem check_mask (n k : Nat) (hn : n < 1000) (hk : n + 10 ≤ k) : mask_Check.f k (List.replicate n [aB]) = some (decide (n ≤ 60)) := by
  unfold mask_Check.f
  rw [List.length_replicate]
  by_cases h : n ≤ 60
  · rw [if_pos (by omega)]
    unfold slices_ContainsFunc_string_string_mask_Check_1.f slices_IndexFunc_string_string_mask_Check_1.f
    rw [List.length_replicate]
    have := index_loop n hn n 0 (by omega) k (by omega)
    rw [show ((0 : Nat) : Int) = 0 from rfl] at this
    rw [this, decide_eq_true h]
    rfl
  · rw [if_neg (by omega), decide_eq_false h]
theorem mask_loop (n : Nat) (hn : n < 1000) : ∀ (d : Nat) (i : Nat), i + d = n → ∀ k, d + n + 12 ≤ k → mask_Parse.l0 k (List.replicate i [aB]) (List.replicate n aB) (n : Int) (i : Int) = if 60 < n then some ([], 4) else some (List.replicate n [aB], 0)
  | 0, i, hi, k + 1, hk => by
    obtain rfl : i = n := by omega
    rw [mask_Parse.l0, if_neg (by omega), check_mask i k hn (by omega), Option.bind_some]
    by_cases h : 60 < i
    · rw [if_neg (by rw [decide_eq_false (by omega)]; decide), if_pos h]
    · rw [if_pos (decide_eq_true (by omega)), if_neg h]
  | d + 1, i, hi, k + 1, hk => by
    rw [mask_Parse.l0, if_pos (by omega), if_pos (by omega), if_pos (by rw [List.length_replicate]; omega), rd_rep _ _ _ _ (by omega), split_a, Option.bind_some, has_a k (by omega), Option.bind_some, if_neg (by decide), if_pos (by rw [List.length_replicate]; omega), wrap_succ i n (by omega), ← List.replicate_succ']
    exact mask_loop n hn d (i + 1) (by omega) k (by omega)
theorem parse_mask (n k : Nat) (hn : n < 1000) (hk : 2 * n + 14 ≤ k) : mask_Parse.f k (maskT n) = if 60 < n then some ([], 4) else some (List.replicate n [aB], 0) := by
  cases n with
  | zero => unfold mask_Parse.f; rw [if_pos (by rw [Lib.toList_data]; rfl)]; rfl
  | succ m =>
    have hne : ¬ (maskT (m + 1)).toList = ([] : List UInt8) := by rw [Lib.toList_data, maskT_data]; cases m <;> simp [qL]
    have hs := split_of 44 (by decide) (maskT (m + 1)) m (maskT_data m) (by have := maskT_size (m + 1); omega)
    unfold mask_Parse.f
    rw [if_neg hne, hs, Option.bind_some, List.length_replicate]
    exact mask_loop (m + 1) hn (m + 1) 0 (by omega) k (by omega)
end Go.Proofs.YtondpnipoogoiaaDoor.X
/- What wire.Read answers of the values that WireLimits builds. -/
namespace Go.Proofs.YtondpnipoogoiaaDoor.X
open Go.RowKit Go.Proofs.YtondpnipoogoiaaDoorW.PrintWords Go.Proofs.YtondpnipoogoiaaDoorW.PrintLast Go.Proofs.YtondpnipoogoiaaDoorW.PrintMore
set_option linter.unusedVariables false
set_option linter.unusedSimpArgs false
set_option maxRecDepth 100000
def opB : ByteArray := ⟨#[111, 112]⟩
def pathB : ByteArray := ⟨#[112, 97, 116, 104]⟩
def maskB : ByteArray := ⟨#[109, 97, 115, 107]⟩
def valueB : ByteArray := ⟨#[118, 97, 108, 117, 101]⟩
def removeB : ByteArray := ⟨#[114, 101, 109, 111, 118, 101]⟩
theorem text_ok (s : ByteArray) (h : s.size ≤ 2000) (hv : utf_Valid.f s = some true) : tree_text.f s = some true := by
  unfold tree_text.f
  rw [if_pos (by omega), hv]
  rfl
theorem own4 (k : Nat) (s : ByteArray) (h : tree_text.f s = some true) : tree_own.f (k + 1) 4 false false [] 0 s [] [] = some true := by
  simp [tree_own.f, tree_own.j0, h]
theorem own1 (k : Nat) : tree_own.f (k + 1) 1 false false [] 0 ⟨#[]⟩ [] [] = some true := by
  simp [tree_own.f, tree_own.j0, Lib.toList_data]
theorem own6 (k : Nat) (l : List S29) (h : l.length ≤ 300) : tree_own.f (k + 1) 6 false false [] 0 ⟨#[]⟩ [] l = some true := by
  simp [tree_own.f, tree_own.j0, Lib.toList_data, h]
  omega
theorem own7 (k : Nat) (K : List ByteArray) (l : List S29) (hk : tree_names.f k K = some true) (hl : K.length = l.length) (h : l.length ≤ 300) : tree_own.f (k + 1) 7 false false [] 0 ⟨#[]⟩ K l = some true := by
  simp [tree_own.f, tree_own.j0, Lib.toList_data, hk, hl, h]
  omega
theorem names_op (k : Nat) (h : 5 ≤ k) : tree_names.f k [opB, pathB] = some true := LeO.iter (fun k => tree_names.mono _ k) h (by decide +kernel)
theorem names_mv (k : Nat) (h : 5 ≤ k) : tree_names.f k [maskB, valueB] = some true := LeO.iter (fun k => tree_names.mono _ k) h (by decide +kernel)
theorem chk_own (k : Nat) (t : S29) (d l : Int) (hd : 0 ≤ d) (hd2 : d ≤ 64) (hl : 1 ≤ l) (hl2 : l ≤ 2000) (ho : tree_own.f k t.f0 t.f1 t.f2.f0 t.f2.f1 t.f2.f2 t.f3 t.f4 t.f5 = some true) :
    chk (k + 1) t d l = chkItems (fun v l => chk k v (d + 1) l) t.f5 (l - 1) := by
  rw [chk, if_pos ⟨hd, by omega, hl2⟩, if_neg (by omega), if_neg (by omega), ho, Option.bind_some, if_pos rfl]
theorem chk_text (k : Nat) (s : ByteArray) (d l : Int) (hd : 0 ≤ d) (hd2 : d ≤ 64) (hl : 1 ≤ l) (hl2 : l ≤ 2000) (h : tree_text.f s = some true) : chk (k + 2) (txT s) d l = some (true, l - 1) := by
  rw [chk_own (k + 1) (txT s) d l hd hd2 hl hl2 (own4 k s h)]
  rfl
theorem chk_null (k : Nat) (d l : Int) (hd : 0 ≤ d) (hd2 : d ≤ 64) (hl : 1 ≤ l) (hl2 : l ≤ 2000) : chk (k + 2) nullT d l = some (true, l - 1) := by
  rw [chk_own (k + 1) nullT d l hd hd2 hl hl2 (own1 k)]
  rfl
theorem rem_ok : tree_text.f removeB = some true := by decide +kernel
theorem chk_op (k : Nat) (s : ByteArray) (d l : Int) (hd : 0 ≤ d) (hd2 : d ≤ 60) (hl : 3 ≤ l) (hl2 : l ≤ 2000) (h : tree_text.f s = some true) : chk (k + 10) (opT s) d l = some (true, l - 3) := by
  rw [chk_own (k + 9) (opT s) d l hd (by omega) (by omega) hl2 (own7 (k + 8) [opB, pathB] [txT removeB, txT s] (names_op _ (by omega)) rfl (by simp))]
  show chkItems _ [txT removeB, txT s] (l - 1) = _
  rw [chkItems, chk_text (k + 7) removeB _ _ (by omega) (by omega) (by omega) (by omega) rem_ok, Option.bind_some, if_pos rfl, chkItems, chk_text (k + 7) s _ _ (by omega) (by omega) (by omega) (by omega) h, Option.bind_some, if_pos rfl, chkItems]
  congr 2
  show l - 1 - 1 - 1 = _
  omega
theorem chk_ops (k : Nat) (d : Int) (hd : 0 ≤ d) (hd2 : d ≤ 60) : ∀ (o : Nat) (l : Int), 3 * (o : Int) + 1 ≤ l → l ≤ 2000 → chkItems (fun v l => chk (k + 10) v d l) (List.replicate o remT) l = some (true, l - 3 * o)
  | 0, l, _, _ => by rw [List.replicate, chkItems]; congr 2; omega
  | o + 1, l, h1, h2 => by
    rw [List.replicate_succ, chkItems, show remT = opT ⟨#[]⟩ from rfl, chk_op k ⟨#[]⟩ d l hd hd2 (by omega) h2 (by decide +kernel), Option.bind_some, if_pos rfl, ← show remT = opT ⟨#[]⟩ from rfl]
    rw [chk_ops k d hd hd2 o (l - 3) (by omega) (by omega)]
    congr 2
    omega
theorem tcheck_ops (o : Nat) (ho : o ≤ 100) : tree_Check.f 400 6 false false [] 0 ⟨#[]⟩ [] (List.replicate o remT) = some true := by
  unfold tree_Check.f
  rw [chk_own 399 (⟨6, false, ⟨false, [], 0⟩, ⟨#[]⟩, [], List.replicate o remT⟩ : S29) 1 2000 (by decide) (by decide) (by decide) (by decide) (own6 398 _ (by rw [List.length_replicate]; omega))]
  show Option.map _ (chkItems (fun v l => chk (389 + 10) v (1 + 1) l) (List.replicate o remT) (2000 - 1)) = _
  rw [chk_ops 389 (1 + 1) (by decide) (by decide) o _ (by omega) (by decide)]
  rfl
theorem tcheck_op (s : ByteArray) (h : tree_text.f s = some true) : tree_Check.f 400 6 false false [] 0 ⟨#[]⟩ [] [opT s] = some true := by
  unfold tree_Check.f
  rw [chk_own 399 (⟨6, false, ⟨false, [], 0⟩, ⟨#[]⟩, [], [opT s]⟩ : S29) 1 2000 (by decide) (by decide) (by decide) (by decide) (own6 398 _ (by simp))]
  show Option.map _ (chkItems (fun v l => chk (389 + 10) v (1 + 1) l) [opT s] (2000 - 1)) = _
  rw [chkItems, chk_op 389 s _ _ (by decide) (by decide) (by decide) (by decide) h, Option.bind_some, if_pos rfl, chkItems]
  rfl
theorem tcheck_mask (s : ByteArray) (h : tree_text.f s = some true) : tree_Check.f 400 7 false false [] 0 ⟨#[]⟩ [maskB, valueB] [txT s, nullT] = some true := by
  unfold tree_Check.f
  rw [chk_own 399 (⟨7, false, ⟨false, [], 0⟩, ⟨#[]⟩, [maskB, valueB], [txT s, nullT]⟩ : S29) 1 2000 (by decide) (by decide) (by decide) (by decide) (own7 398 _ _ (names_mv _ (by omega)) rfl (by simp))]
  show Option.map _ (chkItems (fun v l => chk (397 + 2) v (1 + 1) l) [txT s, nullT] (2000 - 1)) = _
  rw [chkItems, chk_text 397 s _ _ (by decide) (by decide) (by decide) (by decide) h, Option.bind_some, if_pos rfl, chkItems, chk_null 397 _ _ (by decide) (by decide) (by decide) (by decide), Option.bind_some, if_pos rfl, chkItems]
  rfl
theorem mem_op (s : ByteArray) : wire_member.f 400 7 false false [] 0 ⟨#[]⟩ [opB, pathB] [txT removeB, txT s] opB = some (false, 0, removeB) := by kernel_rfl
theorem mem_path (s : ByteArray) : wire_member.f 400 7 false false [] 0 ⟨#[]⟩ [opB, pathB] [txT removeB, txT s] pathB = some (false, 0, s) := by kernel_rfl
theorem exact_d (s : ByteArray) : wire_exactly.f 400 7 false false [] 0 ⟨#[]⟩ [opB, pathB] [txT removeB, txT s] exD = some (false, 0) := by kernel_rfl
theorem index_rem : slices_Index_string_string.f 400 wordsL removeB = some 1 := by decide +kernel
theorem path_of (s : ByteArray) (l : List ByteArray) (e : Int) (h : pointer_Parse.f 400 s = some (l, e)) : wire_path.f 400 7 false false [] 0 ⟨#[]⟩ [opB, pathB] [txT removeB, txT s] pathB = if e = 0 then some (false, 0, l) else some (true, e, []) := by
  unfold wire_path.f
  rw [mem_path, Option.bind_some, if_neg Bool.false_ne_true, h, Option.bind_some]
  by_cases he : e = 0
  · subst he; rfl
  · rw [if_neg he]
    have : (e == 0) = false := by simpa using he
    simp [wire_must.f, this]
def opR (l : List ByteArray) : S39 := ⟨2, l, [], z29⟩
theorem oper_of (s : ByteArray) (l : List ByteArray) (e : Int) (h : pointer_Parse.f 400 s = some (l, e)) :
    oper.f 400 7 false false [] 0 ⟨#[]⟩ [opB, pathB] [txT removeB, txT s] = if e = 0 then some (false, 0, opR l) else some (true, e, z39) := by
  unfold oper.f
  rw [if_pos rfl]
  show (wire_member.f 400 7 false false [] 0 ⟨#[]⟩ [opB, pathB] [txT removeB, txT s] opB).bind _ = _
  rw [mem_op, Option.bind_some, if_neg Bool.false_ne_true, index_rem, Option.bind_some]
  show (if wrap64 (1 + 1) > 0 then oper.g 400 7 false false [] 0 ⟨#[]⟩ [opB, pathB] [txT removeB, txT s] (wrap64 (1 + 1)) else _) = _
  rw [show wrap64 (1 + 1) = 2 from by decide +kernel, if_pos (by decide)]
  unfold oper.g wayF
  rw [show wire_from.f 2 = some false from by decide +kernel, Option.bind_some, if_neg Bool.false_ne_true, show wire_value.f 2 = some false from by decide +kernel, Option.bind_some, if_neg Bool.false_ne_true, exact_d, Option.bind_some, Option.bind_some, if_neg Bool.false_ne_true]
  show (wire_path.f 400 7 false false [] 0 ⟨#[]⟩ [opB, pathB] [txT removeB, txT s] pathB).bind _ = _
  rw [path_of s l e h]
  by_cases he : e = 0
  · rw [if_pos he, if_pos he, Option.bind_some, if_neg Bool.false_ne_true, Option.bind_some, if_neg Bool.false_ne_true]
    rfl
  · rw [if_neg he, if_neg he, Option.bind_some, if_pos rfl]
theorem opsF_rep : ∀ (o : Nat) (acc : List S39), opsF 400 (List.replicate o remT) acc = some (false, 0, acc ++ List.replicate o (opR []))
  | 0, acc => by simp [opsF]
  | o + 1, acc => by
    rw [List.replicate_succ, opsF]
    show (oper.f 400 7 false false [] 0 ⟨#[]⟩ [opB, pathB] [txT removeB, txT ⟨#[]⟩]).bind _ = _
    rw [oper_of ⟨#[]⟩ [] 0 (by decide +kernel), if_pos rfl, Option.bind_some, if_neg Bool.false_ne_true, opsF_rep o, List.append_assoc]
    rfl
theorem read_ops (o : Nat) (ho : o ≤ 100) : Read.f 400 1 6 false false [] 0 ⟨#[]⟩ [] (List.replicate o remT) = if 60 < o then some (0, [], z29, [], 4) else some (1, List.replicate o (opR []), z29, [], 0) := by
  unfold Read.f readr.f okF
  rw [if_pos (by decide), if_pos (by decide), tcheck_ops o ho, Option.bind_some, if_pos rfl]
  unfold readr.g
  rw [if_pos rfl, if_pos rfl, List.length_replicate]
  by_cases h : 60 < o
  · rw [if_neg (by omega), if_pos h, Option.bind_some, if_pos rfl]
  · rw [if_pos (by omega), if_neg h, opsF_rep, Option.bind_some, Option.bind_some, if_neg Bool.false_ne_true]
    rfl
theorem read_op (s : ByteArray) (l : List ByteArray) (e : Int) (hs : tree_text.f s = some true) (h : pointer_Parse.f 400 s = some (l, e)) :
    Read.f 400 1 6 false false [] 0 ⟨#[]⟩ [] [opT s] = if e = 0 then some (1, [opR l], z29, [], 0) else some (0, [], z29, [], e) := by
  unfold Read.f readr.f okF
  rw [if_pos (by decide), if_pos (by decide), tcheck_op s hs, Option.bind_some, if_pos rfl]
  unfold readr.g
  rw [if_pos rfl, if_pos rfl, if_pos (by simp), opsF]
  show Option.bind (Option.bind (Option.bind (oper.f 400 7 false false [] 0 ⟨#[]⟩ [opB, pathB] [txT removeB, txT s]) _) _) _ = _
  rw [oper_of s l e h]
  by_cases he : e = 0
  · rw [if_pos he, if_pos he, Option.bind_some, if_neg Bool.false_ne_true, opsF, Option.bind_some, Option.bind_some, if_neg Bool.false_ne_true]
    rfl
  · rw [if_neg he, if_neg he, Option.bind_some, if_pos rfl, Option.bind_some, Option.bind_some, if_pos rfl]
theorem exact_m (s : ByteArray) : wire_exactly.f 400 7 false false [] 0 ⟨#[]⟩ [maskB, valueB] [txT s, nullT] exM = some (false, 0) := by kernel_rfl
theorem mem_mask (s : ByteArray) : wire_member.f 400 7 false false [] 0 ⟨#[]⟩ [maskB, valueB] [txT s, nullT] maskB = some (false, 0, s) := by kernel_rfl
theorem mem_value (s : ByteArray) : tree_Member.f 400 7 false false [] 0 ⟨#[]⟩ [maskB, valueB] [txT s, nullT] valueB = some (1, false, false, [], 0, ⟨#[]⟩, [], [], true) := by kernel_rfl
theorem read_mask (s : ByteArray) (l : List (List ByteArray)) (e : Int) (hs : tree_text.f s = some true) (h : mask_Parse.f 400 s = some (l, e)) :
    Read.f 400 3 7 false false [] 0 ⟨#[]⟩ [maskB, valueB] [txT s, nullT] = if e = 0 then some (3, [], nullT, l, 0) else some (0, [], z29, [], e) := by
  unfold Read.f readr.f okF
  rw [if_pos (by decide), if_pos (by decide), tcheck_mask s hs, Option.bind_some, if_pos rfl]
  unfold readr.g
  rw [if_neg (by decide), if_pos rfl, exact_m, Option.bind_some, if_neg Bool.false_ne_true]
  show Option.bind (Option.bind (wire_member.f 400 7 false false [] 0 ⟨#[]⟩ [maskB, valueB] [txT s, nullT] maskB) _) _ = _
  rw [mem_mask, Option.bind_some, if_neg Bool.false_ne_true, h, Option.bind_some]
  by_cases he : e = 0
  · rw [if_pos he, if_pos he]
    show Option.bind (Option.bind (tree_Member.f 400 7 false false [] 0 ⟨#[]⟩ [maskB, valueB] [txT s, nullT] valueB) _) _ = _
    rw [mem_value, Option.bind_some, Option.bind_some, if_neg Bool.false_ne_true]
    rfl
  · rw [if_neg he, if_neg he, Option.bind_some, if_pos rfl]
end Go.Proofs.YtondpnipoogoiaaDoor.X
-- A walk, written by a program of this session (xp.py).
namespace Go.Proofs.YtondpnipoogoiaaDoor.X
open Go.RowKit Go.Proofs.YtondpnipoogoiaaDoorW.PrintWords Go.Proofs.YtondpnipoogoiaaDoorW.PrintLast Go.Proofs.YtondpnipoogoiaaDoorW.PrintMore
attribute [local go_sem] max2_int min2_int max_two min_two max_three min_three max_four min_four
set_option linter.unusedVariables false
set_option linter.unusedSimpArgs false

/-! ### wire_zero: function 18 -/
def wire_zero.f (a0_0 : Int) (a0_1 : Bool) (a0_2 : Bool) (l0_3 : List Int) (a0_4 : Int) (a0_5 : ByteArray) (l0_6 : List ByteArray) (l0_7 : List (S29)) : Option (Bool) := if a0_0 = 0 then (if a0_1 = true then (some false) else (if a0_2 = true then (some false) else (if (l0_3.length : Int) = 0 then (if a0_4 = 0 then (if a0_5.toList = ([] : List UInt8) then (if (l0_6.length : Int) = 0 then (some ((l0_7.length : Int) == 0)) else (some false)) else (some false)) else (some false)) else (some false)))) else (some false)
set_option maxHeartbeats 8000000 in
set_option maxRecDepth 100000 in
theorem wire_zero.calls (a0_0 : Int) (a0_1 : Bool) (a0_2 : Bool) (A0_3 : Option Addr) (c0_3 : Nat) (l0_3 : List Int) (a0_4 : Int) (a0_5 : ByteArray) (A0_6 : Option Addr) (c0_6 : Nat) (l0_6 : List ByteArray) (A0_7 : Option Addr) (c0_7 : Nat) (l0_7 : List (S29)) (r : Bool) (w : World) (hr0_3 : Kd.C (Kd.int .u32) w A0_3 l0_3.length l0_3) (hc0_3 : l0_3.length ≤ c0_3) (hr0_6 : Kd.C Kd.string w A0_6 l0_6.length l0_6) (hc0_6 : l0_6.length ≤ c0_6) (hr0_7 : Kd.C k29 w A0_7 l0_7.length l0_7) (hc0_7 : l0_7.length ≤ c0_7) (h : wire_zero.f a0_0 a0_1 a0_2 l0_3 a0_4 a0_5 l0_6 l0_7 = some r) :
    Calls Tryd.prog 18 #[.agg #[.int .i64 a0_0, .bool a0_1, .bool a0_2, .slice A0_3 l0_3.length c0_3, .int .i64 a0_4, .string a0_5, .slice A0_6 l0_6.length c0_6, .slice A0_7 l0_7.length c0_7]] w fun e w' => e = .returned (.bool r) ∧ Below w.heap.size w w' := by
  have hu29 := Tryd.underlying29
  have HR0_3 := Aside0.mk hr0_3
  have HC0_3 := Aside0.mk hc0_3
  clear hr0_3 hc0_3
  have HR0_6 := Aside0.mk hr0_6
  have HC0_6 := Aside0.mk hc0_6
  clear hr0_6 hc0_6
  have HR0_7 := Aside0.mk hr0_7
  have HC0_7 := Aside0.mk hc0_7
  clear hr0_7 hc0_7
  have HB := Aside0.mk (Below.refl w.heap.size w)
  have H : (if a0_0 = 0 then (if a0_1 = true then (some false) else (if a0_2 = true then (some false) else (if (l0_3.length : Int) = 0 then (if a0_4 = 0 then (if a0_5.toList = ([] : List UInt8) then (if (l0_6.length : Int) = 0 then (some ((l0_7.length : Int) == 0)) else (some false)) else (some false)) else (some false)) else (some false)))) else (some false)) = some r := h
  clear h
  by_cases c2 : a0_0 = 0
  · rw [if_pos c2] at H
    have c2b0 : (a0_0 == 0) = true := beq_iff_eq.mpr c2
    have c2b1 : (a0_0 != 0) = false := bne_eq_false_iff_eq.mpr c2
    clear c2
    by_cases c3 : a0_1 = true
    · subst c3
      have H1 : (some false) = some r := by rw [if_pos rfl] at H; exact H
      clear H
      have H := H1
      clear H1
      obtain rfl := Option.some.inj H
      go_enter Tryd.func18, Tryd.ntmps18
      go_wp2_with (first | ((with_reducible refine gate_dst (N := 1) rfl ?_); (try (refine gate_guard (by rfl) ?_; dsimp only)); refine box_event ?hg (N := 1) ?hd (cs := #[.int .i64 a0_0, .bool true, .bool a0_2, .slice A0_3 l0_3.length c0_3, .int .i64 a0_4, .string a0_5, .slice A0_6 l0_6.length c0_6, .slice A0_7 l0_7.length c0_7]) (t := 29) ?hr ?_; (case hd => rfl); (case hg => rfl); (case hr => first | (go_simp; done) | (go_simp; rfl) | (go_simp; simp only [x_u32u8, x_u8, x_u32, x_u64, x_mm]; first | done | rfl)); intro gb350 hg w4 hbox hb; have n0_ := Aside0.mk (below_step (by repeat (first | (with_reducible first | exact HB.out | apply below_alloc | apply pw_below_drewN | apply below_drew1) | exact HB.out)) hb); have n1_ := Aside0.mk (hbox); have n2_ := Aside0.mk ((by rw [hg]; exact (below_size (by repeat (first | (with_reducible first | exact HB.out | apply below_alloc | apply pw_below_drewN | apply below_drew1) | exact HB.out))) : w.heap.size ≤ gb350)); have n3_ := Aside0.mk ((by rw [hg]; exact (below_size (by repeat (first | (with_reducible first | exact HB.out | apply below_alloc | apply pw_below_drewN | apply below_drew1) | exact HB.out))) : w.heap.size ≤ gb350)); clear HB; have HB := n0_; have BK350 := n1_; have GW350 := n2_; have GE350 := n3_; clear n0_ n1_ n2_ n3_; clear hb hbox hg; have hcz5_0 : w4.cell? ⟨gb350, 0, none⟩ = some (.int .i64 a0_0) := (blk_cell BK350.out 0).trans rfl; have hcz5_1 : w4.cell? ⟨gb350, 1, none⟩ = some (.bool true) := (blk_cell BK350.out 1).trans rfl; have hcz5_2 : w4.cell? ⟨gb350, 2, none⟩ = some (.bool a0_2) := (blk_cell BK350.out 2).trans rfl; have hcz5_3 : w4.cell? ⟨gb350, 3, none⟩ = some (.slice A0_3 l0_3.length c0_3) := (blk_cell BK350.out 3).trans rfl; have hcz5_4 : w4.cell? ⟨gb350, 4, none⟩ = some (.int .i64 a0_4) := (blk_cell BK350.out 4).trans rfl; have hcz5_5 : w4.cell? ⟨gb350, 5, none⟩ = some (.string a0_5) := (blk_cell BK350.out 5).trans rfl; have hcz5_6 : w4.cell? ⟨gb350, 6, none⟩ = some (.slice A0_6 l0_6.length c0_6) := (blk_cell BK350.out 6).trans rfl; have hcz5_7 : w4.cell? ⟨gb350, 7, none⟩ = some (.slice A0_7 l0_7.length c0_7) := (blk_cell BK350.out 7).trans rfl; have hfz5_0 := blk_frozen BK350.out 0; have hfz5_1 := blk_frozen BK350.out 1; have hfz5_2 := blk_frozen BK350.out 2; have hfz5_3 := blk_frozen BK350.out 3; have hfz5_4 := blk_frozen BK350.out 4; have hfz5_5 := blk_frozen BK350.out 5; have hfz5_6 := blk_frozen BK350.out 6; have hfz5_7 := blk_frozen BK350.out 7))
      go_ret
      exact ⟨by first | rfl | (simp [errW_none, errW_some] <;> rfl) | (simp [*, errW_none, errW_some] <;> rfl), by repeat (first | (with_reducible first | exact HB.out | apply below_alloc | apply pw_below_drewN | apply below_drew1 | refine below_set ?_ GE350.out) | exact HB.out)⟩
    · replace c3 := Bool.eq_false_iff.mpr c3
      subst c3
      have H1 : (if a0_2 = true then (some false) else (if (l0_3.length : Int) = 0 then (if a0_4 = 0 then (if a0_5.toList = ([] : List UInt8) then (if (l0_6.length : Int) = 0 then (some ((l0_7.length : Int) == 0)) else (some false)) else (some false)) else (some false)) else (some false))) = some r := by rw [if_neg (show ¬ (false = true) by decide)] at H; exact H
      clear H
      have H := H1
      clear H1
      by_cases c6 : a0_2 = true
      · subst c6
        have H1 : (some false) = some r := by rw [if_pos rfl] at H; exact H
        clear H
        have H := H1
        clear H1
        obtain rfl := Option.some.inj H
        go_enter Tryd.func18, Tryd.ntmps18
        go_wp2_with (first | ((with_reducible refine gate_dst (N := 1) rfl ?_); (try (refine gate_guard (by rfl) ?_; dsimp only)); refine box_event ?hg (N := 1) ?hd (cs := #[.int .i64 a0_0, .bool false, .bool true, .slice A0_3 l0_3.length c0_3, .int .i64 a0_4, .string a0_5, .slice A0_6 l0_6.length c0_6, .slice A0_7 l0_7.length c0_7]) (t := 29) ?hr ?_; (case hd => rfl); (case hg => rfl); (case hr => first | (go_simp; done) | (go_simp; rfl) | (go_simp; simp only [x_u32u8, x_u8, x_u32, x_u64, x_mm]; first | done | rfl)); intro gb350 hg w7 hbox hb; have n0_ := Aside0.mk (below_step (by repeat (first | (with_reducible first | exact HB.out | apply below_alloc | apply pw_below_drewN | apply below_drew1) | exact HB.out)) hb); have n1_ := Aside0.mk (hbox); have n2_ := Aside0.mk ((by rw [hg]; exact (below_size (by repeat (first | (with_reducible first | exact HB.out | apply below_alloc | apply pw_below_drewN | apply below_drew1) | exact HB.out))) : w.heap.size ≤ gb350)); have n3_ := Aside0.mk ((by rw [hg]; exact (below_size (by repeat (first | (with_reducible first | exact HB.out | apply below_alloc | apply pw_below_drewN | apply below_drew1) | exact HB.out))) : w.heap.size ≤ gb350)); clear HB; have HB := n0_; have BK350 := n1_; have GW350 := n2_; have GE350 := n3_; clear n0_ n1_ n2_ n3_; clear hb hbox hg; have hcz8_0 : w7.cell? ⟨gb350, 0, none⟩ = some (.int .i64 a0_0) := (blk_cell BK350.out 0).trans rfl; have hcz8_1 : w7.cell? ⟨gb350, 1, none⟩ = some (.bool false) := (blk_cell BK350.out 1).trans rfl; have hcz8_2 : w7.cell? ⟨gb350, 2, none⟩ = some (.bool true) := (blk_cell BK350.out 2).trans rfl; have hcz8_3 : w7.cell? ⟨gb350, 3, none⟩ = some (.slice A0_3 l0_3.length c0_3) := (blk_cell BK350.out 3).trans rfl; have hcz8_4 : w7.cell? ⟨gb350, 4, none⟩ = some (.int .i64 a0_4) := (blk_cell BK350.out 4).trans rfl; have hcz8_5 : w7.cell? ⟨gb350, 5, none⟩ = some (.string a0_5) := (blk_cell BK350.out 5).trans rfl; have hcz8_6 : w7.cell? ⟨gb350, 6, none⟩ = some (.slice A0_6 l0_6.length c0_6) := (blk_cell BK350.out 6).trans rfl; have hcz8_7 : w7.cell? ⟨gb350, 7, none⟩ = some (.slice A0_7 l0_7.length c0_7) := (blk_cell BK350.out 7).trans rfl; have hfz8_0 := blk_frozen BK350.out 0; have hfz8_1 := blk_frozen BK350.out 1; have hfz8_2 := blk_frozen BK350.out 2; have hfz8_3 := blk_frozen BK350.out 3; have hfz8_4 := blk_frozen BK350.out 4; have hfz8_5 := blk_frozen BK350.out 5; have hfz8_6 := blk_frozen BK350.out 6; have hfz8_7 := blk_frozen BK350.out 7))
        go_ret
        exact ⟨by first | rfl | (simp [errW_none, errW_some] <;> rfl) | (simp [*, errW_none, errW_some] <;> rfl), by repeat (first | (with_reducible first | exact HB.out | apply below_alloc | apply pw_below_drewN | apply below_drew1 | refine below_set ?_ GE350.out) | exact HB.out)⟩
      · replace c6 := Bool.eq_false_iff.mpr c6
        subst c6
        have H1 : (if (l0_3.length : Int) = 0 then (if a0_4 = 0 then (if a0_5.toList = ([] : List UInt8) then (if (l0_6.length : Int) = 0 then (some ((l0_7.length : Int) == 0)) else (some false)) else (some false)) else (some false)) else (some false)) = some r := by rw [if_neg (show ¬ (false = true) by decide)] at H; exact H
        clear H
        have H := H1
        clear H1
        by_cases c9 : (l0_3.length : Int) = 0
        · rw [if_pos c9] at H
          have c9b0 : ((l0_3.length : Int) == 0) = true := beq_iff_eq.mpr c9
          have c9b1 : ((l0_3.length : Int) != 0) = false := bne_eq_false_iff_eq.mpr c9
          clear c9
          by_cases c10 : a0_4 = 0
          · rw [if_pos c10] at H
            have c10b0 : (a0_4 == 0) = true := beq_iff_eq.mpr c10
            have c10b1 : (a0_4 != 0) = false := bne_eq_false_iff_eq.mpr c10
            clear c10
            by_cases c11 : a0_5.toList = ([] : List UInt8)
            · rw [if_pos c11] at H
              have c11b0 : (a0_5.toList == ([] : List UInt8)) = true := beq_iff_eq.mpr c11
              have c11b1 : (a0_5.toList != ([] : List UInt8)) = false := bne_eq_false_iff_eq.mpr c11
              clear c11
              by_cases c12 : (l0_6.length : Int) = 0
              · rw [if_pos c12] at H
                have c12b0 : ((l0_6.length : Int) == 0) = true := beq_iff_eq.mpr c12
                have c12b1 : ((l0_6.length : Int) != 0) = false := bne_eq_false_iff_eq.mpr c12
                clear c12
                obtain rfl := Option.some.inj H
                go_enter Tryd.func18, Tryd.ntmps18
                go_wp2_with (first | ((with_reducible refine gate_dst (N := 1) rfl ?_); (try (refine gate_guard (by rfl) ?_; dsimp only)); refine box_event ?hg (N := 1) ?hd (cs := #[.int .i64 a0_0, .bool false, .bool false, .slice A0_3 l0_3.length c0_3, .int .i64 a0_4, .string a0_5, .slice A0_6 l0_6.length c0_6, .slice A0_7 l0_7.length c0_7]) (t := 29) ?hr ?_; (case hd => rfl); (case hg => rfl); (case hr => first | (go_simp; done) | (go_simp; rfl) | (go_simp; simp only [x_u32u8, x_u8, x_u32, x_u64, x_mm]; first | done | rfl)); intro gb350 hg w13 hbox hb; have n0_ := Aside0.mk (below_step (by repeat (first | (with_reducible first | exact HB.out | apply below_alloc | apply pw_below_drewN | apply below_drew1) | exact HB.out)) hb); have n1_ := Aside0.mk (hbox); have n2_ := Aside0.mk ((by rw [hg]; exact (below_size (by repeat (first | (with_reducible first | exact HB.out | apply below_alloc | apply pw_below_drewN | apply below_drew1) | exact HB.out))) : w.heap.size ≤ gb350)); have n3_ := Aside0.mk ((by rw [hg]; exact (below_size (by repeat (first | (with_reducible first | exact HB.out | apply below_alloc | apply pw_below_drewN | apply below_drew1) | exact HB.out))) : w.heap.size ≤ gb350)); clear HB; have HB := n0_; have BK350 := n1_; have GW350 := n2_; have GE350 := n3_; clear n0_ n1_ n2_ n3_; clear hb hbox hg; have hcz14_0 : w13.cell? ⟨gb350, 0, none⟩ = some (.int .i64 a0_0) := (blk_cell BK350.out 0).trans rfl; have hcz14_1 : w13.cell? ⟨gb350, 1, none⟩ = some (.bool false) := (blk_cell BK350.out 1).trans rfl; have hcz14_2 : w13.cell? ⟨gb350, 2, none⟩ = some (.bool false) := (blk_cell BK350.out 2).trans rfl; have hcz14_3 : w13.cell? ⟨gb350, 3, none⟩ = some (.slice A0_3 l0_3.length c0_3) := (blk_cell BK350.out 3).trans rfl; have hcz14_4 : w13.cell? ⟨gb350, 4, none⟩ = some (.int .i64 a0_4) := (blk_cell BK350.out 4).trans rfl; have hcz14_5 : w13.cell? ⟨gb350, 5, none⟩ = some (.string a0_5) := (blk_cell BK350.out 5).trans rfl; have hcz14_6 : w13.cell? ⟨gb350, 6, none⟩ = some (.slice A0_6 l0_6.length c0_6) := (blk_cell BK350.out 6).trans rfl; have hcz14_7 : w13.cell? ⟨gb350, 7, none⟩ = some (.slice A0_7 l0_7.length c0_7) := (blk_cell BK350.out 7).trans rfl; have hfz14_0 := blk_frozen BK350.out 0; have hfz14_1 := blk_frozen BK350.out 1; have hfz14_2 := blk_frozen BK350.out 2; have hfz14_3 := blk_frozen BK350.out 3; have hfz14_4 := blk_frozen BK350.out 4; have hfz14_5 := blk_frozen BK350.out 5; have hfz14_6 := blk_frozen BK350.out 6; have hfz14_7 := blk_frozen BK350.out 7))
                go_ret
                exact ⟨by first | rfl | (simp [errW_none, errW_some] <;> rfl) | (simp [*, errW_none, errW_some] <;> rfl), by repeat (first | (with_reducible first | exact HB.out | apply below_alloc | apply pw_below_drewN | apply below_drew1 | refine below_set ?_ GE350.out) | exact HB.out)⟩
              · rw [if_neg c12] at H
                have c12b0 : ((l0_6.length : Int) == 0) = false := beq_eq_false_iff_ne.mpr c12
                have c12b1 : ((l0_6.length : Int) != 0) = true := bne_iff_ne.mpr c12
                have c12b2 : ¬ (l0_6 = []) := fun h_ => c12 (by rw [h_]; rfl)
                obtain rfl := Option.some.inj H
                go_enter Tryd.func18, Tryd.ntmps18
                go_wp2_with (first | ((with_reducible refine gate_dst (N := 1) rfl ?_); (try (refine gate_guard (by rfl) ?_; dsimp only)); refine box_event ?hg (N := 1) ?hd (cs := #[.int .i64 a0_0, .bool false, .bool false, .slice A0_3 l0_3.length c0_3, .int .i64 a0_4, .string a0_5, .slice A0_6 l0_6.length c0_6, .slice A0_7 l0_7.length c0_7]) (t := 29) ?hr ?_; (case hd => rfl); (case hg => rfl); (case hr => first | (go_simp; done) | (go_simp; rfl) | (go_simp; simp only [x_u32u8, x_u8, x_u32, x_u64, x_mm]; first | done | rfl)); intro gb350 hg w15 hbox hb; have n0_ := Aside0.mk (below_step (by repeat (first | (with_reducible first | exact HB.out | apply below_alloc | apply pw_below_drewN | apply below_drew1) | exact HB.out)) hb); have n1_ := Aside0.mk (hbox); have n2_ := Aside0.mk ((by rw [hg]; exact (below_size (by repeat (first | (with_reducible first | exact HB.out | apply below_alloc | apply pw_below_drewN | apply below_drew1) | exact HB.out))) : w.heap.size ≤ gb350)); have n3_ := Aside0.mk ((by rw [hg]; exact (below_size (by repeat (first | (with_reducible first | exact HB.out | apply below_alloc | apply pw_below_drewN | apply below_drew1) | exact HB.out))) : w.heap.size ≤ gb350)); clear HB; have HB := n0_; have BK350 := n1_; have GW350 := n2_; have GE350 := n3_; clear n0_ n1_ n2_ n3_; clear hb hbox hg; have hcz16_0 : w15.cell? ⟨gb350, 0, none⟩ = some (.int .i64 a0_0) := (blk_cell BK350.out 0).trans rfl; have hcz16_1 : w15.cell? ⟨gb350, 1, none⟩ = some (.bool false) := (blk_cell BK350.out 1).trans rfl; have hcz16_2 : w15.cell? ⟨gb350, 2, none⟩ = some (.bool false) := (blk_cell BK350.out 2).trans rfl; have hcz16_3 : w15.cell? ⟨gb350, 3, none⟩ = some (.slice A0_3 l0_3.length c0_3) := (blk_cell BK350.out 3).trans rfl; have hcz16_4 : w15.cell? ⟨gb350, 4, none⟩ = some (.int .i64 a0_4) := (blk_cell BK350.out 4).trans rfl; have hcz16_5 : w15.cell? ⟨gb350, 5, none⟩ = some (.string a0_5) := (blk_cell BK350.out 5).trans rfl; have hcz16_6 : w15.cell? ⟨gb350, 6, none⟩ = some (.slice A0_6 l0_6.length c0_6) := (blk_cell BK350.out 6).trans rfl; have hcz16_7 : w15.cell? ⟨gb350, 7, none⟩ = some (.slice A0_7 l0_7.length c0_7) := (blk_cell BK350.out 7).trans rfl; have hfz16_0 := blk_frozen BK350.out 0; have hfz16_1 := blk_frozen BK350.out 1; have hfz16_2 := blk_frozen BK350.out 2; have hfz16_3 := blk_frozen BK350.out 3; have hfz16_4 := blk_frozen BK350.out 4; have hfz16_5 := blk_frozen BK350.out 5; have hfz16_6 := blk_frozen BK350.out 6; have hfz16_7 := blk_frozen BK350.out 7))
                go_ret
                exact ⟨by first | rfl | (simp [errW_none, errW_some] <;> rfl) | (simp [*, errW_none, errW_some] <;> rfl), by repeat (first | (with_reducible first | exact HB.out | apply below_alloc | apply pw_below_drewN | apply below_drew1 | refine below_set ?_ GE350.out) | exact HB.out)⟩
            · rw [if_neg c11] at H
              have c11b0 : (a0_5.toList == ([] : List UInt8)) = false := beq_eq_false_iff_ne.mpr c11
              have c11b1 : (a0_5.toList != ([] : List UInt8)) = true := bne_iff_ne.mpr c11
              obtain rfl := Option.some.inj H
              go_enter Tryd.func18, Tryd.ntmps18
              go_wp2_with (first | ((with_reducible refine gate_dst (N := 1) rfl ?_); (try (refine gate_guard (by rfl) ?_; dsimp only)); refine box_event ?hg (N := 1) ?hd (cs := #[.int .i64 a0_0, .bool false, .bool false, .slice A0_3 l0_3.length c0_3, .int .i64 a0_4, .string a0_5, .slice A0_6 l0_6.length c0_6, .slice A0_7 l0_7.length c0_7]) (t := 29) ?hr ?_; (case hd => rfl); (case hg => rfl); (case hr => first | (go_simp; done) | (go_simp; rfl) | (go_simp; simp only [x_u32u8, x_u8, x_u32, x_u64, x_mm]; first | done | rfl)); intro gb350 hg w17 hbox hb; have n0_ := Aside0.mk (below_step (by repeat (first | (with_reducible first | exact HB.out | apply below_alloc | apply pw_below_drewN | apply below_drew1) | exact HB.out)) hb); have n1_ := Aside0.mk (hbox); have n2_ := Aside0.mk ((by rw [hg]; exact (below_size (by repeat (first | (with_reducible first | exact HB.out | apply below_alloc | apply pw_below_drewN | apply below_drew1) | exact HB.out))) : w.heap.size ≤ gb350)); have n3_ := Aside0.mk ((by rw [hg]; exact (below_size (by repeat (first | (with_reducible first | exact HB.out | apply below_alloc | apply pw_below_drewN | apply below_drew1) | exact HB.out))) : w.heap.size ≤ gb350)); clear HB; have HB := n0_; have BK350 := n1_; have GW350 := n2_; have GE350 := n3_; clear n0_ n1_ n2_ n3_; clear hb hbox hg; have hcz18_0 : w17.cell? ⟨gb350, 0, none⟩ = some (.int .i64 a0_0) := (blk_cell BK350.out 0).trans rfl; have hcz18_1 : w17.cell? ⟨gb350, 1, none⟩ = some (.bool false) := (blk_cell BK350.out 1).trans rfl; have hcz18_2 : w17.cell? ⟨gb350, 2, none⟩ = some (.bool false) := (blk_cell BK350.out 2).trans rfl; have hcz18_3 : w17.cell? ⟨gb350, 3, none⟩ = some (.slice A0_3 l0_3.length c0_3) := (blk_cell BK350.out 3).trans rfl; have hcz18_4 : w17.cell? ⟨gb350, 4, none⟩ = some (.int .i64 a0_4) := (blk_cell BK350.out 4).trans rfl; have hcz18_5 : w17.cell? ⟨gb350, 5, none⟩ = some (.string a0_5) := (blk_cell BK350.out 5).trans rfl; have hcz18_6 : w17.cell? ⟨gb350, 6, none⟩ = some (.slice A0_6 l0_6.length c0_6) := (blk_cell BK350.out 6).trans rfl; have hcz18_7 : w17.cell? ⟨gb350, 7, none⟩ = some (.slice A0_7 l0_7.length c0_7) := (blk_cell BK350.out 7).trans rfl; have hfz18_0 := blk_frozen BK350.out 0; have hfz18_1 := blk_frozen BK350.out 1; have hfz18_2 := blk_frozen BK350.out 2; have hfz18_3 := blk_frozen BK350.out 3; have hfz18_4 := blk_frozen BK350.out 4; have hfz18_5 := blk_frozen BK350.out 5; have hfz18_6 := blk_frozen BK350.out 6; have hfz18_7 := blk_frozen BK350.out 7))
              go_ret
              exact ⟨by first | rfl | (simp [errW_none, errW_some] <;> rfl) | (simp [*, errW_none, errW_some] <;> rfl), by repeat (first | (with_reducible first | exact HB.out | apply below_alloc | apply pw_below_drewN | apply below_drew1 | refine below_set ?_ GE350.out) | exact HB.out)⟩
          · rw [if_neg c10] at H
            have c10b0 : (a0_4 == 0) = false := beq_eq_false_iff_ne.mpr c10
            have c10b1 : (a0_4 != 0) = true := bne_iff_ne.mpr c10
            obtain rfl := Option.some.inj H
            go_enter Tryd.func18, Tryd.ntmps18
            go_wp2_with (first | ((with_reducible refine gate_dst (N := 1) rfl ?_); (try (refine gate_guard (by rfl) ?_; dsimp only)); refine box_event ?hg (N := 1) ?hd (cs := #[.int .i64 a0_0, .bool false, .bool false, .slice A0_3 l0_3.length c0_3, .int .i64 a0_4, .string a0_5, .slice A0_6 l0_6.length c0_6, .slice A0_7 l0_7.length c0_7]) (t := 29) ?hr ?_; (case hd => rfl); (case hg => rfl); (case hr => first | (go_simp; done) | (go_simp; rfl) | (go_simp; simp only [x_u32u8, x_u8, x_u32, x_u64, x_mm]; first | done | rfl)); intro gb350 hg w19 hbox hb; have n0_ := Aside0.mk (below_step (by repeat (first | (with_reducible first | exact HB.out | apply below_alloc | apply pw_below_drewN | apply below_drew1) | exact HB.out)) hb); have n1_ := Aside0.mk (hbox); have n2_ := Aside0.mk ((by rw [hg]; exact (below_size (by repeat (first | (with_reducible first | exact HB.out | apply below_alloc | apply pw_below_drewN | apply below_drew1) | exact HB.out))) : w.heap.size ≤ gb350)); have n3_ := Aside0.mk ((by rw [hg]; exact (below_size (by repeat (first | (with_reducible first | exact HB.out | apply below_alloc | apply pw_below_drewN | apply below_drew1) | exact HB.out))) : w.heap.size ≤ gb350)); clear HB; have HB := n0_; have BK350 := n1_; have GW350 := n2_; have GE350 := n3_; clear n0_ n1_ n2_ n3_; clear hb hbox hg; have hcz20_0 : w19.cell? ⟨gb350, 0, none⟩ = some (.int .i64 a0_0) := (blk_cell BK350.out 0).trans rfl; have hcz20_1 : w19.cell? ⟨gb350, 1, none⟩ = some (.bool false) := (blk_cell BK350.out 1).trans rfl; have hcz20_2 : w19.cell? ⟨gb350, 2, none⟩ = some (.bool false) := (blk_cell BK350.out 2).trans rfl; have hcz20_3 : w19.cell? ⟨gb350, 3, none⟩ = some (.slice A0_3 l0_3.length c0_3) := (blk_cell BK350.out 3).trans rfl; have hcz20_4 : w19.cell? ⟨gb350, 4, none⟩ = some (.int .i64 a0_4) := (blk_cell BK350.out 4).trans rfl; have hcz20_5 : w19.cell? ⟨gb350, 5, none⟩ = some (.string a0_5) := (blk_cell BK350.out 5).trans rfl; have hcz20_6 : w19.cell? ⟨gb350, 6, none⟩ = some (.slice A0_6 l0_6.length c0_6) := (blk_cell BK350.out 6).trans rfl; have hcz20_7 : w19.cell? ⟨gb350, 7, none⟩ = some (.slice A0_7 l0_7.length c0_7) := (blk_cell BK350.out 7).trans rfl; have hfz20_0 := blk_frozen BK350.out 0; have hfz20_1 := blk_frozen BK350.out 1; have hfz20_2 := blk_frozen BK350.out 2; have hfz20_3 := blk_frozen BK350.out 3; have hfz20_4 := blk_frozen BK350.out 4; have hfz20_5 := blk_frozen BK350.out 5; have hfz20_6 := blk_frozen BK350.out 6; have hfz20_7 := blk_frozen BK350.out 7))
            go_ret
            exact ⟨by first | rfl | (simp [errW_none, errW_some] <;> rfl) | (simp [*, errW_none, errW_some] <;> rfl), by repeat (first | (with_reducible first | exact HB.out | apply below_alloc | apply pw_below_drewN | apply below_drew1 | refine below_set ?_ GE350.out) | exact HB.out)⟩
        · rw [if_neg c9] at H
          have c9b0 : ((l0_3.length : Int) == 0) = false := beq_eq_false_iff_ne.mpr c9
          have c9b1 : ((l0_3.length : Int) != 0) = true := bne_iff_ne.mpr c9
          have c9b2 : ¬ (l0_3 = []) := fun h_ => c9 (by rw [h_]; rfl)
          obtain rfl := Option.some.inj H
          go_enter Tryd.func18, Tryd.ntmps18
          go_wp2_with (first | ((with_reducible refine gate_dst (N := 1) rfl ?_); (try (refine gate_guard (by rfl) ?_; dsimp only)); refine box_event ?hg (N := 1) ?hd (cs := #[.int .i64 a0_0, .bool false, .bool false, .slice A0_3 l0_3.length c0_3, .int .i64 a0_4, .string a0_5, .slice A0_6 l0_6.length c0_6, .slice A0_7 l0_7.length c0_7]) (t := 29) ?hr ?_; (case hd => rfl); (case hg => rfl); (case hr => first | (go_simp; done) | (go_simp; rfl) | (go_simp; simp only [x_u32u8, x_u8, x_u32, x_u64, x_mm]; first | done | rfl)); intro gb350 hg w21 hbox hb; have n0_ := Aside0.mk (below_step (by repeat (first | (with_reducible first | exact HB.out | apply below_alloc | apply pw_below_drewN | apply below_drew1) | exact HB.out)) hb); have n1_ := Aside0.mk (hbox); have n2_ := Aside0.mk ((by rw [hg]; exact (below_size (by repeat (first | (with_reducible first | exact HB.out | apply below_alloc | apply pw_below_drewN | apply below_drew1) | exact HB.out))) : w.heap.size ≤ gb350)); have n3_ := Aside0.mk ((by rw [hg]; exact (below_size (by repeat (first | (with_reducible first | exact HB.out | apply below_alloc | apply pw_below_drewN | apply below_drew1) | exact HB.out))) : w.heap.size ≤ gb350)); clear HB; have HB := n0_; have BK350 := n1_; have GW350 := n2_; have GE350 := n3_; clear n0_ n1_ n2_ n3_; clear hb hbox hg; have hcz22_0 : w21.cell? ⟨gb350, 0, none⟩ = some (.int .i64 a0_0) := (blk_cell BK350.out 0).trans rfl; have hcz22_1 : w21.cell? ⟨gb350, 1, none⟩ = some (.bool false) := (blk_cell BK350.out 1).trans rfl; have hcz22_2 : w21.cell? ⟨gb350, 2, none⟩ = some (.bool false) := (blk_cell BK350.out 2).trans rfl; have hcz22_3 : w21.cell? ⟨gb350, 3, none⟩ = some (.slice A0_3 l0_3.length c0_3) := (blk_cell BK350.out 3).trans rfl; have hcz22_4 : w21.cell? ⟨gb350, 4, none⟩ = some (.int .i64 a0_4) := (blk_cell BK350.out 4).trans rfl; have hcz22_5 : w21.cell? ⟨gb350, 5, none⟩ = some (.string a0_5) := (blk_cell BK350.out 5).trans rfl; have hcz22_6 : w21.cell? ⟨gb350, 6, none⟩ = some (.slice A0_6 l0_6.length c0_6) := (blk_cell BK350.out 6).trans rfl; have hcz22_7 : w21.cell? ⟨gb350, 7, none⟩ = some (.slice A0_7 l0_7.length c0_7) := (blk_cell BK350.out 7).trans rfl; have hfz22_0 := blk_frozen BK350.out 0; have hfz22_1 := blk_frozen BK350.out 1; have hfz22_2 := blk_frozen BK350.out 2; have hfz22_3 := blk_frozen BK350.out 3; have hfz22_4 := blk_frozen BK350.out 4; have hfz22_5 := blk_frozen BK350.out 5; have hfz22_6 := blk_frozen BK350.out 6; have hfz22_7 := blk_frozen BK350.out 7))
          go_ret
          exact ⟨by first | rfl | (simp [errW_none, errW_some] <;> rfl) | (simp [*, errW_none, errW_some] <;> rfl), by repeat (first | (with_reducible first | exact HB.out | apply below_alloc | apply pw_below_drewN | apply below_drew1 | refine below_set ?_ GE350.out) | exact HB.out)⟩
  · rw [if_neg c2] at H
    have c2b0 : (a0_0 == 0) = false := beq_eq_false_iff_ne.mpr c2
    have c2b1 : (a0_0 != 0) = true := bne_iff_ne.mpr c2
    obtain rfl := Option.some.inj H
    go_enter Tryd.func18, Tryd.ntmps18
    go_wp2_with (first | ((with_reducible refine gate_dst (N := 1) rfl ?_); (try (refine gate_guard (by rfl) ?_; dsimp only)); refine box_event ?hg (N := 1) ?hd (cs := #[.int .i64 a0_0, .bool a0_1, .bool a0_2, .slice A0_3 l0_3.length c0_3, .int .i64 a0_4, .string a0_5, .slice A0_6 l0_6.length c0_6, .slice A0_7 l0_7.length c0_7]) (t := 29) ?hr ?_; (case hd => rfl); (case hg => rfl); (case hr => first | (go_simp; done) | (go_simp; rfl) | (go_simp; simp only [x_u32u8, x_u8, x_u32, x_u64, x_mm]; first | done | rfl)); intro gb350 hg w23 hbox hb; have n0_ := Aside0.mk (below_step (by repeat (first | (with_reducible first | exact HB.out | apply below_alloc | apply pw_below_drewN | apply below_drew1) | exact HB.out)) hb); have n1_ := Aside0.mk (hbox); have n2_ := Aside0.mk ((by rw [hg]; exact (below_size (by repeat (first | (with_reducible first | exact HB.out | apply below_alloc | apply pw_below_drewN | apply below_drew1) | exact HB.out))) : w.heap.size ≤ gb350)); have n3_ := Aside0.mk ((by rw [hg]; exact (below_size (by repeat (first | (with_reducible first | exact HB.out | apply below_alloc | apply pw_below_drewN | apply below_drew1) | exact HB.out))) : w.heap.size ≤ gb350)); clear HB; have HB := n0_; have BK350 := n1_; have GW350 := n2_; have GE350 := n3_; clear n0_ n1_ n2_ n3_; clear hb hbox hg; have hcz24_0 : w23.cell? ⟨gb350, 0, none⟩ = some (.int .i64 a0_0) := (blk_cell BK350.out 0).trans rfl; have hcz24_1 : w23.cell? ⟨gb350, 1, none⟩ = some (.bool a0_1) := (blk_cell BK350.out 1).trans rfl; have hcz24_2 : w23.cell? ⟨gb350, 2, none⟩ = some (.bool a0_2) := (blk_cell BK350.out 2).trans rfl; have hcz24_3 : w23.cell? ⟨gb350, 3, none⟩ = some (.slice A0_3 l0_3.length c0_3) := (blk_cell BK350.out 3).trans rfl; have hcz24_4 : w23.cell? ⟨gb350, 4, none⟩ = some (.int .i64 a0_4) := (blk_cell BK350.out 4).trans rfl; have hcz24_5 : w23.cell? ⟨gb350, 5, none⟩ = some (.string a0_5) := (blk_cell BK350.out 5).trans rfl; have hcz24_6 : w23.cell? ⟨gb350, 6, none⟩ = some (.slice A0_6 l0_6.length c0_6) := (blk_cell BK350.out 6).trans rfl; have hcz24_7 : w23.cell? ⟨gb350, 7, none⟩ = some (.slice A0_7 l0_7.length c0_7) := (blk_cell BK350.out 7).trans rfl; have hfz24_0 := blk_frozen BK350.out 0; have hfz24_1 := blk_frozen BK350.out 1; have hfz24_2 := blk_frozen BK350.out 2; have hfz24_3 := blk_frozen BK350.out 3; have hfz24_4 := blk_frozen BK350.out 4; have hfz24_5 := blk_frozen BK350.out 5; have hfz24_6 := blk_frozen BK350.out 6; have hfz24_7 := blk_frozen BK350.out 7))
    go_ret
    exact ⟨by first | rfl | (simp [errW_none, errW_some] <;> rfl) | (simp [*, errW_none, errW_some] <;> rfl), by repeat (first | (with_reducible first | exact HB.out | apply below_alloc | apply pw_below_drewN | apply below_drew1 | refine below_set ?_ GE350.out) | exact HB.out)⟩

end Go.Proofs.YtondpnipoogoiaaDoor.X
/- wire.Check of a merge that is true. -/
namespace Go.Proofs.YtondpnipoogoiaaDoor.X
open Go.RowKit Go.Proofs.YtondpnipoogoiaaDoorW.PrintWords Go.Proofs.YtondpnipoogoiaaDoorW.PrintLast Go.Proofs.YtondpnipoogoiaaDoorW.PrintMore
set_option linter.unusedVariables false
set_option linter.unusedSimpArgs false
def trueT : S29 := ⟨2, true, ⟨false, [], 0⟩, ⟨#[]⟩, [], []⟩
set_option maxHeartbeats 16000000 in
set_option maxRecDepth 100000 in
theorem check2.calls (k : Nat) (ok : Nat → Prop) (BO : Option Addr) (dO : Nat) (B6 : Option Addr) (d6 : Nat) (B9 : Option Addr) (d9 : Nat) (B10 : Option Addr) (d10 : Nat) (BM : Option Addr) (dM : Nat) (w : World) (hL : Laid w)
    (hp : PatF w ok [] trueT [] BO dO B6 d6 B9 d9 B10 d10 BM dM) (ht : tree_Check.f k 2 true false [] 0 ⟨#[]⟩ [] [] = some true) :
    Calls Tryd.prog 10 #[.agg #[.int .i64 2, .slice BO 0 dO, .int .i64 2, .bool true, .bool false, .slice B6 0 d6, .int .i64 0, .string (⟨#[]⟩ : ByteArray), .slice B9 0 d9, .slice B10 0 d10, .slice BM 0 dM]] w fun e w' => e = .returned (.bool true) ∧ Below w.heap.size w w' := by
  have hu := Tryd.underlying29
  have hu2 := Tryd.underlying33
  have HL := Aside0.mk hL
  have HP := Aside0.mk hp
  have HT := Aside0.mk ht
  clear hL hp ht
  have HX := Aside0.mk (blk_new w (.cells #[.int .i64 2, .slice BO 0 dO, .int .i64 2, .bool true, .bool false, .slice B6 0 d6, .int .i64 0, .string (⟨#[]⟩ : ByteArray), .slice B9 0 d9, .slice B10 0 d10, .slice BM 0 dM] 33))
  have HB1 := Aside0.mk (below_alloc (Below.refl w.heap.size w) (.cells #[.int .i64 2, .slice BO 0 dO, .int .i64 2, .bool true, .bool false, .slice B6 0 d6, .int .i64 0, .string (⟨#[]⟩ : ByteArray), .slice B9 0 d9, .slice B10 0 d10, .slice BM 0 dM] 33))
  obtain ⟨w1, hw1⟩ : ∃ w1, w.alloc (.cells #[.int .i64 2, .slice BO 0 dO, .int .i64 2, .bool true, .bool false, .slice B6 0 d6, .int .i64 0, .string (⟨#[]⟩ : ByteArray), .slice B9 0 d9, .slice B10 0 d10, .slice BM 0 dM] 33) = w1 := ⟨_, rfl⟩
  rw [hw1] at HX HB1
  go_enter Tryd.func10, Tryd.ntmps10
  go_wp2_with fail
  refine start_ (n := 14) (S := fun w' => Below w1.heap.size w1 w') (ds := []) #[false, false, false, false, false, false, false, false, false, false, false, false, false, false] (by kernel_rfl) rfl rfl (below_drew (Below.refl _ _)) (fun hHeld => ?_)
  have HB := Aside0.mk hHeld
  generalize w1.drew = u at HB hHeld ⊢
  refine pure_ (i := 0) (N := some 6) (v := ?_) (a' := ?_) #[true, false, false, false, false, false, false, false, false, false, false, false, false, false] rfl rfl (by kernel_rfl) (fun _ _ _ h => h) (Or.inl ⟨by rfl, ?_⟩) ?_ ?_
  rotate_left
  · intro w'
    go_simp
    with_reducible rfl
  rotate_left
  · simp only [Act.put, List.setIfInBounds_toArray, List.set_cons_zero, List.set_cons_succ, i64_w, i32_w]
    rfl
  refine pure_ (i := 4) (N := some 10) (v := ?_) (a' := ?_) #[true, false, false, false, true, false, false, false, false, false, false, false, false, false] rfl rfl (by kernel_rfl) (fun _ _ _ h => h) (Or.inl ⟨by rfl, ?_⟩) ?_ ?_
  rotate_left
  · intro w'
    go_simp
    with_reducible rfl
  rotate_left
  · simp only [Act.put, List.setIfInBounds_toArray, List.set_cons_zero, List.set_cons_succ, i64_w, i32_w]
    rfl
  refine pure_ (i := 7) (N := some 13) (v := ?_) (a' := ?_) #[true, false, false, false, true, false, false, true, false, false, false, false, false, false] rfl rfl (by kernel_rfl) (fun _ _ _ h => h) (Or.inl ⟨by rfl, ?_⟩) ?_ ?_
  rotate_left
  · intro w'
    go_simp
    with_reducible rfl
  rotate_left
  · simp only [Act.put, List.setIfInBounds_toArray, List.set_cons_zero, List.set_cons_succ, i64_w, i32_w]
    rfl
  refine take_ (i := 1) (N := some 7) (v := ?_) (a' := ?_) #[true, true, false, false, true, false, false, true, false, false, false, false, false, false] rfl rfl (by kernel_rfl) (fun _ _ _ h => h) (Or.inl ⟨by rfl, ?_⟩) hHeld ?_ ?_
  rotate_left
  · intro w' s0
    have x1 := pw_cell_below s0 ((blk_cell HX.out 1).trans rfl)
    go_simp
    with_reducible rfl
  rotate_left
  · simp only [Act.put, List.setIfInBounds_toArray, List.set_cons_zero, List.set_cons_succ, i64_w, i32_w]
    rfl
  refine pure_ (i := 2) (N := some 8) (v := ?_) (a' := ?_) #[true, true, true, false, true, false, false, true, false, false, false, false, false, false] rfl rfl (by kernel_rfl) (fun _ _ _ h => h) (Or.inl ⟨by rfl, ?_⟩) ?_ ?_
  rotate_left
  · intro w'
    go_simp
    with_reducible rfl
  rotate_left
  · simp only [Act.put, List.setIfInBounds_toArray, List.set_cons_zero, List.set_cons_succ, i64_w, i32_w]
    rfl
  refine pure_ (i := 3) (N := some 9) (v := ?_) (a' := ?_) #[true, true, true, true, true, false, false, true, false, false, false, false, false, false] rfl rfl (by kernel_rfl) (fun _ _ _ h => h) (Or.inl ⟨by rfl, ?_⟩) ?_ ?_
  rotate_left
  · intro w'
    go_simp
    with_reducible rfl
  rotate_left
  · simp only [Act.put, List.setIfInBounds_toArray, List.set_cons_zero, List.set_cons_succ, i64_w, i32_w]
    rfl
  refine take_ (i := 5) (N := some 11) (v := ?_) (a' := ?_) #[true, true, true, true, true, true, false, true, false, false, false, false, false, false] rfl rfl (by kernel_rfl) (fun _ _ _ h => h) (Or.inl ⟨by rfl, ?_⟩) hHeld ?_ ?_
  rotate_left
  · intro w' s0
    have x2 := pw_cell_below s0 ((blk_cell HX.out 2).trans rfl)
    have x3 := pw_cell_below s0 ((blk_cell HX.out 3).trans rfl)
    have x4 := pw_cell_below s0 ((blk_cell HX.out 4).trans rfl)
    have x5 := pw_cell_below s0 ((blk_cell HX.out 5).trans rfl)
    have x6 := pw_cell_below s0 ((blk_cell HX.out 6).trans rfl)
    have x7 := pw_cell_below s0 ((blk_cell HX.out 7).trans rfl)
    have x8 := pw_cell_below s0 ((blk_cell HX.out 8).trans rfl)
    have x9 := pw_cell_below s0 ((blk_cell HX.out 9).trans rfl)
    go_simp
    with_reducible rfl
  rotate_left
  · simp only [Act.put, List.setIfInBounds_toArray, List.set_cons_zero, List.set_cons_succ, i64_w, i32_w]
    rfl
  refine take_ (i := 8) (N := some 14) (v := ?_) (a' := ?_) #[true, true, true, true, true, true, false, true, true, false, false, false, false, false] rfl rfl (by kernel_rfl) (fun _ _ _ h => h) (Or.inl ⟨by rfl, ?_⟩) hHeld ?_ ?_
  rotate_left
  · intro w' s0
    have x10 := pw_cell_below s0 ((blk_cell HX.out 10).trans rfl)
    go_simp
    with_reducible rfl
  rotate_left
  · simp only [Act.put, List.setIfInBounds_toArray, List.set_cons_zero, List.set_cons_succ, i64_w, i32_w]
    rfl
  refine pure_ (i := 9) (N := some 15) (v := ?_) (a' := ?_) #[true, true, true, true, true, true, false, true, true, true, false, false, false, false] rfl rfl (by kernel_rfl) (fun _ _ _ h => h) (Or.inl ⟨by rfl, ?_⟩) ?_ ?_
  rotate_left
  · intro w'
    go_simp
    with_reducible rfl
  rotate_left
  · simp only [Act.put, List.setIfInBounds_toArray, List.set_cons_zero, List.set_cons_succ, i64_w, i32_w]
    rfl
  refine pure_ (i := 10) (N := some 16) (v := ?_) (a' := ?_) #[true, true, true, true, true, true, false, true, true, true, true, false, false, false] rfl rfl (by kernel_rfl) (fun _ _ _ h => h) (Or.inl ⟨by rfl, ?_⟩) ?_ ?_
  rotate_left
  · intro w'
    go_simp
    with_reducible rfl
  rotate_left
  · simp only [Act.put, List.setIfInBounds_toArray, List.set_cons_zero, List.set_cons_succ, i64_w, i32_w]
    rfl
  refine one_ (i := 6) (N := some 12) #[true, true, true, true, true, true, true, true, true, true, true, false, false, false] rfl rfl (by kernel_rfl) (by decide) (fun K hK => ?_)
  have HBw := Aside0.mk (below_step HB1.out HB.out)
  refine goes_ Tryd.func18 (by kernel_rfl) rfl #[.agg #[.int .i64 2, .bool true, .bool false, .slice B6 0 d6, .int .i64 0, .string (⟨#[]⟩ : ByteArray), .slice B9 0 d9, .slice B10 0 d10]] (by rfl) rfl rfl (by (try simp only [List.map_toArray, List.map_cons, List.map_nil]); first | done | rfl) ?_
  refine (wire_zero.calls 2 true false B6 d6 [] 0 ⟨#[]⟩ B9 d9 [] B10 d10 [] false _ (Kd.C_below (Kd.F_now HP.out.2.1.2) HBw.out) HP.out.2.1.1 (Kd.C_below (Kd.F_now HP.out.2.2.1.2) HBw.out) HP.out.2.2.1.1 (Kd.C_below (Kd.F_now HP.out.2.2.2.1.2) HBw.out) HP.out.2.2.2.1.1 rfl).mono ?_
  rintro e u2 ⟨rfl, hb⟩
  refine ⟨_, rfl, ?_⟩
  have HB' := Aside0.mk (below_step HB.out hb)
  clear hb HB HBw
  refine hK.out _ _ HB'.out (fun hHeld => ?_)
  clear hK K
  refine norm_ (a' := ?_) ?_ ?_
  rotate_left
  · show Act.put _ (some 12) _ = _
    simp only [Act.put, List.setIfInBounds_toArray, List.set_cons_zero, List.set_cons_succ, i64_w, i32_w]
    rfl
  refine pure_ (i := 11) (N := some 3) (v := ?_) (a' := ?_) #[true, true, true, true, true, true, true, true, true, true, true, true, false, false] rfl rfl (by kernel_rfl) (fun _ _ _ h => h) (Or.inl ⟨by rfl, ?_⟩) ?_ ?_
  rotate_left
  · intro w'
    go_simp
    with_reducible rfl
  rotate_left
  · simp only [Act.put, List.setIfInBounds_toArray, List.set_cons_zero, List.set_cons_succ, i64_w, i32_w]
    rfl
  refine pure_ (i := 12) (N := some 4) (v := ?_) (a' := ?_) #[true, true, true, true, true, true, true, true, true, true, true, true, true, false] rfl rfl (by kernel_rfl) (fun _ _ _ h => h) (Or.inl ⟨by rfl, ?_⟩) ?_ ?_
  rotate_left
  · intro w'
    go_simp
    with_reducible rfl
  rotate_left
  · simp only [Act.put, List.setIfInBounds_toArray, List.set_cons_zero, List.set_cons_succ, i64_w, i32_w]
    rfl
  refine pure_ (i := 13) (N := some 5) (v := ?_) (a' := ?_) #[true, true, true, true, true, true, true, true, true, true, true, true, true, true] rfl rfl (by kernel_rfl) (fun _ _ _ h => h) (Or.inl ⟨by rfl, ?_⟩) ?_ ?_
  rotate_left
  · intro w'
    go_simp
    with_reducible rfl
  rotate_left
  · simp only [Act.put, List.setIfInBounds_toArray, List.set_cons_zero, List.set_cons_succ, i64_w, i32_w]
    rfl
  refine done_ (by kernel_rfl) ?_
  have HX2 := Aside0.mk (blk_below HX.out HB'.out)
  have HBw := Aside0.mk (below_step HB1.out HB'.out)
  have x0 := (blk_cell HX2.out 0).trans rfl
  have x1 := (blk_cell HX2.out 1).trans rfl
  have x2 := (blk_cell HX2.out 2).trans rfl
  have x3 := (blk_cell HX2.out 3).trans rfl
  have x4 := (blk_cell HX2.out 4).trans rfl
  have x5 := (blk_cell HX2.out 5).trans rfl
  have x6 := (blk_cell HX2.out 6).trans rfl
  have x7 := (blk_cell HX2.out 7).trans rfl
  have x8 := (blk_cell HX2.out 8).trans rfl
  have x9 := (blk_cell HX2.out 9).trans rfl
  have x10 := (blk_cell HX2.out 10).trans rfl
  go_wp2_with fail
  refine (tree_Check.calls k 2 true false B6 d6 [] 0 ⟨#[]⟩ B9 d9 [] B10 d10 [] true _ (HL.out.below HBw.out) (Kd.C_below (Kd.F_now HP.out.2.1.2) HBw.out) HP.out.2.1.1 (Kd.C_below (Kd.F_now HP.out.2.2.1.2) HBw.out) HP.out.2.2.1.1 (Kd.C_below (Kd.F_now HP.out.2.2.2.1.2) HBw.out) HP.out.2.2.2.1.1 HT.out).mono ?_
  rintro e u3 ⟨rfl, hb⟩
  have HBz := Aside0.mk (below_step HBw.out hb)
  clear hb x0 x1 x2 x3 x4 x5 x6 x7 x8 x9 x10
  go_wp2_with fail
  go_ret
  exact ⟨rfl, HBz.out⟩
end Go.Proofs.YtondpnipoogoiaaDoor.X
