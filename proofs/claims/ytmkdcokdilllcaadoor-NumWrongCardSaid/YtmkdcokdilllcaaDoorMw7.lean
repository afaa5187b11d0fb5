/- A text of a number with a sign more, a point without digits, a nought ahead or another sign behind is none: the law NumWrong; no condition. -/
import Derived.Test.YtmkdcokdilllcaaDoorMw2
import Derived.Test.YtmkdcokdilllcaaDoorMw6
import Derived.Test.YtmkdcokdilllcaaDoorMw4
import Derived.Test.YtmkdcokdilllcaaDoorMw5
-- A walk, written by a program of this session (xp.py).
namespace Go.Proofs.YtmkdcokdilllcaaDoor.X
open Go.RowKit Go.Proofs.YtmkdcokdilllcaaDoorW.PrintWords Go.Proofs.YtmkdcokdilllcaaDoorW.PrintLast Go.Proofs.YtmkdcokdilllcaaDoorW.PrintMore
attribute [local go_sem] max2_int min2_int max_two min_two max_three min_three max_four min_four
set_option linter.unusedVariables false
set_option linter.unusedSimpArgs false

/-! ### erratumlaw02_NumWrong: function 5 -/
def erratumlaw02_NumWrong.j0 : Nat → Int → Bool → Bool → List Int → Int → Option (Bool)
  | 0, _, _, _, _, _ => none
  | k + 1, x1, x17, x251000, x251001, x251002 => if x17 = true then ((erratumlaw02_awake.f k).bind fun t252 => (some t252)) else ((num_Text.f k false x251001 x251002).bind fun t253 => (if 1 + t253.size ≤ 9223372036854775807 then (if 2 + t253.size ≤ 9223372036854775807 then (if t253.size + 1 ≤ 9223372036854775807 then (if t253.size + 2 ≤ 9223372036854775807 then ((erratumlaw00_Place.f x1 8).bind fun t254 => ((num_Parse.f k (rdOf ByteArray.empty ([(⟨#[43]⟩ : ByteArray) ++ t253, (⟨#[45, 45]⟩ : ByteArray) ++ t253, (⟨#[48]⟩ : ByteArray) ++ t253, t253 ++ (⟨#[101]⟩ : ByteArray), t253 ++ (⟨#[101, 43]⟩ : ByteArray), t253 ++ (⟨#[120]⟩ : ByteArray), (⟨#[32]⟩ : ByteArray) ++ t253, t253 ++ (⟨#[46]⟩ : ByteArray)] : List ByteArray) t254)).bind fun bt255 => (if bt255.2.2.2 = 2 then ((erratumlaw00_SameNum.f k bt255.1 bt255.2.1 bt255.2.2.1 false ([] : List Int) 0).bind fun t262 => (if t262 = true then ((erratumlaw02_awake.f k).bind fun t263 => (some t263)) else (some false))) else (some false)))) else (none)) else (none)) else (none)) else (none)))
def erratumlaw02_NumWrong.f (k : Nat) (a0_0 : Bool) (l0_1 : List Int) (a0_2 : Int) (a1 : Int) : Option (Bool) := if (l0_1.length : Int) > 20 then (erratumlaw02_NumWrong.j0 k a1 true a0_0 l0_1 a0_2) else ((erratumref02_Check.f k a0_0 l0_1 a0_2).bind fun t251 => (erratumlaw02_NumWrong.j0 k a1 (!t251) a0_0 l0_1 a0_2))
set_option maxHeartbeats 8000000 in
set_option maxRecDepth 100000 in
theorem erratumlaw02_NumWrong.calls (k : Nat) (a0_0 : Bool) (A0_1 : Option Addr) (c0_1 : Nat) (l0_1 : List Int) (a0_2 : Int) (a1 : Int) (r : Bool) (w : World) (hT : r = true) (hL : Laid w) (hr0_1 : Kd.C (Kd.int .u32) w A0_1 l0_1.length l0_1) (hc0_1 : l0_1.length ≤ c0_1) (h : erratumlaw02_NumWrong.f k a0_0 l0_1 a0_2 a1 = some r) :
    Calls Tryd.prog 5 #[.agg #[.bool a0_0, .slice A0_1 l0_1.length c0_1, .int .i64 a0_2], .int .i64 a1] w fun e w' => e = .returned (.bool r) ∧ Below w.heap.size w w' := by
  replace hL := Aside0.mk hL
  have hu25 := Tryd.underlying25
  have HR0_1 := Aside0.mk hr0_1
  have HC0_1 := Aside0.mk hc0_1
  clear hr0_1 hc0_1
  have HB := Aside0.mk (Below.refl w.heap.size w)
  have H : (if (l0_1.length : Int) > 20 then (erratumlaw02_NumWrong.j0 k a1 true a0_0 l0_1 a0_2) else ((erratumref02_Check.f k a0_0 l0_1 a0_2).bind fun t251 => (erratumlaw02_NumWrong.j0 k a1 (!t251) a0_0 l0_1 a0_2))) = some r := h
  clear h
  have HC3 := Aside0.mk H
  clear H
  go_enter Tryd.func5, Tryd.ntmps5
  go_upto_region 1 with (first | ((with_reducible refine gate_dst (N := 2) rfl ?_); refine box_event ?hg (N := 2) ?hd (cs := #[.bool a0_0, .slice A0_1 l0_1.length c0_1, .int .i64 a0_2]) (t := 25) ?hr ?_; (case hd => rfl); (case hg => rfl); (case hr => first | (go_simp; done) | (go_simp; rfl) | (go_simp; simp only [x_u32u8, x_u8, x_u32, x_u64, x_mm]; first | done | rfl)); intro gb250 hg w4 hbox hb; have n0_ := Aside0.mk (below_step (by repeat (first | (with_reducible first | exact HB.out | apply below_alloc | apply pw_below_drewN | apply below_drew1) | exact HB.out)) hb); have n1_ := Aside0.mk (hbox); have n2_ := Aside0.mk ((by rw [hg]; exact (below_size (by repeat (first | (with_reducible first | exact HB.out | apply below_alloc | apply pw_below_drewN | apply below_drew1) | exact HB.out))) : w.heap.size ≤ gb250)); have n3_ := Aside0.mk ((by rw [hg]; exact (below_size (by repeat (first | (with_reducible first | exact HB.out | apply below_alloc | apply pw_below_drewN | apply below_drew1) | exact HB.out))) : w.heap.size ≤ gb250)); clear HB; have HB := n0_; have BK250 := n1_; have GW250 := n2_; have GE250 := n3_; clear n0_ n1_ n2_ n3_; clear hb hbox hg))
  try (any_goals (with_reducible refine halt_absurd ?_; (try simp only [ByteArray.size_extract, ByteArray.size_append, ba_size_mk, List.size_toArray, List.length_cons, List.length_nil] at *) <;> omega))
  (try simp only [Act.put, List.setIfInBounds_toArray, List.set_cons_zero, List.set_cons_succ])
  go_cut [17] (fun v17 wc => ∃ (kq : Nat) (x17_2 : Bool), v17 = .bool x17_2 ∧ Aside0 (erratumlaw02_NumWrong.j0 kq a1 x17_2 a0_0 l0_1 a0_2 = some r) ∧ Aside0 (kq ≤ k) ∧ Aside0 (wc.heap[gb250]? = some (.cells #[.bool a0_0, (.slice A0_1 l0_1.length c0_1), .int .i64 a0_2] 25 (0, 0))) ∧ Aside0 (Below w.heap.size w wc))
  case first =>
    have H := HC3.out
    clear HC3
    by_cases c5 : (l0_1.length : Int) > 20
    · rw [if_pos c5] at H
      have c5b0 : decide (20 < (l0_1.length : Int)) = true := decide_eq_true c5
      have c5b1 : decide (20 < l0_1.length) = true := decide_eq_true (by omega)
      clear c5
      (first | rw [c5b0] | (simp only [i64_w, i32_w]; rw [c5b0]) | skip)
      have H' := Aside0.mk H
      clear H
      have hcz6_0 : w4.cell? ⟨gb250, 0, none⟩ = some (.bool a0_0) := (blk_cell BK250.out 0).trans rfl
      have hcz6_1 : w4.cell? ⟨gb250, 1, none⟩ = some (.slice A0_1 l0_1.length c0_1) := (blk_cell BK250.out 1).trans rfl
      have hcz6_2 : w4.cell? ⟨gb250, 2, none⟩ = some (.int .i64 a0_2) := (blk_cell BK250.out 2).trans rfl
      have hfz6_0 := blk_frozen BK250.out 0
      have hfz6_1 := blk_frozen BK250.out 1
      have hfz6_2 := blk_frozen BK250.out 2
      go_wp2
      try (any_goals (with_reducible refine halt_absurd ?_; (try simp only [ByteArray.size_extract, ByteArray.size_append, ba_size_mk, List.size_toArray, List.length_cons, List.length_nil] at *) <;> omega))
      go_meet
      case rel => exact ⟨_, (true), (by first | rfl | (simp; done) | (simp [*]; done)), H', ⟨by first | omega | exact Nat.le_refl _⟩, ⟨by (with_reducible repeat (first | refine blk_drewN ?_ _ | refine blk_drew ?_ | refine blk_alloc ?_ _)); exact BK250.out⟩, ⟨by repeat (first | (with_reducible first | exact HB.out | apply below_alloc | apply pw_below_drewN | apply below_drew1 | refine below_set ?_ GE250.out) | exact HB.out)⟩⟩
    · rw [if_neg c5] at H
      have c5b0 : decide (20 < (l0_1.length : Int)) = false := decide_eq_false c5
      have c5b1 : decide (20 < l0_1.length) = false := decide_eq_false (by omega)
      clear c5
      (first | rw [c5b0] | (simp only [i64_w, i32_w]; rw [c5b0]) | skip)
      replace H := Option.bind_eq_some_iff.mp H
      obtain ⟨t251, A70, H⟩ := H
      replace H : (erratumlaw02_NumWrong.j0 k a1 (!t251) a0_0 l0_1 a0_2) = some r := H
      have A7 := Aside0.mk A70
      clear A70
      have H' := Aside0.mk H
      clear H
      have hcz8_0 : w4.cell? ⟨gb250, 0, none⟩ = some (.bool a0_0) := (blk_cell BK250.out 0).trans rfl
      have hcz8_1 : w4.cell? ⟨gb250, 1, none⟩ = some (.slice A0_1 l0_1.length c0_1) := (blk_cell BK250.out 1).trans rfl
      have hcz8_2 : w4.cell? ⟨gb250, 2, none⟩ = some (.int .i64 a0_2) := (blk_cell BK250.out 2).trans rfl
      have hfz8_0 := blk_frozen BK250.out 0
      have hfz8_1 := blk_frozen BK250.out 1
      have hfz8_2 := blk_frozen BK250.out 2
      go_wp2_with (first | (go_at_call 13; (with_reducible refine (erratumref02_Check.calls k a0_0 _ _ l0_1 a0_2 t251 _ ?side1 ?side2 A7.out).mono ?_); (case side1 => repeat (first | exact (Kd.C_below HR0_1.out HB.out) | (with_reducible refine Kd.C_alloc ?_ _) | (with_reducible refine Kd.C_drewN ?_ _) | (with_reducible refine Kd.C_drew ?_))); (case side2 => exact HC0_1.out); rintro e w9 ⟨rfl, hb⟩; have n0_ := Aside0.mk (blk_below (g := gb250) (o := .cells #[.bool a0_0, .slice A0_1 l0_1.length c0_1, .int .i64 a0_2] 25 (0, 0)) (by (with_reducible repeat (first | refine blk_drewN ?_ _ | refine blk_drew ?_ | refine blk_alloc ?_ _)); exact BK250.out) hb); have n1_ := Aside0.mk (below_step (by repeat (first | (with_reducible first | exact HB.out | apply below_alloc | apply pw_below_drewN | apply below_drew1 | refine below_set ?_ GE250.out) | exact HB.out)) hb); clear BK250; clear HB; have BK250 := n0_; have HB := n1_; clear n0_ n1_; (try clear hb); (try clear hb2); (try clear hk); (try clear hi)))
      try (any_goals (with_reducible refine halt_absurd ?_; (try simp only [ByteArray.size_extract, ByteArray.size_append, ba_size_mk, List.size_toArray, List.length_cons, List.length_nil] at *) <;> omega))
      go_meet
      case rel => exact ⟨_, (!t251), (by first | rfl | (simp; done) | (simp [*]; done)), H', ⟨by first | omega | exact Nat.le_refl _⟩, ⟨by (with_reducible repeat (first | refine blk_drewN ?_ _ | refine blk_drew ?_ | refine blk_alloc ?_ _)); exact BK250.out⟩, ⟨by repeat (first | (with_reducible first | exact HB.out | apply below_alloc | apply pw_below_drewN | apply below_drew1 | refine below_set ?_ GE250.out) | exact HB.out)⟩⟩
  case rest =>
    clear HC3
    try clear p2
    try clear c5
    try clear c5b0
    try clear c5b1
    try clear hcz6_0
    try clear hcz6_1
    try clear hcz6_2
    try clear hcz8_0
    try clear hcz8_1
    try clear hcz8_2
    try clear hfz6_0
    try clear hfz6_1
    try clear hfz6_2
    try clear hfz8_0
    try clear hfz8_1
    try clear hfz8_2
    obtain ⟨kq, x17_2, rfl, HA, HJ2, BK250, HB⟩ := hcut
    cases kq with
    | zero => exact absurd HA.out (by simp [erratumlaw02_NumWrong.j0])
    | succ kj2 =>
      have H := HA.out
      clear HA
      simp only [erratumlaw02_NumWrong.j0] at H
      by_cases c10 : x17_2 = true
      · subst c10
        have H1 : ((erratumlaw02_awake.f kj2).bind fun t252 => (some t252)) = some r := by rw [if_pos rfl] at H; exact H
        clear H
        have H := H1
        clear H1
        replace H := Option.bind_eq_some_iff.mp H
        obtain ⟨t252, A110, H⟩ := H
        replace H : (some t252) = some r := H
        have A11 := Aside0.mk A110
        clear A110
        obtain rfl := Option.some.inj H
        go_wp2_with (first | ((with_reducible refine gate_callee (f := 9) rfl ?_); refine goesL_ (some 18) rfl rfl Tryd.func9 (by kernel_rfl) rfl #[] rfl (by (try simp only [List.map_toArray, List.map_cons, List.map_nil]); first | done | rfl | (simp only [List.length_drop, List.length_take]; rfl)) ?_; (with_reducible refine (erratumlaw02_awake.calls kj2  t252 _ ?side1 A11.out).mono ?_); (case side1 => first | exact hL.out | exact hL.out.drewN _ | exact hL.out.drew | exact hL.out.below (by repeat (first | (with_reducible first | exact HB.out | apply below_alloc | apply pw_below_drewN | apply below_drew1 | refine below_set ?_ GE250.out) | exact HB.out))); rintro e w12 ⟨rfl, hb⟩; refine ⟨_, rfl, ?_⟩; have n0_ := Aside0.mk (blk_below (g := gb250) (o := .cells #[.bool a0_0, .slice A0_1 l0_1.length c0_1, .int .i64 a0_2] 25 (0, 0)) (by (with_reducible repeat (first | refine blk_drewN ?_ _ | refine blk_drew ?_ | refine blk_alloc ?_ _)); exact BK250.out) hb); have n1_ := Aside0.mk (below_step (by repeat (first | (with_reducible first | exact HB.out | apply below_alloc | apply pw_below_drewN | apply below_drew1 | refine below_set ?_ GE250.out) | exact HB.out)) hb); clear BK250; clear HB; have BK250 := n0_; have HB := n1_; clear n0_ n1_; (try clear hb); (try clear hb2); (try clear hk); (try clear hi)))
        try (any_goals (with_reducible refine halt_absurd ?_; (try simp only [ByteArray.size_extract, ByteArray.size_append, ba_size_mk, List.size_toArray, List.length_cons, List.length_nil] at *) <;> omega))
        go_ret
        exact ⟨by first | rfl | (simp [errW_none, errW_some] <;> rfl) | (simp [*, errW_none, errW_some] <;> rfl), by repeat (first | (with_reducible first | exact HB.out | apply below_alloc | apply pw_below_drewN | apply below_drew1 | refine below_set ?_ GE250.out) | exact HB.out)⟩
      · replace c10 := Bool.eq_false_iff.mpr c10
        subst c10
        have H1 : ((num_Text.f kj2 false l0_1 a0_2).bind fun t253 => (if 1 + t253.size ≤ 9223372036854775807 then (if 2 + t253.size ≤ 9223372036854775807 then (if t253.size + 1 ≤ 9223372036854775807 then (if t253.size + 2 ≤ 9223372036854775807 then ((erratumlaw00_Place.f a1 8).bind fun t254 => ((num_Parse.f kj2 (rdOf ByteArray.empty ([(⟨#[43]⟩ : ByteArray) ++ t253, (⟨#[45, 45]⟩ : ByteArray) ++ t253, (⟨#[48]⟩ : ByteArray) ++ t253, t253 ++ (⟨#[101]⟩ : ByteArray), t253 ++ (⟨#[101, 43]⟩ : ByteArray), t253 ++ (⟨#[120]⟩ : ByteArray), (⟨#[32]⟩ : ByteArray) ++ t253, t253 ++ (⟨#[46]⟩ : ByteArray)] : List ByteArray) t254)).bind fun bt255 => (if bt255.2.2.2 = 2 then ((erratumlaw00_SameNum.f kj2 bt255.1 bt255.2.1 bt255.2.2.1 false ([] : List Int) 0).bind fun t262 => (if t262 = true then ((erratumlaw02_awake.f kj2).bind fun t263 => (some t263)) else (some false))) else (some false)))) else (none)) else (none)) else (none)) else (none))) = some r := by rw [if_neg (show ¬ (false = true) by decide)] at H; exact H
        clear H
        have H := H1
        clear H1
        replace H := Option.bind_eq_some_iff.mp H
        obtain ⟨t253, A130, H⟩ := H
        replace H : (if 1 + t253.size ≤ 9223372036854775807 then (if 2 + t253.size ≤ 9223372036854775807 then (if t253.size + 1 ≤ 9223372036854775807 then (if t253.size + 2 ≤ 9223372036854775807 then ((erratumlaw00_Place.f a1 8).bind fun t254 => ((num_Parse.f kj2 (rdOf ByteArray.empty ([(⟨#[43]⟩ : ByteArray) ++ t253, (⟨#[45, 45]⟩ : ByteArray) ++ t253, (⟨#[48]⟩ : ByteArray) ++ t253, t253 ++ (⟨#[101]⟩ : ByteArray), t253 ++ (⟨#[101, 43]⟩ : ByteArray), t253 ++ (⟨#[120]⟩ : ByteArray), (⟨#[32]⟩ : ByteArray) ++ t253, t253 ++ (⟨#[46]⟩ : ByteArray)] : List ByteArray) t254)).bind fun bt255 => (if bt255.2.2.2 = 2 then ((erratumlaw00_SameNum.f kj2 bt255.1 bt255.2.1 bt255.2.2.1 false ([] : List Int) 0).bind fun t262 => (if t262 = true then ((erratumlaw02_awake.f kj2).bind fun t263 => (some t263)) else (some false))) else (some false)))) else (none)) else (none)) else (none)) else (none)) = some r := H
        have A13 := Aside0.mk A130
        clear A130
        by_cases c14 : 1 + t253.size ≤ 9223372036854775807
        · rw [if_pos c14] at H
          have c14b0 := eq_true c14
          have c14b1 : decide (1 + t253.size ≤ 9223372036854775807) = true := decide_eq_true c14
          try have c14b2 : (9223372036854775807 < 1 + t253.size) = False := eq_false (Nat.not_lt.2 c14)
          by_cases c15 : 2 + t253.size ≤ 9223372036854775807
          · rw [if_pos c15] at H
            have c15b0 := eq_true c15
            have c15b1 : decide (2 + t253.size ≤ 9223372036854775807) = true := decide_eq_true c15
            try have c15b2 : (9223372036854775807 < 2 + t253.size) = False := eq_false (Nat.not_lt.2 c15)
            by_cases c16 : t253.size + 1 ≤ 9223372036854775807
            · rw [if_pos c16] at H
              have c16b0 := eq_true c16
              have c16b1 : decide (t253.size + 1 ≤ 9223372036854775807) = true := decide_eq_true c16
              try have c16b2 : (9223372036854775807 < t253.size + 1) = False := eq_false (Nat.not_lt.2 c16)
              by_cases c17 : t253.size + 2 ≤ 9223372036854775807
              · rw [if_pos c17] at H
                have c17b0 := eq_true c17
                have c17b1 : decide (t253.size + 2 ≤ 9223372036854775807) = true := decide_eq_true c17
                try have c17b2 : (9223372036854775807 < t253.size + 2) = False := eq_false (Nat.not_lt.2 c17)
                replace H := Option.bind_eq_some_iff.mp H
                obtain ⟨t254, A180, H⟩ := H
                replace H : ((num_Parse.f kj2 (rdOf ByteArray.empty ([(⟨#[43]⟩ : ByteArray) ++ t253, (⟨#[45, 45]⟩ : ByteArray) ++ t253, (⟨#[48]⟩ : ByteArray) ++ t253, t253 ++ (⟨#[101]⟩ : ByteArray), t253 ++ (⟨#[101, 43]⟩ : ByteArray), t253 ++ (⟨#[120]⟩ : ByteArray), (⟨#[32]⟩ : ByteArray) ++ t253, t253 ++ (⟨#[46]⟩ : ByteArray)] : List ByteArray) t254)).bind fun bt255 => (if bt255.2.2.2 = 2 then ((erratumlaw00_SameNum.f kj2 bt255.1 bt255.2.1 bt255.2.2.1 false ([] : List Int) 0).bind fun t262 => (if t262 = true then ((erratumlaw02_awake.f kj2).bind fun t263 => (some t263)) else (some false))) else (some false))) = some r := H
                have A18 := Aside0.mk A180
                clear A180
                replace H := Option.bind_eq_some_iff.mp H
                obtain ⟨⟨t255, t256, t259, t260⟩, A190, H⟩ := H
                replace H : (if t260 = 2 then ((erratumlaw00_SameNum.f kj2 t255 t256 t259 false ([] : List Int) 0).bind fun t262 => (if t262 = true then ((erratumlaw02_awake.f kj2).bind fun t263 => (some t263)) else (some false))) else (some false)) = some r := H
                have A19 := Aside0.mk A190
                clear A190
                by_cases c20 : t260 = 2
                · rw [if_pos c20] at H
                  have c20b0 : (t260 == 2) = true := beq_iff_eq.mpr c20
                  have c20b1 : (t260 != 2) = false := bne_eq_false_iff_eq.mpr c20
                  clear c20
                  replace H := Option.bind_eq_some_iff.mp H
                  obtain ⟨t262, A210, H⟩ := H
                  replace H : (if t262 = true then ((erratumlaw02_awake.f kj2).bind fun t263 => (some t263)) else (some false)) = some r := H
                  have A21 := Aside0.mk A210
                  clear A210
                  by_cases c22 : t262 = true
                  · subst c22
                    have H1 : ((erratumlaw02_awake.f kj2).bind fun t263 => (some t263)) = some r := by rw [if_pos rfl] at H; exact H
                    clear H
                    have H := H1
                    clear H1
                    replace H := Option.bind_eq_some_iff.mp H
                    obtain ⟨t263, A230, H⟩ := H
                    replace H : (some t263) = some r := H
                    have A23 := Aside0.mk A230
                    clear A230
                    obtain rfl := Option.some.inj H
                    have hcz24_0 : wc.cell? ⟨gb250, 0, none⟩ = some (.bool a0_0) := (blk_cell BK250.out 0).trans rfl
                    have hcz24_1 : wc.cell? ⟨gb250, 1, none⟩ = some (.slice A0_1 l0_1.length c0_1) := (blk_cell BK250.out 1).trans rfl
                    have hcz24_2 : wc.cell? ⟨gb250, 2, none⟩ = some (.int .i64 a0_2) := (blk_cell BK250.out 2).trans rfl
                    have hfz24_0 := blk_frozen BK250.out 0
                    have hfz24_1 := blk_frozen BK250.out 1
                    have hfz24_2 := blk_frozen BK250.out 2
                    have hix := fun (x0_ x1_ x2_ x3_ x4_ x5_ x6_ x7_ : ByteArray) (w_ : World) => index_arr8_37 x0_ x1_ x2_ x3_ x4_ x5_ x6_ x7_ w_ t254 (place_bound A18.out).1 (place_bound A18.out).2
                    go_wp2_with (first | ((with_reducible refine gate_callee (f := 14) rfl ?_); refine goesL_ (some 24) rfl rfl Tryd.func14 (by kernel_rfl) rfl #[.agg #[.bool false, .slice A0_1 l0_1.length c0_1, .int .i64 a0_2]] rfl (by (try simp only [List.map_toArray, List.map_cons, List.map_nil]); first | done | rfl | (simp only [List.length_drop, List.length_take]; rfl)) ?_; (with_reducible refine (num_Text.calls kj2 false _ _ l0_1 a0_2 t253 _ ?side1 ?side2 ?side3 A13.out).mono ?_); (case side1 => first | exact hL.out | exact hL.out.drewN _ | exact hL.out.drew | exact hL.out.below (by repeat (first | (with_reducible first | exact HB.out | apply below_alloc | apply pw_below_drewN | apply below_drew1 | refine below_set ?_ GE250.out) | exact HB.out))); (case side2 => repeat (first | exact (Kd.C_below HR0_1.out HB.out) | (with_reducible refine Kd.C_alloc ?_ _) | (with_reducible refine Kd.C_drewN ?_ _) | (with_reducible refine Kd.C_drew ?_))); (case side3 => exact HC0_1.out); rintro e w25 ⟨rfl, hb⟩; refine ⟨_, rfl, ?_⟩; have n0_ := Aside0.mk (blk_below (g := gb250) (o := .cells #[.bool a0_0, .slice A0_1 l0_1.length c0_1, .int .i64 a0_2] 25 (0, 0)) (by (with_reducible repeat (first | refine blk_drewN ?_ _ | refine blk_drew ?_ | refine blk_alloc ?_ _)); exact BK250.out) hb); have n1_ := Aside0.mk (below_step (by repeat (first | (with_reducible first | exact HB.out | apply below_alloc | apply pw_below_drewN | apply below_drew1 | refine below_set ?_ GE250.out) | exact HB.out)) hb); clear BK250; clear HB; have BK250 := n0_; have HB := n1_; clear n0_ n1_; (try clear hb); (try clear hb2); (try clear hk); (try clear hi)) | ((with_reducible refine gate_callee (f := 15) rfl ?_); refine goesL_ (some 43) rfl rfl Tryd.func15 (by kernel_rfl) rfl #[.int .i64 a1, .int .i64 8] rfl (by (try simp only [List.map_toArray, List.map_cons, List.map_nil]); first | done | rfl | (simp only [List.length_drop, List.length_take]; rfl)) ?_; (with_reducible refine (erratumlaw00_Place.calls a1 8 t254 _ A18.out).mono ?_); rintro e w' ⟨rfl, ⟨nd, rfl⟩⟩; refine ⟨_, rfl, ?_⟩; (try (rw [drewN_self w25]; generalize hq_ : World.drewN w25 _ = w25; have n0_ : Aside0 (w25.heap[gb250]? = some (.cells #[.bool a0_0, .slice A0_1 l0_1.length c0_1, .int .i64 a0_2] 25 (0, 0))) := ⟨by rw [← hq_]; exact (by (with_reducible repeat (first | refine blk_drewN ?_ _ | refine blk_drew ?_ | refine blk_alloc ?_ _)); exact BK250.out)⟩; have n1_ : Aside0 (Below w.heap.size w w25) := ⟨by rw [← hq_]; exact (by repeat (first | (with_reducible first | exact HB.out | apply below_alloc | apply pw_below_drewN | apply below_drew1 | refine below_set ?_ GE250.out) | exact HB.out))⟩; clear BK250 HB hq_; have BK250 := n0_; have HB := n1_; clear n0_ n1_))) | ((with_reducible refine gate_callee (f := 10) rfl ?_); refine goesL_ (some 47) rfl rfl Tryd.func10 (by kernel_rfl) rfl #[.string (rdOf ByteArray.empty ([(⟨#[43]⟩ : ByteArray) ++ t253, (⟨#[45, 45]⟩ : ByteArray) ++ t253, (⟨#[48]⟩ : ByteArray) ++ t253, t253 ++ (⟨#[101]⟩ : ByteArray), t253 ++ (⟨#[101, 43]⟩ : ByteArray), t253 ++ (⟨#[120]⟩ : ByteArray), (⟨#[32]⟩ : ByteArray) ++ t253, t253 ++ (⟨#[46]⟩ : ByteArray)] : List ByteArray) t254)] rfl (by (try simp only [List.map_toArray, List.map_cons, List.map_nil]); first | done | rfl | (simp only [List.length_drop, List.length_take]; rfl)) ?_; (with_reducible refine (num_Parse.calls kj2 (rdOf ByteArray.empty ([(⟨#[43]⟩ : ByteArray) ++ t253, (⟨#[45, 45]⟩ : ByteArray) ++ t253, (⟨#[48]⟩ : ByteArray) ++ t253, t253 ++ (⟨#[101]⟩ : ByteArray), t253 ++ (⟨#[101, 43]⟩ : ByteArray), t253 ++ (⟨#[120]⟩ : ByteArray), (⟨#[32]⟩ : ByteArray) ++ t253, t253 ++ (⟨#[46]⟩ : ByteArray)] : List ByteArray) t254) t255 t256 t259 t260 _ ?side1 A19.out).mono ?_); (case side1 => first | exact hL.out | exact hL.out.drewN _ | exact hL.out.drew | exact hL.out.below (by repeat (first | (with_reducible first | exact HB.out | apply below_alloc | apply pw_below_drewN | apply below_drew1 | refine below_set ?_ GE250.out) | exact HB.out))); rintro e w26 ⟨v257, rfl, ho0, hb⟩; refine ⟨_, rfl, ?_⟩; have n0_ := Aside0.mk (Kd.R_lower ho0 (below_size (by repeat (first | (with_reducible first | exact HB.out | apply below_alloc | apply pw_below_drewN | apply below_drew1 | refine below_set ?_ GE250.out) | exact HB.out)))); have n1_ := Aside0.mk (blk_below (g := gb250) (o := .cells #[.bool a0_0, .slice A0_1 l0_1.length c0_1, .int .i64 a0_2] 25 (0, 0)) (by (with_reducible repeat (first | refine blk_drewN ?_ _ | refine blk_drew ?_ | refine blk_alloc ?_ _)); exact BK250.out) hb); have n2_ := Aside0.mk (below_step (by repeat (first | (with_reducible first | exact HB.out | apply below_alloc | apply pw_below_drewN | apply below_drew1 | refine below_set ?_ GE250.out) | exact HB.out)) hb); clear BK250; clear HB; have HO258 := n0_; have BK250 := n1_; have HB := n2_; clear n0_ n1_ n2_; (try clear hb); (try clear hb2); (try clear hk); (try clear hi); (try clear ho0)) | ((with_reducible refine gate_dst (N := 7) rfl ?_); refine box_event ?hg (N := 7) ?hd (cs := #[.bool false, .slice none 0 0, .int .i64 0]) (t := 25) ?hr ?_; (case hd => rfl); (case hg => rfl); (case hr => first | (go_simp; done) | (go_simp; rfl) | (go_simp; simp only [x_u32u8, x_u8, x_u32, x_u64, x_mm]; first | done | rfl)); intro gb261 hg w27 hbox hb; have n0_ := Aside0.mk (Kd.R_below (by (with_reducible repeat (first | apply Kd.R_alloc | apply Kd.R_drewN | apply Kd.R_drew)); exact HO258.out) hb); have n1_ := Aside0.mk (blk_below (g := gb250) (o := .cells #[.bool a0_0, .slice A0_1 l0_1.length c0_1, .int .i64 a0_2] 25 (0, 0)) (by (with_reducible repeat (first | refine blk_drewN ?_ _ | refine blk_drew ?_ | refine blk_alloc ?_ _)); exact BK250.out) hb); have n2_ := Aside0.mk (below_step (by repeat (first | (with_reducible first | exact HB.out | apply below_alloc | apply pw_below_drewN | apply below_drew1 | refine below_set ?_ GE250.out) | exact HB.out)) hb); have n3_ := Aside0.mk (hbox); have n4_ := Aside0.mk ((by rw [hg]; exact (below_size (by repeat (first | (with_reducible first | exact HB.out | apply below_alloc | apply pw_below_drewN | apply below_drew1 | refine below_set ?_ GE250.out) | exact HB.out))) : w.heap.size ≤ gb261)); have n5_ := Aside0.mk ((by rw [hg]; exact (below_size (by repeat (first | (with_reducible first | exact HB.out | apply below_alloc | apply pw_below_drewN | apply below_drew1 | refine below_set ?_ GE250.out) | exact HB.out))) : w.heap.size ≤ gb261)); have n6_ := Aside0.mk ((by rw [hg]; exact Nat.ne_of_lt (blk_lt (g := gb250) (o := .cells #[.bool a0_0, .slice A0_1 l0_1.length c0_1, .int .i64 a0_2] 25 (0, 0)) (by (with_reducible repeat (first | refine blk_drewN ?_ _ | refine blk_drew ?_ | refine blk_alloc ?_ _)); exact BK250.out)) : gb250 ≠ gb261)); have n7_ := Aside0.mk ((by rw [hg]; exact Nat.ne_of_gt (blk_lt (g := gb250) (o := .cells #[.bool a0_0, .slice A0_1 l0_1.length c0_1, .int .i64 a0_2] 25 (0, 0)) (by (with_reducible repeat (first | refine blk_drewN ?_ _ | refine blk_drew ?_ | refine blk_alloc ?_ _)); exact BK250.out)) : gb261 ≠ gb250)); clear HO258; clear BK250; clear HB; have HO258 := n0_; have BK250 := n1_; have HB := n2_; have BK261 := n3_; have GW261 := n4_; have GE261 := n5_; have NB250_261 := n6_; have NB261_250 := n7_; clear n0_ n1_ n2_ n3_ n4_ n5_ n6_ n7_; clear hb hbox hg; have hnb28 := NB261_250.out; have hnc28 := NB250_261.out; have hcz29_0 : w27.cell? ⟨gb261, 0, none⟩ = some (.bool false) := (blk_cell BK261.out 0).trans rfl; have hcz29_1 : w27.cell? ⟨gb261, 1, none⟩ = some (.slice none 0 0) := (blk_cell BK261.out 1).trans rfl; have hcz29_2 : w27.cell? ⟨gb261, 2, none⟩ = some (.int .i64 0) := (blk_cell BK261.out 2).trans rfl; have hfz29_0 := blk_frozen BK261.out 0; have hfz29_1 := blk_frozen BK261.out 1; have hfz29_2 := blk_frozen BK261.out 2; obtain ⟨Ao30, co30, eo30⟩ := Kd.R_slice HO258.out; subst eo30) | (go_at_call 12; (refine (erratumlaw00_SameNum.calls kj2 t255 _ _ t256 t259 false _ _ ([] : List Int) 0 true _ ?side1 ?side2 ?side3 ?side4 A21.out).mono ?_); (case side1 => refine (Kd.R_reads' (e := 40) (base := w.heap.size) (ok := fun k_ => True) (n := t256.length) (c := co30) ?_).2.2; exact (by (with_reducible repeat (first | apply Kd.R_alloc | apply Kd.R_drewN | apply Kd.R_drew)); exact (Kd.R_mono (Kd.R_far (p := ⟨gb261, 2, none⟩) (Kd.R_far (p := ⟨gb261, 1, none⟩) (Kd.R_far (p := ⟨gb261, 0, none⟩) (Kd.R_types HO258.out BK261.out (by decide)) (fun _ hk => hk.2) (.bool t255)) (fun _ hk => hk.2) (.slice Ao30 t256.length co30)) (fun _ hk => hk.2) (.int .i64 t259)) (fun _ h_ => h_.1)))); (case side2 => exact (Kd.R_reads' HO258.out).2.1); (case side3 => exact Kd.C_nil _ _); (case side4 => exact Nat.le_refl _); rintro e w31 ⟨rfl, hb⟩; have n0_ := Aside0.mk (Kd.R_below (by (with_reducible repeat (first | apply Kd.R_alloc | apply Kd.R_drewN | apply Kd.R_drew)); exact (Kd.R_mono (Kd.R_far (p := ⟨gb261, 2, none⟩) (Kd.R_far (p := ⟨gb261, 1, none⟩) (Kd.R_far (p := ⟨gb261, 0, none⟩) (Kd.R_types HO258.out BK261.out (by decide)) (fun _ hk => hk.2) (.bool t255)) (fun _ hk => hk.2) (.slice Ao30 t256.length co30)) (fun _ hk => hk.2) (.int .i64 t259)) (fun _ h_ => h_.1))) hb); have n1_ := Aside0.mk (blk_below (g := gb250) (o := .cells #[.bool a0_0, .slice A0_1 l0_1.length c0_1, .int .i64 a0_2] 25 (0, 0)) (by (with_reducible repeat (first | refine blk_drewN ?_ _ | refine blk_drew ?_ | refine blk_alloc ?_ _)); refine blk_far ?_ NB250_261.out _; (with_reducible repeat (first | refine blk_drewN ?_ _ | refine blk_drew ?_ | refine blk_alloc ?_ _)); refine blk_far ?_ NB250_261.out _; (with_reducible repeat (first | refine blk_drewN ?_ _ | refine blk_drew ?_ | refine blk_alloc ?_ _)); refine blk_far ?_ NB250_261.out _; (with_reducible repeat (first | refine blk_drewN ?_ _ | refine blk_drew ?_ | refine blk_alloc ?_ _)); exact BK250.out) hb); have n2_ := Aside0.mk (blk_below (g := gb261) (o := .cells #[.bool t255, .slice Ao30 t256.length co30, .int .i64 t259] 25 (0, 0)) (by (with_reducible repeat (first | refine blk_drewN ?_ _ | refine blk_drew ?_ | refine blk_alloc ?_ _)); refine blk_put (cs := #[.bool t255, .slice Ao30 t256.length co30, .int .i64 0]) ?_ 2 _ rfl; (with_reducible repeat (first | refine blk_drewN ?_ _ | refine blk_drew ?_ | refine blk_alloc ?_ _)); refine blk_put (cs := #[.bool t255, .slice none 0 0, .int .i64 0]) ?_ 1 _ rfl; (with_reducible repeat (first | refine blk_drewN ?_ _ | refine blk_drew ?_ | refine blk_alloc ?_ _)); refine blk_put (cs := #[.bool false, .slice none 0 0, .int .i64 0]) ?_ 0 _ rfl; (with_reducible repeat (first | refine blk_drewN ?_ _ | refine blk_drew ?_ | refine blk_alloc ?_ _)); exact BK261.out) hb); have n3_ := Aside0.mk (below_step (by repeat (first | (with_reducible first | exact HB.out | apply below_alloc | apply pw_below_drewN | apply below_drew1 | refine below_set ?_ GE250.out | refine below_set ?_ GE261.out) | exact HB.out)) hb); clear HO258; clear BK250; clear BK261; clear HB; have HO258 := n0_; have BK250 := n1_; have BK261 := n2_; have HB := n3_; clear n0_ n1_ n2_ n3_; (try clear hb); (try clear hb2); (try clear hk); (try clear hi)) | (go_at_call 9; (with_reducible refine (erratumlaw02_awake.calls kj2  t263 _ ?side1 A23.out).mono ?_); (case side1 => first | exact hL.out | exact hL.out.drewN _ | exact hL.out.drew | exact hL.out.below (by repeat (first | (with_reducible first | exact HB.out | apply below_alloc | apply pw_below_drewN | apply below_drew1 | refine below_set ?_ GE250.out | refine below_set ?_ GE261.out) | exact HB.out))); rintro e w32 ⟨rfl, hb⟩; have n0_ := Aside0.mk (Kd.R_below (by (with_reducible repeat (first | apply Kd.R_alloc | apply Kd.R_drewN | apply Kd.R_drew)); exact HO258.out) hb); have n1_ := Aside0.mk (blk_below (g := gb250) (o := .cells #[.bool a0_0, .slice A0_1 l0_1.length c0_1, .int .i64 a0_2] 25 (0, 0)) (by (with_reducible repeat (first | refine blk_drewN ?_ _ | refine blk_drew ?_ | refine blk_alloc ?_ _)); exact BK250.out) hb); have n2_ := Aside0.mk (blk_below (g := gb261) (o := .cells #[.bool t255, .slice Ao30 t256.length co30, .int .i64 t259] 25 (0, 0)) (by (with_reducible repeat (first | refine blk_drewN ?_ _ | refine blk_drew ?_ | refine blk_alloc ?_ _)); exact BK261.out) hb); have n3_ := Aside0.mk (below_step (by repeat (first | (with_reducible first | exact HB.out | apply below_alloc | apply pw_below_drewN | apply below_drew1 | refine below_set ?_ GE250.out | refine below_set ?_ GE261.out) | exact HB.out)) hb); clear HO258; clear BK250; clear BK261; clear HB; have HO258 := n0_; have BK250 := n1_; have BK261 := n2_; have HB := n3_; clear n0_ n1_ n2_ n3_; (try clear hb); (try clear hb2); (try clear hk); (try clear hi)))
                    try (any_goals (with_reducible refine halt_absurd ?_; (try simp only [ByteArray.size_extract, ByteArray.size_append, ba_size_mk, List.size_toArray, List.length_cons, List.length_nil] at *) <;> omega))
                    go_ret
                    exact ⟨by first | rfl | (simp [errW_none, errW_some] <;> rfl) | (simp [*, errW_none, errW_some] <;> rfl), by repeat (first | (with_reducible first | exact HB.out | apply below_alloc | apply pw_below_drewN | apply below_drew1 | refine below_set ?_ GE250.out | refine below_set ?_ GE261.out) | exact HB.out)⟩
                  · replace c22 := Bool.eq_false_iff.mpr c22
                    subst c22
                    have H1 : (some false) = some r := by rw [if_neg (show ¬ (false = true) by decide)] at H; exact H
                    clear H
                    have H := H1
                    clear H1
                    exact absurd ((Option.some.inj H).trans hT) (by decide)
                · rw [if_neg c20] at H
                  have c20b0 : (t260 == 2) = false := beq_eq_false_iff_ne.mpr c20
                  have c20b1 : (t260 != 2) = true := bne_iff_ne.mpr c20
                  exact absurd ((Option.some.inj H).trans hT) (by decide)
              · rw [if_neg c17] at H
                exact absurd H (by simp)
            · rw [if_neg c16] at H
              exact absurd H (by simp)
          · rw [if_neg c15] at H
            exact absurd H (by simp)
        · rw [if_neg c14] at H
          exact absurd H (by simp)

end Go.Proofs.YtmkdcokdilllcaaDoor.X
/- The law of wrong texts holds. -/
namespace Go.Proofs.YtmkdcokdilllcaaDoor.X
open Go.RowKit Go.Proofs.YtmkdcokdilllcaaDoorW.PrintWords Go.Proofs.YtmkdcokdilllcaaDoorW.PrintMore
set_option linter.unusedVariables false
set_option linter.unusedSimpArgs false
theorem good_pos {g : Bool} {n : Nat} {E : Int} (h : GoodNum g n E) : GoodNum false n E := ⟨fun h0 => ⟨rfl, (h.zero h0).2⟩, h.ten, h.limbs, h.lo, h.hi⟩
/-- A text of a positive number begins with a digit. -/
theorem parts_head {n : Nat} {E : Int} {w : List UInt8} {f : Option (List UInt8)} {x : Option (UInt8 × Bool × Bool × List UInt8)} (h : Parts false n E w f x) :
    ∃ c l, partsL false w f x [] = c :: l ∧ isDig c = true := by
  rcases w with _ | ⟨c, w⟩
  · exact (h.ne rfl).elim
  · exact ⟨c, _, rfl, h.dig c (by simp)⟩
theorem spec_bad (l : List UInt8) (c : UInt8) (hc : isDig c = false) (h45 : c ≠ 45) : specL (c :: l) = none := by
  refine spec_none ?_
  have h : pHas [45] (c :: l) = false := by simp [pHas, h45]
  unfold pSkip
  rw [h]
  exact dg_stop (r := c :: l) hc
theorem spec_minus2 (l : List UInt8) : specL (45 :: 45 :: l) = none := by
  refine spec_none ?_
  show dg (45 :: l) = []
  exact dg_stop (r := 45 :: l) rfl
theorem dg_cons {c : UInt8} {l : List UInt8} (h : isDig c = true) : dg (c :: l) = c :: dg l := by
  unfold dg
  rw [List.takeWhile_cons, if_pos h]
theorem spec_nought (c : UInt8) (l : List UInt8) (hc : isDig c = true) : specL (48 :: c :: l) = none := by
  have h : pHas [45] (48 :: c :: l) = false := by simp [pHas]
  have h0 : pSkip [45] (48 :: c :: l) = 48 :: c :: l := by unfold pSkip; rw [h]; rfl
  have h1 : dg (48 :: c :: l) = 48 :: c :: dg l := by rw [dg_cons (by decide), dg_cons hc]
  unfold specL
  rw [h0, h1, if_neg (by simp), if_pos]
  unfold leadL
  simp
theorem res_none : resS none = (false, [], 0, 2) := rfl
theorem parts_back (w : List UInt8) (f : Option (List UInt8)) (x : Option (UInt8 × Bool × Bool × List UInt8)) (r : List UInt8) : partsL false w f x [] ++ r = partsL false w f x r := by
  unfold partsL
  simp
/-- THE LAW OF WRONG TEXTS. -/
theorem numWrong_true (a : Bool) (la : List Int) (ea : Int) (v : Int) (ha : Ok la) (v0 : -9223372036854775808 ≤ v) (v1 : v ≤ 9223372036854775807) : Ev (fun k => erratumlaw02_NumWrong.f k a la ea v) true := by
  have hj : Ev (fun k => erratumlaw02_NumWrong.j0 k v true a la ea) true := by
    refine Ev.succN ?_
    simp only [erratumlaw02_NumWrong.j0, if_true]
    exact Ev.bind awake_true (Ev.now _)
  unfold erratumlaw02_NumWrong.f
  by_cases h1 : (la.length : Int) > 20
  · simp only [h1, if_true]
    exact hj
  · simp only [h1, if_false]
    refine Ev.bind (r2check ha (by omega) a ea) ?_
    rcases k1 : checkS a la ea with _ | _
    · exact hj
    · obtain ⟨g1, g2⟩ := check_good ha k1
      have g3 := good_pos g2
      obtain ⟨p, hp, p0, p1⟩ := place_of (v := v) (n := 8) (by decide) (by decide)
      have hd : (Lib.decDigits (val la)).length ≤ 900 := by rw [Lib.decDigits_length]; exact nDigits_le g3.limbs
      have tx := num_text_good g3
      have tl := text_len g3 hd
      obtain ⟨w, f, x, hpt, he⟩ := text_parts g3 hd
      obtain ⟨c0, l0, hc0, hdig⟩ := parts_head hpt
      rw [he] at tx tl
      rw [← g1] at tx
      have bads : ∀ r, (r = [101] ∨ r = [101, 43] ∨ r = [120] ∨ r = [46]) → specL (partsL false w f x [] ++ r) = none := fun r hr => by rw [parts_back]; exact parts_bad hpt r hr
      have q0 : specL ([43] ++ partsL false w f x []) = none := spec_bad _ 43 (by decide) (by decide)
      have q1 : specL ([45, 45] ++ partsL false w f x []) = none := spec_minus2 _
      have q2 : specL ([48] ++ partsL false w f x []) = none := by rw [hc0]; exact spec_nought _ _ hdig
      have q3 := bads [101] (by simp)
      have q4 := bads [101, 43] (by simp)
      have q5 := bads [120] (by simp)
      have q6 : specL ([32] ++ partsL false w f x []) = none := spec_bad _ 32 (by decide) (by decide)
      have q7 := bads [46] (by simp)
      clear bads
      generalize partsL false w f x [] = t at *
      have hbad : ∀ s : ByteArray, s.size ≤ 2000 → specL s.data.toList = none → Ev (fun k => num_Parse.f k s) (false, [], 0, 2) := fun s hs hn => by
        have := num_text s hs
        rw [hn, res_none] at this
        exact this
      have e43 : (ByteArray.mk #[43]).data.toList = [43] := rfl
      have e45 : (ByteArray.mk #[45, 45]).data.toList = [45, 45] := rfl
      have e48 : (ByteArray.mk #[48]).data.toList = [48] := rfl
      have e101 : (ByteArray.mk #[101]).data.toList = [101] := rfl
      have e102 : (ByteArray.mk #[101, 43]).data.toList = [101, 43] := rfl
      have e120 : (ByteArray.mk #[120]).data.toList = [120] := rfl
      have e32 : (ByteArray.mk #[32]).data.toList = [32] := rfl
      have e46 : (ByteArray.mk #[46]).data.toList = [46] := rfl
      have s43 : (ByteArray.mk #[43]).size = 1 := rfl
      have s45 : (ByteArray.mk #[45, 45]).size = 2 := rfl
      have s48 : (ByteArray.mk #[48]).size = 1 := rfl
      have s101 : (ByteArray.mk #[101]).size = 1 := rfl
      have s102 : (ByteArray.mk #[101, 43]).size = 2 := rfl
      have s120 : (ByteArray.mk #[120]).size = 1 := rfl
      have s32 : (ByteArray.mk #[32]).size = 1 := rfl
      have s46 : (ByteArray.mk #[46]).size = 1 := rfl
      have st : (ByteArray.mk t.toArray).size = t.length := ba_len t
      have hparse : Ev (fun k => num_Parse.f k (rdOf ByteArray.empty ([(⟨#[43]⟩ : ByteArray) ++ ⟨t.toArray⟩, (⟨#[45, 45]⟩ : ByteArray) ++ ⟨t.toArray⟩, (⟨#[48]⟩ : ByteArray) ++ ⟨t.toArray⟩, ⟨t.toArray⟩ ++ (⟨#[101]⟩ : ByteArray), ⟨t.toArray⟩ ++ (⟨#[101, 43]⟩ : ByteArray), ⟨t.toArray⟩ ++ (⟨#[120]⟩ : ByteArray), (⟨#[32]⟩ : ByteArray) ++ ⟨t.toArray⟩, ⟨t.toArray⟩ ++ (⟨#[46]⟩ : ByteArray)] : List ByteArray) p)) (false, [], 0, 2) := by
        have hpp : p = 0 ∨ p = 1 ∨ p = 2 ∨ p = 3 ∨ p = 4 ∨ p = 5 ∨ p = 6 ∨ p = 7 := by omega
        rcases hpp with rfl | rfl | rfl | rfl | rfl | rfl | rfl | rfl
        · exact hbad (⟨#[43]⟩ ++ ⟨t.toArray⟩) (by rw [ByteArray.size_append, s43, st]; omega) (by rw [append_list, e43, ba_mk]; exact q0)
        · exact hbad (⟨#[45, 45]⟩ ++ ⟨t.toArray⟩) (by rw [ByteArray.size_append, s45, st]; omega) (by rw [append_list, e45, ba_mk]; exact q1)
        · exact hbad (⟨#[48]⟩ ++ ⟨t.toArray⟩) (by rw [ByteArray.size_append, s48, st]; omega) (by rw [append_list, e48, ba_mk]; exact q2)
        · exact hbad (⟨t.toArray⟩ ++ ⟨#[101]⟩) (by rw [ByteArray.size_append, s101, st]; omega) (by rw [append_list, e101, ba_mk]; exact q3)
        · exact hbad (⟨t.toArray⟩ ++ ⟨#[101, 43]⟩) (by rw [ByteArray.size_append, s102, st]; omega) (by rw [append_list, e102, ba_mk]; exact q4)
        · exact hbad (⟨t.toArray⟩ ++ ⟨#[120]⟩) (by rw [ByteArray.size_append, s120, st]; omega) (by rw [append_list, e120, ba_mk]; exact q5)
        · exact hbad (⟨#[32]⟩ ++ ⟨t.toArray⟩) (by rw [ByteArray.size_append, s32, st]; omega) (by rw [append_list, e32, ba_mk]; exact q6)
        · exact hbad (⟨t.toArray⟩ ++ ⟨#[46]⟩) (by rw [ByteArray.size_append, s46, st]; omega) (by rw [append_list, e46, ba_mk]; exact q7)
      have k1' : 1 + (ByteArray.mk t.toArray).size ≤ 9223372036854775807 := by omega
      have k2' : 2 + (ByteArray.mk t.toArray).size ≤ 9223372036854775807 := by omega
      have k3' : (ByteArray.mk t.toArray).size + 1 ≤ 9223372036854775807 := by omega
      have k4' : (ByteArray.mk t.toArray).size + 2 ≤ 9223372036854775807 := by omega
      refine Ev.succN ?_
      simp only [erratumlaw02_NumWrong.j0, Bool.not_true, Bool.false_eq_true, if_false]
      refine Ev.bind tx ?_
      simp only [k1', k2', k3', k4', if_true, hp, Option.bind_some]
      refine Ev.bind hparse ?_
      simp only [if_true]
      refine Ev.bind (same_num false [] 0 (by decide)) ?_
      simp only [if_true]
      exact Ev.bind awake_true (Ev.now _)
end Go.Proofs.YtmkdcokdilllcaaDoor.X
/- The row and the card of NumWrong. -/
namespace Go.Proofs.YtmkdcokdilllcaaDoor.X
open Go.ChangeShapes Go.WideShapes Go.ChangeAt Go.RowKit
set_option maxRecDepth 100000 in
theorem contractNumWrong (H : Type) (enc : TypeId × Value → H) (W : World) (base : Nat) (args : Array Value) (ds gs : List (DataW H)) (before : List MemPlace)
    (hval : ∀ (j : Nat) t v, Tryd.f5.params[j]? = some t → args[j]? = some v → Value.okWide Tryd.prog W .any base t v)
    (hW : DataW.Whole enc Tryd.prog Tryd.f5.params.toList Rows.numWrongSpec.vars false W args.toList ds gs before) (hL : laidMetH Tryd.prog Rows.numWrongRow.laid W) :
    Calls Tryd.prog 5 args W fun e W' => ∃ v, e = .returned v ∧ Rows.numWrongSpec.post enc Tryd.prog Tryd.f5 false true false false W args v W' := by
  have hW' := hW
  obtain ⟨p, q, hA0, hV, rfl, hfz, hnd⟩ := hW
  have hA : DataW.TrodAll enc Tryd.prog W 0 (fun _ => true) true Tryd.f5.params.toList args.toList ds p := hA0
  rw [Tryd.params5] at hA hval
  obtain ⟨v0, vs0, d0, ds0, p0, q0, hargs, rfl, rfl, h0, r0⟩ := trodAll_cons hA
  obtain ⟨v1, vs1, d1, ds1, p1, q1, rfl, rfl, rfl, h1, r1⟩ := trodAll_cons r0
  obtain ⟨rfl, rfl, rfl⟩ := trodAll_nil r1
  obtain rfl : args = #[v0, v1] := by cases args; simp_all
  obtain ⟨rfl, rfl⟩ := trodVars_none hV
  have k0 := h0
  have lt0 : ∀ x ∈ p0, x.block < W.heap.size := by obtain ⟨m, hm⟩ := k0; exact DataW.trod_lt m _ _ _ hm
  obtain ⟨g0, A0, l0, c0, e0, rfl, hr0, hc0, ok0, eb0⟩ := open_num (hval 0 25 v0 rfl rfl) h0
  obtain ⟨a1, rfl, rfl, rfl, w1⟩ := open_int Tryd.underlying3 (hval 1 3 v1 rfl rfl) h1
  have b1 := int_bounds w1
  clear hA0
  obtain ⟨k, hk⟩ := (numWrong_true g0 l0 e0 a1 ok0 b1.1 b1.2).rounds
  refine (erratumlaw02_NumWrong.calls k g0 A0 c0 l0 e0 a1 true W rfl (laid_of (show laidMetH Tryd.prog Rows.numTextsRow.laid W from hL)) hr0 hc0 hk).mono fun e W' ⟨he, bel⟩ => ?_
  subst he
  exact ⟨_, rfl, _, _, _, [], _, [], hW', trodAll_mk1 (shut_bool Tryd.underlying4 _), (trodAll_cons_mk (Below.trod laidOut (by kernel_rfl) (of_decide_eq_true (by kernel_rfl)) k0 bel lt0) (trodAll_cons_mk (shut_int Tryd.underlying3 w1) trodAll_mk0)), rfl, bel.frame _, fun h => by cases h⟩
theorem readsNumWrong (os : Os) {H : Type} (enc : TypeId × Value → H) : ∃ places, DataW.whole enc Tryd.prog ((laidWorld os).forCall (fun _ _ => 0) ⟨#[], #[.agg #[.bool false, .slice none 0 0, .int .i64 0], .int .i64 0], []⟩).memory Tryd.f5.params.toList Rows.numWrongSpec.vars false #[Value.agg #[.bool false, .slice none 0 0, .int .i64 0], Value.int .i64 0].toList 8 = some ([.agg [.lit (.bool false), .nil, .lit (.int .i64 0)], .lit (.int .i64 0)], [], places) :=
  ⟨[], by kernel_rfl⟩
set_option maxRecDepth 100000 in
theorem metNumWrong (os : Os) : laidMet Tryd.prog Rows.numWrongRow.laid ((laidWorld os).forCall (fun _ _ => 0) ⟨#[], #[.agg #[.bool false, .slice none 0 0, .int .i64 0], .int .i64 0], []⟩).memory :=
  laidMet_of_run' 8 (by kernel_rfl) (by kernel_rfl)
set_option maxRecDepth 100000 in
theorem liftedNumWrong (os : Os) (started : os.Started) (H : Type) (enc : TypeId × Value → H) (F : Stop.Interp) :
    ReturnsInHanded {} Tryd.checked os 5 .any ((OpenSpec.ofChange Rows.numWrongSpec).preRow enc Tryd.prog Tryd.f5 Rows.numWrongRow.domain false Rows.numWrongRow.laid) (((OpenSpec.ofChange Rows.numWrongSpec).at F).post enc Tryd.prog Tryd.f5 false true false false) := by
  obtain ⟨places, hx⟩ := readsNumWrong os enc
  refine returnsInHanded_of_row (C := Tryd.checked) (s := OpenSpec.ofChange Rows.numWrongSpec) own started (by kernel_rfl) Tryd.func5
    (witness_row_at (enc := enc) (C := Tryd.checked) false (laidWorld os) #[.agg #[.bool false, .slice none 0 0, .int .i64 0], .int .i64 0] rfl (by kernel_rfl) (by kernel_rfl) (by kernel_rfl)
      (OpenSpec.preRow_of_cond 8 hx (by kernel_rfl) (fun k hk => by cases hk) (by kernel_rfl) (metNumWrong os))) ?_
  intro W base args ds gs before hval hW _ _ _ hL _ _
  exact contractNumWrong H enc W base args ds gs before hval hW hL
theorem saidNumWrong : Rows.NumWrongSaid :=
  OpenClaim.holds_of_cond 5 Tryd.f5 rfl rfl rfl rfl rfl rfl rfl ⟨rfl, rfl, rfl, rfl, rfl⟩ rfl rfl rfl rfl rfl (by kernel_rfl) Tryd.func5 (by kernel_rfl)
    (of_decide_eq_true (by kernel_rfl)) (by unfold Func.isWrapper; first | (rw [if_pos (by decide +kernel)]; kernel_rfl) | (rw [if_neg (by decide +kernel)]; exact ⟨rfl, rfl⟩))
    (fun os started H enc _ F => by rw [OpenClaim.pre_eq_preRow]; exact liftedNumWrong os started H enc F)
theorem plainNumWrong (f : FuncId) (fn : Func) (hf : Tryd.pinned.checked.prog.funcNamed "erratum/erratumlaw02.NumWrong" = some f) (hfn : Tryd.pinned.checked.prog.funcs[f]? = some fn) :
    true = Tryd.pinned.checked.prog.looks [] ∧ ∀ (j : Nat) t, fn.params[j]? = some t → Tryd.pinned.checked.prog.wantsStandIn t = false := by
  obtain rfl : f = 5 := Option.some.inj ((show Tryd.prog.funcNamed "erratum/erratumlaw02.NumWrong" = some 5 by kernel_rfl).symm.trans hf) |>.symm
  obtain rfl : fn = Tryd.f5 := (Option.some.inj (Tryd.func5.symm.trans hfn)).symm
  refine ⟨by kernel_rfl, fun j t ht => ?_⟩
  rw [Tryd.params5] at ht
  have hm : t = 25 ∨ t = 3 := by simpa using Array.mem_of_getElem? ht
  rcases hm with rfl | rfl
  · exact (show Tryd.prog.wantsStandIn 25 = false by kernel_rfl)
  · exact (show Tryd.prog.wantsStandIn 3 = false by kernel_rfl)
theorem cardNumWrong : Rows.NumWrongCardSaid :=
  Claim7.holds_tied_plain_at .later [] _ _ _ _ saidNumWrong (fun _ h => by cases h) (by kernel_rfl) (fun _ h => by cases h) numWrong_row_tie rfl ⟨rfl, rfl⟩ (by kernel_rfl) rfl plainNumWrong (by kernel_rfl)
end Go.Proofs.YtmkdcokdilllcaaDoor.X
