import Derived.Test.YtmkdcokdilllcaaDoorMt3
import Derived.Test.YtmkdcokdilllcaaDoorMt4
-- A walk, written by a program of this session (xp.py).
namespace Go.Proofs.YtmkdcokdilllcaaDoor.X
open Go.RowKit Go.Proofs.YtmkdcokdilllcaaDoorW.PrintWords Go.Proofs.YtmkdcokdilllcaaDoorW.PrintLast Go.Proofs.YtmkdcokdilllcaaDoorW.PrintMore
attribute [local go_sem] max2_int min2_int max_two min_two max_three min_three max_four min_four
set_option linter.unusedVariables false
set_option linter.unusedSimpArgs false

/-! ### erratumref01_Small: function 32 -/
def erratumref01_Small.l0 : Nat → List Int → Int → List Int → Int → Int → Option (List Int × Int)
  | 0, _, _, _, _, _ => none
  | k + 1, x0, x1, x6, x7, x8 => if x8 ≥ 0 then (if x8 < (x0.length : Int) then (if (IntKind.u64.wrap (x1)) = 0 then (none) else (if x8 < (x6.length : Int) then (erratumref01_Small.l0 k x0 x1 (x6.set (x8 : Int).toNat ((IntKind.u64.wrap (Int.tdiv (IntKind.u64.wrap ((IntKind.u64.wrap (x7 * 4294967296)) + (IntKind.u64.wrap (rd x0 x8)))) (IntKind.u64.wrap (x1)))) % 4294967296)) (Int.tmod (IntKind.u64.wrap ((IntKind.u64.wrap (x7 * 4294967296)) + (IntKind.u64.wrap (rd x0 x8)))) (IntKind.u64.wrap (x1))) (wrap64 (x8 - 1))) else (none))) else (none)) else ((erratumref01_Norm.f k x6).bind fun t267 => (some (t267, (x7) % 4294967296)))
def erratumref01_Small.f (k : Nat) (l0 : List Int) (a1 : Int) : Option (List Int × Int) := if 0 ≤ (l0.length : Int) then (if ((l0.length : Int) : Int).toNat ≤ 70368744177664 then (erratumref01_Small.l0 k l0 a1 (List.replicate ((l0.length : Int) : Int).toNat 0) 0 (wrap64 ((l0.length : Int) - 1))) else (none)) else (none)
set_option maxHeartbeats 8000000 in
set_option maxRecDepth 100000 in
theorem erratumref01_Small.calls (k : Nat) (A0 : Option Addr) (c0 : Nat) (l0 : List Int) (a1 : Int) (r1 : List Int) (r2 : Int) (w : World) (hr0 : Kd.C (Kd.int .u32) w A0 l0.length l0) (hc0 : l0.length ≤ c0) (h : erratumref01_Small.f k l0 a1 = some (r1, r2)) :
    Calls Tryd.prog 32 #[.slice A0 l0.length c0, .int .u32 a1] w fun e w' => ∃ v0_ : Value, e = .returned (.tuple #[v0_, .int .u32 r2]) ∧ Kd.R (Kd.int .u32) 40 w' w.heap.size (fun _ => True) v0_ r1 ∧ Below w.heap.size w w' := by
  have HR0 := Aside0.mk hr0
  have HC0 := Aside0.mk hc0
  clear hr0 hc0
  have HB := Aside0.mk (Below.refl w.heap.size w)
  have H : (if 0 ≤ (l0.length : Int) then (if ((l0.length : Int) : Int).toNat ≤ 70368744177664 then (erratumref01_Small.l0 k l0 a1 (List.replicate ((l0.length : Int) : Int).toNat 0) 0 (wrap64 ((l0.length : Int) - 1))) else (none)) else (none)) = some (r1, r2) := h
  clear h
  by_cases c3 : 0 ≤ (l0.length : Int)
  · rw [if_pos c3] at H
    have c3b0 := eq_true c3
    have c3b1 : decide (0 ≤ (l0.length : Int)) = true := decide_eq_true c3
    clear c3
    by_cases c4 : ((l0.length : Int) : Int).toNat ≤ 70368744177664
    · rw [if_pos c4] at H
      have c4b0 := eq_true c4
      have c4b1 : decide (((l0.length : Int) : Int).toNat ≤ 70368744177664) = true := decide_eq_true c4
      clear c4
      obtain ⟨y262, hy262⟩ : ∃ y_ : List Int, y_ = (List.replicate ((l0.length : Int) : Int).toNat 0) := ⟨_, rfl⟩
      replace H : (erratumref01_Small.l0 k l0 a1 y262 0 (wrap64 ((l0.length : Int) - 1))) = some (r1, r2) := by first | (rw [hy262]; with_reducible exact H) | (have H2_ := (Option.bind_some _ _).symm.trans H; rw [hy262]; with_reducible exact H2_) | (have H2_ := (Option.bind_some _ _).symm.trans H; with_reducible exact H2_) | with_reducible exact H | (rw [hy262]; exact H) | exact H
      have Ny262 := Aside0.mk hy262
      clear hy262
      have H' := Aside0.mk H
      clear H
      go_enter Tryd.func32, Tryd.ntmps32
      go_wp2_with (first | ((with_reducible refine gate_dst (N := 11) rfl ?_); refine Kd.R_make (Kd.int .u32) _ 40 rfl (N := 11) rfl 23 _ _ rfl (l0.length : Int) rfl rfl Tryd.underlying23 (.int .u32 0) 4 info40 rfl (by decide) (by omega) 0 (ok := fun _ => True) (okp := fun _ => True) rfl (fun _ hk => hk) trivial (of_decide_eq_true (by first | (with_reducible assumption) | assumption)) (Nat.le_trans (Nat.mul_le_mul_right _ (of_decide_eq_true (by first | (with_reducible assumption) | assumption) : (l0.length : Int).toNat ≤ 70368744177664)) (by omega)) (Below.refl _ _) (Nat.le_refl _) ?_; intro v263 w5 ho6 hb hg_ hnew_; clear hg_ hnew_; (first | rw [← Ny262.out] at ho6 | (simp only [Int.reduceToNat] at ho6; rw [← Ny262.out] at ho6)); have n0_ := Aside0.mk (Kd.R_lower ho6 (below_size (by repeat (first | (with_reducible first | exact HB.out | apply below_alloc | apply pw_below_drewN | apply below_drew1) | exact HB.out)))); have n1_ := Aside0.mk (below_step (by repeat (first | (with_reducible first | exact HB.out | apply below_alloc | apply pw_below_drewN | apply below_drew1) | exact HB.out)) hb); clear HB; have HO264 := n0_; have HB := n1_; clear n0_ n1_; clear hb ho6))
      go_loopg [7, 8] k (fun kq v7 v8 w' => ∃ (x6_1 : List Int) (x7_1 : Int) (x8_1 : Int), v7 = .int .u64 x7_1 ∧ v8 = .int .i64 x8_1 ∧ Aside0 (erratumref01_Small.l0 kq l0 a1 x6_1 x7_1 x8_1 = some (r1, r2)) ∧ Aside0 (kq ≤ k) ∧ Aside0 (Kd.R (Kd.int .u32) 40 w' w.heap.size (fun _ => True) v263 x6_1) ∧ Aside0 (Below w.heap.size w w'))
      case atStart => exact ⟨(y262), (0), (wrap64 ((l0.length : Int) - 1)), (by first | rfl | (simp; done) | (simp [*]; done)), (by first | rfl | (simp; done) | (simp [*]; done)), H', ⟨Nat.le_refl _⟩, ⟨by (with_reducible repeat (first | apply Kd.R_alloc | apply Kd.R_drewN | apply Kd.R_drew)); exact HO264.out⟩, ⟨by repeat (first | (with_reducible first | exact HB.out | apply below_alloc | apply pw_below_drewN | apply below_drew1) | exact HB.out)⟩⟩
      case round =>
        clear H'
        try clear p2
        try clear c3
        try clear c3b0
        try clear c3b1
        try clear c4
        try clear c4b0
        try clear c4b1
        try clear p6
        obtain ⟨x6_1, x7_1, x8_1, rfl, rfl, HA, HK1, HO_6, HB⟩ := hrel
        cases gk with
        | zero => exact absurd HA.out (by simp [erratumref01_Small.l0])
        | succ k1 =>
          have H := HA.out
          clear HA
          simp only [erratumref01_Small.l0] at H
          by_cases c7 : x8_1 ≥ 0
          · rw [if_pos c7] at H
            have c7b0 : decide (0 ≤ x8_1) = true := decide_eq_true c7
            clear c7
            by_cases c8 : x8_1 < (l0.length : Int)
            · rw [if_pos c8] at H
              have c8b0 : decide (x8_1 < (l0.length : Int)) = true := decide_eq_true c8
              clear c8
              by_cases c9 : (IntKind.u64.wrap (a1)) = 0
              · rw [if_pos c9] at H
                exact absurd H (by simp)
              · rw [if_neg c9] at H
                have c9b0 : ((IntKind.u64.wrap (a1)) == 0) = false := beq_eq_false_iff_ne.mpr c9
                have c9b1 : ((IntKind.u64.wrap (a1)) != 0) = true := bne_iff_ne.mpr c9
                by_cases c10 : x8_1 < (x6_1.length : Int)
                · rw [if_pos c10] at H
                  have c10b0 : decide (x8_1 < (x6_1.length : Int)) = true := decide_eq_true c10
                  clear c10
                  obtain ⟨y266, hy266⟩ : ∃ y_ : List Int, y_ = (x6_1.set (x8_1 : Int).toNat ((IntKind.u64.wrap (Int.tdiv (IntKind.u64.wrap ((IntKind.u64.wrap (x7_1 * 4294967296)) + (IntKind.u64.wrap (rd l0 x8_1)))) (IntKind.u64.wrap (a1)))) % 4294967296)) := ⟨_, rfl⟩
                  replace H : (erratumref01_Small.l0 k1 l0 a1 y266 (Int.tmod (IntKind.u64.wrap ((IntKind.u64.wrap (x7_1 * 4294967296)) + (IntKind.u64.wrap (rd l0 x8_1)))) (IntKind.u64.wrap (a1))) (wrap64 (x8_1 - 1))) = some (r1, r2) := by first | (rw [hy266]; with_reducible exact H) | (have H2_ := (Option.bind_some _ _).symm.trans H; rw [hy266]; with_reducible exact H2_) | (have H2_ := (Option.bind_some _ _).symm.trans H; with_reducible exact H2_) | with_reducible exact H | (rw [hy266]; exact H) | exact H
                  have Ny266 := Aside0.mk hy266
                  clear hy266
                  have H' := Aside0.mk H
                  clear H
                  have p265 : 0 ≤ (x8_1 : Int) := of_decide_eq_true (by first | (with_reducible assumption) | assumption)
                  have q265 : x8_1 < (l0.length : Int) := of_decide_eq_true (by first | (with_reducible assumption) | assumption)
                  obtain ⟨ad265, e265, hx265_0⟩ := Kd.at_int HR0.out x8_1 p265 q265
                  cases e265
                  replace hx265_0 := (HB.out.cell (World.block_lt_of_cell? w _ hx265_0)).trans hx265_0
                  replace p265 := eq_true p265
                  replace q265 := eq_true q265
                  have p11 : 0 ≤ (x8_1 : Int) := of_decide_eq_true (by first | (with_reducible assumption) | assumption)
                  have q11 : (x8_1 : Int) < ((x6_1.length : Int) : Int) := of_decide_eq_true (by first | (with_reducible assumption) | assumption)
                  obtain ⟨go11, co11, eo11, gb11, gl11, cl11, HG11⟩ := Kd.R_form HO_6.out (by omega)
                  (first | cases eo11 | (injection eo11 with ea_ en_ ec_; (first | subst ea_ | (injection ea_ with ea_; subst ea_)); subst ec_; clear en_))
                  have GB11 := Aside0.mk gb11
                  have GG11 := Aside0.mk HG11
                  clear gb11 gl11 HG11
                  obtain ⟨hx11_0, hf11_0⟩ := Kd.R_celln 0 HO_6.out (x8_1 : Int) p11 q11
                  replace p11 := eq_true p11
                  replace q11 := eq_true q11
                  have HP12 := Kd.R_putg HO_6.out (x8_1 : Int) ((IntKind.u64.wrap (Int.tdiv (IntKind.u64.wrap ((IntKind.u64.wrap (x7_1 * 4294967296)) + (IntKind.u64.wrap (rd l0 x8_1)))) (IntKind.u64.wrap (a1)))) % 4294967296)
                  go_wp2_with (first | ((with_reducible refine gate_store (t := 40) (p := 34) rfl ?_); refine store_event (t := 40) (p := 34) (v := ?vo_w13) (w1 := (wr.setCell ⟨go11, (x8_1 : Int).toNat, none⟩ (.int .u32 ((IntKind.u64.wrap (Int.tdiv (IntKind.u64.wrap ((IntKind.u64.wrap (x7_1 * 4294967296)) + (IntKind.u64.wrap (rd l0 x8_1)))) (IntKind.u64.wrap (a1)))) % 4294967296)))) ?hg ?ho ?hn ?hr ?_; (case ho => rfl); (case hg => rfl); (case hn => rfl); (case hr => first | (go_simp; done) | (go_simp; rfl) | (go_simp; simp only [x_u32u8, x_u8, x_u32, x_u64, x_mm]; first | done | rfl)); intro w13 hw; have hg : wr.grownBy w13 (some go11) := (by rw [hw]; exact HP12.2); have hp_ : Kd.R (Kd.int .u32) 40 w13 w.heap.size (fun _ => True) (.slice (some ⟨go11, 0, none⟩) x6_1.length co11) y266 := (by rw [hw, Ny266.out]; exact HP12.1); clear HP12; have n0_ := Aside0.mk (hp_); have n1_ := Aside0.mk ((by rw [hw]; exact below_set (HB.out) GB11.out : Below w.heap.size w w13)); clear HO_6; clear HB; have HO_6 := n0_; have HB := n1_; clear n0_ n1_; clear hg hw hp_))
                  go_roundg k1
                  case measure => have := HK1.out; omega
                  case rel => exact ⟨(y266), (Int.tmod (IntKind.u64.wrap ((IntKind.u64.wrap (x7_1 * 4294967296)) + (IntKind.u64.wrap (rd l0 x8_1)))) (IntKind.u64.wrap (a1))), (wrap64 (x8_1 - 1)), (by first | rfl | (simp; done) | (simp [*]; done)), (by first | rfl | (simp; done) | (simp [*]; done)), H', ⟨by have := HK1.out; omega⟩, ⟨by (with_reducible repeat (first | apply Kd.R_alloc | apply Kd.R_drewN | apply Kd.R_drew)); exact HO_6.out⟩, ⟨by repeat (first | (with_reducible first | exact HB.out | apply below_alloc | apply pw_below_drewN | apply below_drew1) | exact HB.out)⟩⟩
                · rw [if_neg c10] at H
                  exact absurd H (by simp)
            · rw [if_neg c8] at H
              exact absurd H (by simp)
          · rw [if_neg c7] at H
            have c7b0 : decide (0 ≤ x8_1) = false := decide_eq_false c7
            clear c7
            replace H := Option.bind_eq_some_iff.mp H
            obtain ⟨t267, A140, H⟩ := H
            replace H : (some (t267, (x7_1) % 4294967296)) = some (r1, r2) := H
            have A14 := Aside0.mk A140
            clear A140
            simp only [Option.some.injEq, Prod.mk.injEq] at H
            obtain ⟨rfl, rfl⟩ := H
            obtain ⟨Ao15, co15, eo15⟩ := Kd.R_slice HO_6.out
            subst eo15
            go_wp2_with (first | ((with_reducible refine gate_callee (f := 37) rfl ?_); refine goesL_ (some 40) rfl rfl Tryd.func37 (by kernel_rfl) rfl #[.slice Ao15 x6_1.length co15] rfl (by (try simp only [List.map_toArray, List.map_cons, List.map_nil]); first | done | rfl | (simp only [List.length_drop, List.length_take]; rfl)) ?_; (with_reducible refine (erratumref01_Norm.calls k1 _ _ x6_1 t267 _ ?side1 ?side2 A14.out).mono ?_); (case side1 => repeat (first | exact (Kd.R_reads' HO_6.out).2.2 | (with_reducible refine Kd.C_alloc ?_ _) | (with_reducible refine Kd.C_drewN ?_ _) | (with_reducible refine Kd.C_drew ?_))); (case side2 => exact (Kd.R_reads' HO_6.out).2.1); rintro e w16 ⟨v268, rfl, ho0, hb⟩; refine ⟨_, rfl, ?_⟩; have n0_ := Aside0.mk (Kd.R_elder' (by (with_reducible repeat (first | apply Kd.R_alloc | apply Kd.R_drewN | apply Kd.R_drew)); exact HO_6.out) (Kd.R_base ho0) hb); have n1_ := Aside0.mk (Kd.R_lower (Kd.R_new' ho0 (Kd.R_lt (by (with_reducible repeat (first | apply Kd.R_alloc | apply Kd.R_drewN | apply Kd.R_drew)); exact HO_6.out))) (below_size (by repeat (first | (with_reducible first | exact HB.out | apply below_alloc | apply pw_below_drewN | apply below_drew1) | exact HB.out)))); have n2_ := Aside0.mk (below_step (by repeat (first | (with_reducible first | exact HB.out | apply below_alloc | apply pw_below_drewN | apply below_drew1) | exact HB.out)) hb); clear HO_6; clear HB; have HO_6 := n0_; have HO269 := n1_; have HB := n2_; clear n0_ n1_ n2_; (try clear hb); (try clear hb2); (try clear hk); (try clear hi); (try clear ho0)))
            go_ret2
            exact ⟨_, by first | rfl | (simp [errW_none, errW_some] <;> rfl) | (simp [*, errW_none, errW_some] <;> rfl), by (with_reducible repeat (first | apply Kd.R_alloc | apply Kd.R_drewN | apply Kd.R_drew)); exact Kd.R_mono HO269.out (fun _ hk => trivial), by repeat (first | (with_reducible first | exact HB.out | apply below_alloc | apply pw_below_drewN | apply below_drew1) | exact HB.out)⟩
    · rw [if_neg c4] at H
      exact absurd H (by simp)
  · rw [if_neg c3] at H
    exact absurd H (by simp)

end Go.Proofs.YtmkdcokdilllcaaDoor.X
-- A walk, written by a program of this session (xp.py).
namespace Go.Proofs.YtmkdcokdilllcaaDoor.X
open Go.RowKit Go.Proofs.YtmkdcokdilllcaaDoorW.PrintWords Go.Proofs.YtmkdcokdilllcaaDoorW.PrintLast Go.Proofs.YtmkdcokdilllcaaDoorW.PrintMore
attribute [local go_sem] max2_int min2_int max_two min_two max_three min_three max_four min_four
set_option linter.unusedVariables false
set_option linter.unusedSimpArgs false

/-! ### erratumref01_Trim: function 52 -/
def erratumref01_Trim.l0 : Nat → List Int → Int → Option (List Int × Int)
  | 0, _, _ => none
  | k + 1, x4, x5 => if (x4.length : Int) > 0 then ((erratumref01_Small.f k x4 10).bind fun bt273 => (if bt273.2 = 0 then (erratumref01_Trim.l0 k bt273.1 (wrap64 (x5 + 1))) else (some (x4, x5)))) else (some (x4, x5))
def erratumref01_Trim.f (k : Nat) (l0 : List Int) : Option (List Int × Int) := (erratumref01_Norm.f k l0).bind fun t270 => (erratumref01_Trim.l0 k t270 0)
set_option maxHeartbeats 8000000 in
set_option maxRecDepth 100000 in
theorem erratumref01_Trim.calls (k : Nat) (A0 : Option Addr) (c0 : Nat) (l0 : List Int) (r1 : List Int) (r2 : Int) (w : World) (hr0 : Kd.C (Kd.int .u32) w A0 l0.length l0) (hc0 : l0.length ≤ c0) (h : erratumref01_Trim.f k l0 = some (r1, r2)) :
    Calls Tryd.prog 52 #[.slice A0 l0.length c0] w fun e w' => ∃ v0_ : Value, e = .returned (.tuple #[v0_, .int .i64 r2]) ∧ Kd.R (Kd.int .u32) 40 w' w.heap.size (fun _ => True) v0_ r1 ∧ Below w.heap.size w w' := by
  have HR0 := Aside0.mk hr0
  have HC0 := Aside0.mk hc0
  clear hr0 hc0
  have HB := Aside0.mk (Below.refl w.heap.size w)
  have H : ((erratumref01_Norm.f k l0).bind fun t270 => (erratumref01_Trim.l0 k t270 0)) = some (r1, r2) := h
  clear h
  replace H := Option.bind_eq_some_iff.mp H
  obtain ⟨t270, A20, H⟩ := H
  replace H : (erratumref01_Trim.l0 k t270 0) = some (r1, r2) := H
  have A2 := Aside0.mk A20
  clear A20
  have H' := Aside0.mk H
  clear H
  go_enter Tryd.func52, Tryd.ntmps52
  go_wp2_with (first | ((with_reducible refine gate_callee (f := 37) rfl ?_); refine goesL_ (some 9) rfl rfl Tryd.func37 (by kernel_rfl) rfl #[.slice A0 l0.length c0] rfl (by (try simp only [List.map_toArray, List.map_cons, List.map_nil]); first | done | rfl | (simp only [List.length_drop, List.length_take]; rfl)) ?_; (with_reducible refine (erratumref01_Norm.calls k _ _ l0 t270 _ ?side1 ?side2 A2.out).mono ?_); (case side1 => repeat (first | exact HR0.out | (with_reducible refine Kd.C_alloc ?_ _) | (with_reducible refine Kd.C_drewN ?_ _) | (with_reducible refine Kd.C_drew ?_))); (case side2 => exact HC0.out); rintro e w3 ⟨v271, rfl, ho0, hb⟩; refine ⟨_, rfl, ?_⟩; have n0_ := Aside0.mk (Kd.R_lower ho0 (below_size (by repeat (first | (with_reducible first | exact HB.out | apply below_alloc | apply pw_below_drewN | apply below_drew1) | exact HB.out)))); have n1_ := Aside0.mk (below_step (by repeat (first | (with_reducible first | exact HB.out | apply below_alloc | apply pw_below_drewN | apply below_drew1) | exact HB.out)) hb); clear HB; have HO272 := n0_; have HB := n1_; clear n0_ n1_; (try clear hb); (try clear hb2); (try clear hk); (try clear hi); (try clear ho0)))
  go_loopg [4, 5] k (fun kq v4 v5 w' => ∃ (x4_1 : List Int) (x5_1 : Int), v5 = .int .i64 x5_1 ∧ Aside0 (erratumref01_Trim.l0 kq x4_1 x5_1 = some (r1, r2)) ∧ Aside0 (kq ≤ k) ∧ Aside0 (Kd.R (Kd.int .u32) 40 w' w.heap.size (fun _ => True) v4 x4_1) ∧ Aside0 (Below w.heap.size w w'))
  case atStart => exact ⟨(t270), (0), (by first | rfl | (simp; done) | (simp [*]; done)), H', ⟨Nat.le_refl _⟩, ⟨by (with_reducible repeat (first | apply Kd.R_alloc | apply Kd.R_drewN | apply Kd.R_drew)); exact HO272.out⟩, ⟨by repeat (first | (with_reducible first | exact HB.out | apply below_alloc | apply pw_below_drewN | apply below_drew1) | exact HB.out)⟩⟩
  case round =>
    clear H'
    try clear p2
    try clear c3
    obtain ⟨x4_1, x5_1, rfl, HA, HK1, HO_4, HB⟩ := hrel
    cases gk with
    | zero => exact absurd HA.out (by simp [erratumref01_Trim.l0])
    | succ k1 =>
      have H := HA.out
      clear HA
      simp only [erratumref01_Trim.l0] at H
      by_cases c4 : (x4_1.length : Int) > 0
      · rw [if_pos c4] at H
        have c4b0 : decide (0 < (x4_1.length : Int)) = true := decide_eq_true c4
        have c4b1 : decide (0 < x4_1.length) = true := decide_eq_true (by omega)
        clear c4
        replace H := Option.bind_eq_some_iff.mp H
        obtain ⟨⟨t273, t274⟩, A50, H⟩ := H
        replace H : (if t274 = 0 then (erratumref01_Trim.l0 k1 t273 (wrap64 (x5_1 + 1))) else (some (x4_1, x5_1))) = some (r1, r2) := H
        have A5 := Aside0.mk A50
        clear A50
        by_cases c6 : t274 = 0
        · rw [if_pos c6] at H
          have c6b0 : (t274 == 0) = true := beq_iff_eq.mpr c6
          have c6b1 : (t274 != 0) = false := bne_eq_false_iff_eq.mpr c6
          clear c6
          have H' := Aside0.mk H
          clear H
          obtain ⟨Ao7, co7, eo7⟩ := Kd.R_slice HO_4.out
          subst eo7
          go_wp2_with (first | ((with_reducible refine gate_callee (f := 32) rfl ?_); refine goesL_ (some 15) rfl rfl Tryd.func32 (by kernel_rfl) rfl #[.slice Ao7 x4_1.length co7, .int .u32 10] rfl (by (try simp only [List.map_toArray, List.map_cons, List.map_nil]); first | done | rfl | (simp only [List.length_drop, List.length_take]; rfl)) ?_; (with_reducible refine (erratumref01_Small.calls k1 _ _ x4_1 10 t273 t274 _ ?side1 ?side2 A5.out).mono ?_); (case side1 => repeat (first | exact (Kd.R_reads' HO_4.out).2.2 | (with_reducible refine Kd.C_alloc ?_ _) | (with_reducible refine Kd.C_drewN ?_ _) | (with_reducible refine Kd.C_drew ?_))); (case side2 => exact (Kd.R_reads' HO_4.out).2.1); rintro e w8 ⟨v275, rfl, ho0, hb⟩; refine ⟨_, rfl, ?_⟩; have n0_ := Aside0.mk (Kd.R_elder' (by (with_reducible repeat (first | apply Kd.R_alloc | apply Kd.R_drewN | apply Kd.R_drew)); exact HO_4.out) (Kd.R_base ho0) hb); have n1_ := Aside0.mk (Kd.R_lower (Kd.R_new' ho0 (Kd.R_lt (by (with_reducible repeat (first | apply Kd.R_alloc | apply Kd.R_drewN | apply Kd.R_drew)); exact HO_4.out))) (below_size (by repeat (first | (with_reducible first | exact HB.out | apply below_alloc | apply pw_below_drewN | apply below_drew1) | exact HB.out)))); have n2_ := Aside0.mk (below_step (by repeat (first | (with_reducible first | exact HB.out | apply below_alloc | apply pw_below_drewN | apply below_drew1) | exact HB.out)) hb); clear HO_4; clear HB; have HO_4 := n0_; have HO276 := n1_; have HB := n2_; clear n0_ n1_ n2_; (try clear hb); (try clear hb2); (try clear hk); (try clear hi); (try clear ho0)))
          go_roundg k1
          case measure => have := HK1.out; omega
          case rel => exact ⟨(t273), (wrap64 (x5_1 + 1)), (by first | rfl | (simp; done) | (simp [*]; done)), H', ⟨by have := HK1.out; omega⟩, ⟨by (with_reducible repeat (first | apply Kd.R_alloc | apply Kd.R_drewN | apply Kd.R_drew)); exact Kd.R_mono HO276.out (fun _ hk => trivial)⟩, ⟨by repeat (first | (with_reducible first | exact HB.out | apply below_alloc | apply pw_below_drewN | apply below_drew1) | exact HB.out)⟩⟩
        · rw [if_neg c6] at H
          have c6b0 : (t274 == 0) = false := beq_eq_false_iff_ne.mpr c6
          have c6b1 : (t274 != 0) = true := bne_iff_ne.mpr c6
          simp only [Option.some.injEq, Prod.mk.injEq] at H
          obtain ⟨rfl, rfl⟩ := H
          obtain ⟨Ao9, co9, eo9⟩ := Kd.R_slice HO_4.out
          subst eo9
          go_wp2_with (first | ((with_reducible refine gate_callee (f := 32) rfl ?_); refine goesL_ (some 15) rfl rfl Tryd.func32 (by kernel_rfl) rfl #[.slice Ao9 x4_1.length co9, .int .u32 10] rfl (by (try simp only [List.map_toArray, List.map_cons, List.map_nil]); first | done | rfl | (simp only [List.length_drop, List.length_take]; rfl)) ?_; (with_reducible refine (erratumref01_Small.calls k1 _ _ x4_1 10 t273 t274 _ ?side1 ?side2 A5.out).mono ?_); (case side1 => repeat (first | exact (Kd.R_reads' HO_4.out).2.2 | (with_reducible refine Kd.C_alloc ?_ _) | (with_reducible refine Kd.C_drewN ?_ _) | (with_reducible refine Kd.C_drew ?_))); (case side2 => exact (Kd.R_reads' HO_4.out).2.1); rintro e w10 ⟨v275, rfl, ho0, hb⟩; refine ⟨_, rfl, ?_⟩; have n0_ := Aside0.mk (Kd.R_elder' (by (with_reducible repeat (first | apply Kd.R_alloc | apply Kd.R_drewN | apply Kd.R_drew)); exact HO_4.out) (Kd.R_base ho0) hb); have n1_ := Aside0.mk (Kd.R_lower (Kd.R_new' ho0 (Kd.R_lt (by (with_reducible repeat (first | apply Kd.R_alloc | apply Kd.R_drewN | apply Kd.R_drew)); exact HO_4.out))) (below_size (by repeat (first | (with_reducible first | exact HB.out | apply below_alloc | apply pw_below_drewN | apply below_drew1) | exact HB.out)))); have n2_ := Aside0.mk (below_step (by repeat (first | (with_reducible first | exact HB.out | apply below_alloc | apply pw_below_drewN | apply below_drew1) | exact HB.out)) hb); clear HO_4; clear HB; have HO_4 := n0_; have HO276 := n1_; have HB := n2_; clear n0_ n1_ n2_; (try clear hb); (try clear hb2); (try clear hk); (try clear hi); (try clear ho0)))
          go_ret2
          exact ⟨_, by first | rfl | (simp [errW_none, errW_some] <;> rfl) | (simp [*, errW_none, errW_some] <;> rfl), by (with_reducible repeat (first | apply Kd.R_alloc | apply Kd.R_drewN | apply Kd.R_drew)); exact Kd.R_mono HO_4.out (fun _ hk => trivial), by repeat (first | (with_reducible first | exact HB.out | apply below_alloc | apply pw_below_drewN | apply below_drew1) | exact HB.out)⟩
      · rw [if_neg c4] at H
        have c4b0 : decide (0 < (x4_1.length : Int)) = false := decide_eq_false c4
        have c4b1 : decide (0 < x4_1.length) = false := decide_eq_false (by omega)
        clear c4
        simp only [Option.some.injEq, Prod.mk.injEq] at H
        obtain ⟨rfl, rfl⟩ := H
        obtain ⟨Ao11, co11, eo11⟩ := Kd.R_slice HO_4.out
        subst eo11
        go_wp2
        go_ret2
        exact ⟨_, by first | rfl | (simp [errW_none, errW_some] <;> rfl) | (simp [*, errW_none, errW_some] <;> rfl), by (with_reducible repeat (first | apply Kd.R_alloc | apply Kd.R_drewN | apply Kd.R_drew)); exact HO_4.out, by repeat (first | (with_reducible first | exact HB.out | apply below_alloc | apply pw_below_drewN | apply below_drew1) | exact HB.out)⟩

end Go.Proofs.YtmkdcokdilllcaaDoor.X
-- A walk, written by a program of this session (xp.py).
namespace Go.Proofs.YtmkdcokdilllcaaDoor.X
open Go.RowKit Go.Proofs.YtmkdcokdilllcaaDoorW.PrintWords Go.Proofs.YtmkdcokdilllcaaDoorW.PrintLast Go.Proofs.YtmkdcokdilllcaaDoorW.PrintMore
attribute [local go_sem] max2_int min2_int max_two min_two max_three min_three max_four min_four
set_option linter.unusedVariables false
set_option linter.unusedSimpArgs false

/-! ### erratumref01_Parse: function 28 -/
mutual
def erratumref01_Parse.j0 : Nat → ByteArray → Bool → Option (List Int × Bool)
  | 0, _, _ => none
  | k + 1, x0, x13 => if x13 = true then (some (([] : List Int), false)) else (erratumref01_Parse.l0 k x0 ([] : List Int) 0)
def erratumref01_Parse.l0 : Nat → ByteArray → List Int → Int → Option (List Int × Bool)
  | 0, _, _, _ => none
  | k + 1, x0, x4, x5 => if x5 < (x0.size : Int) then (if 0 ≤ x5 then (if (bt x0 x5) < 48 then (erratumref01_Parse.j2 k x0 x4 x5 true) else (erratumref01_Parse.j2 k x0 x4 x5 (decide ((bt x0 x5) > 57)))) else (none)) else (some (x4, true))
def erratumref01_Parse.j2 : Nat → ByteArray → List Int → Int → Bool → Option (List Int × Bool)
  | 0, _, _, _, _ => none
  | k + 1, x0, x4, x5, x29 => if x29 = true then (some (([] : List Int), false)) else ((erratumref01_Mul.f k x4 (([10] : List Int))).bind fun t253 => (if 0 ≤ x5 then (if x5 < (x0.size : Int) then ((erratumref01_Add.f k t253 (([((bt x0 x5) - 48) % 256] : List Int))).bind fun t259 => (erratumref01_Parse.l0 k x0 t259 (wrap64 (x5 + 1)))) else (none)) else (none)))
end
def erratumref01_Parse.f (k : Nat) (a0 : ByteArray) : Option (List Int × Bool) := if (a0.size : Int) < 1 then (erratumref01_Parse.j0 k a0 true) else (erratumref01_Parse.j0 k a0 (decide ((a0.size : Int) > 2000)))
def erratumref01_Parse.T9 : Bool × List (List Nat × List Nat) := (true, [([], []), ([], []), ([0, 1], [0, 1]), ([], []), ([], []), ([3, 4], [3, 4]), ([5], [5]), ([6], [6]), ([7], [7]), ([2, 8, 2], [2, 8]), ([9, 9, 0, 1, 2, 3, 4, 5, 6, 7, 8, 9], [0, 9])])
def erratumref01_Parse.B9 : List Nat := [0, 0, 3, 0, 0, 24, 56, 120, 248, 511, 1023]
theorem erratumref01_Parse.tab9 : rtab .any (opsOf Tryd.f28 9) = erratumref01_Parse.T9 := by kernel_rfl
theorem erratumref01_Parse.bits9 : waitsOk erratumref01_Parse.T9.2 erratumref01_Parse.B9 = true := by kernel_rfl
set_option maxHeartbeats 8000000 in
set_option maxRecDepth 100000 in
theorem erratumref01_Parse.calls (k : Nat) (a0 : ByteArray) (r1 : List Int) (r2 : Bool) (w : World) (h : erratumref01_Parse.f k a0 = some (r1, r2)) :
    Calls Tryd.prog 28 #[.string a0] w fun e w' => ∃ v0_ : Value, e = .returned (.tuple #[v0_, .bool r2]) ∧ Kd.R (Kd.int .u32) 40 w' w.heap.size (fun _ => True) v0_ r1 ∧ Below w.heap.size w w' := by
  have HB := Aside0.mk (Below.refl w.heap.size w)
  have H : (if (a0.size : Int) < 1 then (erratumref01_Parse.j0 k a0 true) else (erratumref01_Parse.j0 k a0 (decide ((a0.size : Int) > 2000)))) = some (r1, r2) := h
  clear h
  have HC2 := Aside0.mk H
  clear H
  go_enter Tryd.func28, Tryd.ntmps28
  go_upto_region 1 with (fail)
  go_cut [13] (fun v13 wc => ∃ (kq : Nat) (x13_1 : Bool), v13 = .bool x13_1 ∧ Aside0 (erratumref01_Parse.j0 kq a0 x13_1 = some (r1, r2)) ∧ Aside0 (kq ≤ k) ∧ Aside0 (Below w.heap.size w wc))
  case first =>
    have H := HC2.out
    clear HC2
    by_cases c3 : (a0.size : Int) < 1
    · rw [if_pos c3] at H
      have c3b0 : decide ((a0.size : Int) < 1) = true := decide_eq_true c3
      have c3b1 : decide (a0.size < 1) = true := decide_eq_true (by omega)
      clear c3
      (first | rw [c3b0] | (simp only [i64_w, i32_w]; rw [c3b0]) | skip)
      have H' := Aside0.mk H
      clear H
      go_wp2
      go_meet
      case rel => exact ⟨_, (true), (by first | rfl | (simp; done) | (simp [*]; done)), H', ⟨by first | omega | exact Nat.le_refl _⟩, ⟨by repeat (first | (with_reducible first | exact HB.out | apply below_alloc | apply pw_below_drewN | apply below_drew1) | exact HB.out)⟩⟩
    · rw [if_neg c3] at H
      have c3b0 : decide ((a0.size : Int) < 1) = false := decide_eq_false c3
      have c3b1 : decide (a0.size < 1) = false := decide_eq_false (by omega)
      clear c3
      (first | rw [c3b0] | (simp only [i64_w, i32_w]; rw [c3b0]) | skip)
      have H' := Aside0.mk H
      clear H
      go_wp2
      go_meet
      case rel => exact ⟨_, (decide ((a0.size : Int) > 2000)), (by first | rfl | (simp; done) | (simp [*]; done)), H', ⟨by first | omega | exact Nat.le_refl _⟩, ⟨by repeat (first | (with_reducible first | exact HB.out | apply below_alloc | apply pw_below_drewN | apply below_drew1) | exact HB.out)⟩⟩
  case rest =>
    clear HC2
    try clear c2
    try clear p2
    try clear c3
    try clear c3b0
    try clear c3b1
    obtain ⟨kq, x13_1, rfl, HA, HJ1, HB⟩ := hcut
    cases kq with
    | zero => exact absurd HA.out (by simp [erratumref01_Parse.j0])
    | succ kj1 =>
      have H := HA.out
      clear HA
      simp only [erratumref01_Parse.j0] at H
      by_cases c4 : x13_1 = true
      · subst c4
        have H1 : (some (([] : List Int), false)) = some (r1, r2) := by rw [if_pos rfl] at H; exact H
        clear H
        have H := H1
        clear H1
        simp only [Option.some.injEq, Prod.mk.injEq] at H
        obtain ⟨rfl, rfl⟩ := H
        go_wp2
        go_ret2
        exact ⟨_, by first | rfl | (simp [errW_none, errW_some] <;> rfl) | (simp [*, errW_none, errW_some] <;> rfl), by first | exact Kd.R_nil _ _ _ _ _ | exact Kd.N_nil _ _ _ _ _ | exact Kd.V_nil _ _ _ _ _ | exact Kd.Q_nil _ _ _ _ _ | exact Kd.S_nil _ _ _ _ _, by repeat (first | (with_reducible first | exact HB.out | apply below_alloc | apply pw_below_drewN | apply below_drew1) | exact HB.out)⟩
      · replace c4 := Bool.eq_false_iff.mpr c4
        subst c4
        have H1 : (erratumref01_Parse.l0 kj1 a0 ([] : List Int) 0) = some (r1, r2) := by rw [if_neg (show ¬ (false = true) by decide)] at H; exact H
        clear H
        have H := H1
        clear H1
        have H' := Aside0.mk H
        clear H
        go_wp2
        go_loopg [4, 5] kj1 (fun kq v4 v5 w' => ∃ (x4_2 : List Int) (x5_2 : Int), v5 = .int .i64 x5_2 ∧ Aside0 (erratumref01_Parse.l0 kq a0 x4_2 x5_2 = some (r1, r2)) ∧ Aside0 (kq ≤ kj1) ∧ Aside0 (Kd.R (Kd.int .u32) 40 w' w.heap.size (fun _ => True) v4 x4_2) ∧ Aside0 (Below w.heap.size w w'))
        case atStart => exact ⟨(([] : List Int)), (0), (by first | rfl | (simp; done) | (simp [*]; done)), H', ⟨Nat.le_refl _⟩, ⟨by first | exact Kd.R_nil _ _ _ _ _ | exact Kd.N_nil _ _ _ _ _ | exact Kd.V_nil _ _ _ _ _ | exact Kd.Q_nil _ _ _ _ _ | exact Kd.S_nil _ _ _ _ _⟩, ⟨by repeat (first | (with_reducible first | exact HB.out | apply below_alloc | apply pw_below_drewN | apply below_drew1) | exact HB.out)⟩⟩
        case round =>
          clear H'
          try clear c2
          try clear p2
          try clear c3
          try clear c3b0
          try clear c3b1
          try clear c4
          try clear p2
          obtain ⟨x4_2, x5_2, rfl, HA, HK2, HO_4, HB⟩ := hrel
          cases gk with
          | zero => exact absurd HA.out (by simp [erratumref01_Parse.l0])
          | succ k2 =>
            have H := HA.out
            clear HA
            simp only [erratumref01_Parse.l0] at H
            by_cases c5 : x5_2 < (a0.size : Int)
            · rw [if_pos c5] at H
              have c5b0 : decide (x5_2 < (a0.size : Int)) = true := decide_eq_true c5
              clear c5
              have HC6 := Aside0.mk H
              clear H
              go_upto_region 7 with (fail)
              go_cut [29] (fun v29 wc => ∃ (kq : Nat) (x29_5 : Bool), v29 = .bool x29_5 ∧ Aside0 (erratumref01_Parse.j2 kq a0 x4_2 x5_2 x29_5 = some (r1, r2)) ∧ Aside0 (kq ≤ k2) ∧ Aside0 (Kd.R (Kd.int .u32) 40 wc w.heap.size (fun _ => True) u4 x4_2) ∧ Aside0 (Below w.heap.size w wc))
              case first =>
                have H := HC6.out
                clear HC6
                by_cases c7 : 0 ≤ x5_2
                · rw [if_pos c7] at H
                  have c7b0 : decide (0 ≤ x5_2) = true := decide_eq_true c7
                  clear c7
                  (first | rw [c7b0] | (simp only [i64_w, i32_w]; rw [c7b0]) | skip)
                  by_cases c9 : (bt a0 x5_2) < 48
                  · rw [if_pos c9] at H
                    have c9b0 : decide ((bt a0 x5_2) < 48) = true := decide_eq_true c9
                    clear c9
                    have H' := Aside0.mk H
                    clear H
                    have p8 : 0 ≤ (x5_2 : Int) := of_decide_eq_true (by first | (with_reducible assumption) | assumption)
                    have q8 : x5_2 < (a0.size : Int) := of_decide_eq_true (by first | (with_reducible assumption) | assumption)
                    have hx8 := bt_at a0 x5_2
                    replace p8 := eq_true p8
                    replace q8 := eq_true q8
                    go_wp2
                    go_meet
                    case rel => exact ⟨_, (true), (by first | rfl | (simp; done) | (simp [*]; done)), H', ⟨by have := HJ1.out; have := HK2.out; first | omega | exact Nat.le_refl _⟩, ⟨by (with_reducible repeat (first | apply Kd.R_alloc | apply Kd.R_drewN | apply Kd.R_drew)); exact HO_4.out⟩, ⟨by repeat (first | (with_reducible first | exact HB.out | apply below_alloc | apply pw_below_drewN | apply below_drew1) | exact HB.out)⟩⟩
                  · rw [if_neg c9] at H
                    have c9b0 : decide ((bt a0 x5_2) < 48) = false := decide_eq_false c9
                    clear c9
                    have H' := Aside0.mk H
                    clear H
                    have p8 : 0 ≤ (x5_2 : Int) := of_decide_eq_true (by first | (with_reducible assumption) | assumption)
                    have q8 : x5_2 < (a0.size : Int) := of_decide_eq_true (by first | (with_reducible assumption) | assumption)
                    have hx8 := bt_at a0 x5_2
                    replace p8 := eq_true p8
                    replace q8 := eq_true q8
                    have p10 : 0 ≤ (x5_2 : Int) := of_decide_eq_true (by first | (with_reducible assumption) | assumption)
                    have q10 : x5_2 < (a0.size : Int) := of_decide_eq_true (by first | (with_reducible assumption) | assumption)
                    have hx10 := bt_at a0 x5_2
                    replace p10 := eq_true p10
                    replace q10 := eq_true q10
                    go_wp2
                    go_meet
                    case rel => exact ⟨_, (decide ((bt a0 x5_2) > 57)), (by first | rfl | (simp; done) | (simp [*]; done)), H', ⟨by have := HJ1.out; have := HK2.out; first | omega | exact Nat.le_refl _⟩, ⟨by (with_reducible repeat (first | apply Kd.R_alloc | apply Kd.R_drewN | apply Kd.R_drew)); exact HO_4.out⟩, ⟨by repeat (first | (with_reducible first | exact HB.out | apply below_alloc | apply pw_below_drewN | apply below_drew1) | exact HB.out)⟩⟩
                · rw [if_neg c7] at H
                  exact absurd H (by simp)
              case rest =>
                clear HC6
                try clear p1
                try clear q1
                try clear hx1
                try clear c2
                try clear p2
                try clear c3
                try clear c3b0
                try clear c3b1
                try clear c4
                try clear c5
                try clear c5b0
                try clear c7
                try clear c7b0
                try clear p8
                try clear q8
                try clear hx8
                try clear c9
                try clear c9b0
                try clear p10
                try clear q10
                try clear hx10
                try clear p10
                try clear p2
                try clear p8
                try clear q10
                try clear q8
                obtain ⟨kq, x29_5, rfl, HA, HJ5, HO_4, HB⟩ := hcut
                cases kq with
                | zero => exact absurd HA.out (by simp [erratumref01_Parse.j2])
                | succ kj5 =>
                  have H := HA.out
                  clear HA
                  simp only [erratumref01_Parse.j2] at H
                  by_cases c11 : x29_5 = true
                  · subst c11
                    have H1 : (some (([] : List Int), false)) = some (r1, r2) := by rw [if_pos rfl] at H; exact H
                    clear H
                    have H := H1
                    clear H1
                    simp only [Option.some.injEq, Prod.mk.injEq] at H
                    obtain ⟨rfl, rfl⟩ := H
                    go_wp2
                    go_ret2
                    exact ⟨_, by first | rfl | (simp [errW_none, errW_some] <;> rfl) | (simp [*, errW_none, errW_some] <;> rfl), by first | exact Kd.R_nil _ _ _ _ _ | exact Kd.N_nil _ _ _ _ _ | exact Kd.V_nil _ _ _ _ _ | exact Kd.Q_nil _ _ _ _ _ | exact Kd.S_nil _ _ _ _ _, by repeat (first | (with_reducible first | exact HB.out | apply below_alloc | apply pw_below_drewN | apply below_drew1) | exact HB.out)⟩
                  · replace c11 := Bool.eq_false_iff.mpr c11
                    subst c11
                    have H1 : ((erratumref01_Mul.f kj5 x4_2 (([10] : List Int))).bind fun t253 => (if 0 ≤ x5_2 then (if x5_2 < (a0.size : Int) then ((erratumref01_Add.f kj5 t253 (([((bt a0 x5_2) - 48) % 256] : List Int))).bind fun t259 => (erratumref01_Parse.l0 kj5 a0 t259 (wrap64 (x5_2 + 1)))) else (none)) else (none))) = some (r1, r2) := by rw [if_neg (show ¬ (false = true) by decide)] at H; exact H
                    clear H
                    have H := H1
                    clear H1
                    obtain ⟨y250, hy250⟩ : ∃ y_ : List Int, y_ = (([10] : List Int)) := ⟨_, rfl⟩
                    replace H : ((erratumref01_Mul.f kj5 x4_2 y250).bind fun t253 => (if 0 ≤ x5_2 then (if x5_2 < (a0.size : Int) then ((erratumref01_Add.f kj5 t253 (([((bt a0 x5_2) - 48) % 256] : List Int))).bind fun t259 => (erratumref01_Parse.l0 kj5 a0 t259 (wrap64 (x5_2 + 1)))) else (none)) else (none))) = some (r1, r2) := by first | (rw [hy250]; with_reducible exact H) | (have H2_ := (Option.bind_some _ _).symm.trans H; rw [hy250]; with_reducible exact H2_) | (have H2_ := (Option.bind_some _ _).symm.trans H; with_reducible exact H2_) | with_reducible exact H | (rw [hy250]; exact H) | exact H
                    have Ny250 := Aside0.mk hy250
                    clear hy250
                    replace H := Option.bind_eq_some_iff.mp H
                    obtain ⟨t253, A120, H⟩ := H
                    replace H : (if 0 ≤ x5_2 then (if x5_2 < (a0.size : Int) then ((erratumref01_Add.f kj5 t253 (([((bt a0 x5_2) - 48) % 256] : List Int))).bind fun t259 => (erratumref01_Parse.l0 kj5 a0 t259 (wrap64 (x5_2 + 1)))) else (none)) else (none)) = some (r1, r2) := H
                    have A12 := Aside0.mk A120
                    clear A120
                    by_cases c13 : 0 ≤ x5_2
                    · rw [if_pos c13] at H
                      have c13b0 : decide (0 ≤ x5_2) = true := decide_eq_true c13
                      clear c13
                      by_cases c14 : x5_2 < (a0.size : Int)
                      · rw [if_pos c14] at H
                        have c14b0 : decide (x5_2 < (a0.size : Int)) = true := decide_eq_true c14
                        clear c14
                        obtain ⟨y256, hy256⟩ : ∃ y_ : List Int, y_ = (([((bt a0 x5_2) - 48) % 256] : List Int)) := ⟨_, rfl⟩
                        replace H : ((erratumref01_Add.f kj5 t253 y256).bind fun t259 => (erratumref01_Parse.l0 kj5 a0 t259 (wrap64 (x5_2 + 1)))) = some (r1, r2) := by first | (rw [hy256]; with_reducible exact H) | (have H2_ := (Option.bind_some _ _).symm.trans H; rw [hy256]; with_reducible exact H2_) | (have H2_ := (Option.bind_some _ _).symm.trans H; with_reducible exact H2_) | with_reducible exact H | (rw [hy256]; exact H) | exact H
                        have Ny256 := Aside0.mk hy256
                        clear hy256
                        replace H := Option.bind_eq_some_iff.mp H
                        obtain ⟨t259, A160, H⟩ := H
                        replace H : (erratumref01_Parse.l0 kj5 a0 t259 (wrap64 (x5_2 + 1))) = some (r1, r2) := H
                        have A16 := Aside0.mk A160
                        clear A160
                        have H' := Aside0.mk H
                        clear H
                        obtain ⟨Ao17, co17, eo17⟩ := Kd.R_slice HO_4.out
                        subst eo17
                        try go_wp2
                        have n0_ := Aside0.mk (Kd.R_drew HO_4.out)
                        have n1_ := Aside0.mk (below_drew1 HB.out)
                        clear HO_4
                        clear HB
                        have HO_4 := n0_
                        have HB := n1_
                        clear n0_ n1_
                        have p15 : 0 ≤ (x5_2 : Int) := of_decide_eq_true (by first | (with_reducible assumption) | assumption)
                        have q15 : x5_2 < (a0.size : Int) := of_decide_eq_true (by first | (with_reducible assumption) | assumption)
                        have hx15 := bt_at a0 x5_2
                        replace p15 := eq_true p15
                        replace q15 := eq_true q15
                        refine start_ (n := 11) (S := fun w' => True) (ds := []) #[false, false, false, false, false, false, false, false, false, false, false] (by kernel_rfl) rfl rfl trivial (fun hHeld => ?_); refine with_tabW erratumref01_Parse.tab9 erratumref01_Parse.bits9 (fun HT_ HW_ => ?_)
                        generalize wc.drew = w18 at HO_4 HB hHeld ⊢
                        refine pure_ (i := 0) (N := some 30) (v := ?_) (a' := ?_) #[true, false, false, false, false, false, false, false, false, false, false] rfl rfl (any_of HT_.out (by kernel_rfl)) (fun _ _ _ h => h) (Or.inl ⟨by rfl, ?_⟩) ?_ ?_
                        rotate_left
                        · intro w'
                          go_simp
                          with_reducible rfl
                        rotate_left
                        · simp only [Act.put, List.setIfInBounds_toArray, List.set_cons_zero, List.set_cons_succ, i64_w, i32_w]
                          rfl
                        refine pure_ (i := 3) (N := some 33) (v := ?_) (a' := ?_) #[true, false, false, true, false, false, false, false, false, false, false] rfl rfl (any_of HT_.out (by kernel_rfl)) (fun _ _ _ h => h) (Or.inl ⟨by rfl, ?_⟩) ?_ ?_
                        rotate_left
                        · intro w'
                          go_simp
                          with_reducible rfl
                        rotate_left
                        · simp only [Act.put, List.setIfInBounds_toArray, List.set_cons_zero, List.set_cons_succ, i64_w, i32_w]
                          rfl
                        refine pure_ (i := 4) (N := some 34) (v := ?_) (a' := ?_) #[true, false, false, true, true, false, false, false, false, false, false] rfl rfl (any_of HT_.out (by kernel_rfl)) (fun _ _ _ h => h) (Or.inl ⟨by rfl, ?_⟩) ?_ ?_
                        rotate_left
                        · intro w'
                          go_simp
                          with_reducible rfl
                        rotate_left
                        · simp only [Act.put, List.setIfInBounds_toArray, List.set_cons_zero, List.set_cons_succ, i64_w, i32_w]
                          rfl
                        refine take_ (i := 5) (N := some 35) (v := ?_) (a' := ?_) #[true, false, false, true, true, true, false, false, false, false, false] rfl rfl (take_ofW HT_.out HW_.out (by kernel_rfl)) (fun _ _ _ h => h) (Or.inl ⟨by rfl, ?_⟩) hHeld ?_ ?_
                        rotate_left
                        · intro w' _
                          go_simp
                          with_reducible rfl
                        rotate_left
                        · simp only [Act.put, List.setIfInBounds_toArray, List.set_cons_zero, List.set_cons_succ, i64_w, i32_w]
                          rfl
                        refine pure_ (i := 6) (N := some 36) (v := ?_) (a' := ?_) #[true, false, false, true, true, true, true, false, false, false, false] rfl rfl (any_of HT_.out (by kernel_rfl)) (fun _ _ _ h => h) (Or.inl ⟨by rfl, ?_⟩) ?_ ?_
                        rotate_left
                        · intro w'
                          go_simp
                          with_reducible rfl
                        rotate_left
                        · simp only [Act.put, List.setIfInBounds_toArray, List.set_cons_zero, List.set_cons_succ, i64_w, i32_w]
                          rfl
                        refine pure_ (i := 7) (N := some 37) (v := ?_) (a' := ?_) #[true, false, false, true, true, true, true, true, false, false, false] rfl rfl (any_of HT_.out (by kernel_rfl)) (fun _ _ _ h => h) (Or.inl ⟨by rfl, ?_⟩) ?_ ?_
                        rotate_left
                        · intro w'
                          go_simp
                          with_reducible rfl
                        rotate_left
                        · simp only [Act.put, List.setIfInBounds_toArray, List.set_cons_zero, List.set_cons_succ, i64_w, i32_w]
                          rfl
                        refine join_ (σ := Value × Value × Value) 2 #[true, true, true, true, true, true, true, true, true, false, false] (fun s_ => [(31, s_.1), (32, s_.2.1), (38, s_.2.2)]) (fun s_ w' => (Kd.R (Kd.int .u32) 40 w' w.heap.size (fun k_ => some k_ ≠ (s_.2.1 : Value).ownBlock ∧ some k_ ≠ (s_.2.2 : Value).ownBlock ∧ some k_ ≠ (.slice Ao17 x4_2.length co17 : Value).ownBlock) s_.1 y250) ∧ (Kd.R (Kd.int .u32) 40 w' w.heap.size (fun k_ => some k_ ≠ (s_.1 : Value).ownBlock ∧ some k_ ≠ (s_.2.2 : Value).ownBlock ∧ some k_ ≠ (.slice Ao17 x4_2.length co17 : Value).ownBlock) s_.2.1 t253) ∧ (Kd.R (Kd.int .u32) 40 w' w.heap.size (fun k_ => some k_ ≠ (s_.1 : Value).ownBlock ∧ some k_ ≠ (s_.2.1 : Value).ownBlock ∧ some k_ ≠ (.slice Ao17 x4_2.length co17 : Value).ownBlock) s_.2.2 y256) ∧ (Kd.R (Kd.int .u32) 40 w' w.heap.size (fun k_ => some k_ ≠ (s_.1 : Value).ownBlock ∧ some k_ ≠ (s_.2.1 : Value).ownBlock ∧ some k_ ≠ (s_.2.2 : Value).ownBlock) (.slice Ao17 x4_2.length co17) x4_2) ∧ (Below w.heap.size w w')) ?_ ?_
                        rotate_left
                        · intro hCont
                          refine two_ (i := 1) (j := 8) (Ni := some 31) (Nj := some 38) #[true, true, false, true, true, true, true, true, false, false, false] #[true, false, false, true, true, true, true, true, true, false, false] rfl rfl rfl rfl (two_of HT_.out (by kernel_rfl)) (by decide) (by decide) (fun K hK => ?_) (fun K hK => ?_)
                          · skip
                            refine Kd.R_lit_step (Kd.int .u32) _ 40 ?hg (N := 31) ?hd (xs := ([10] : List Int)) (inner := [.int .u32 10]) (ok := fun _ => True) (okp := fun _ => True) ?hr ?hp (fun _ hk => hk) trivial (Below.refl _ _) (Nat.le_refl _) (by simp) ?_; (case hd => rfl); (case hg => rfl); (case hr => first | (go_simp; done) | (go_simp; rfl) | (go_simp; simp only [x_u32u8, x_u8, x_u32, x_u64, x_mm]; first | done | rfl)); (case hp => exact (Reps.one (show Kd.M (Kd.int .u32) _ _ _ 10 [.int .u32 10] from rfl) (Reps.none _ _)))
                            intro v251 w19 ho20 hb hg_ hnew_
                            clear hg_ hnew_
                            (first | rw [← Ny250.out] at ho20 | (simp only [Int.reduceToNat] at ho20; rw [← Ny250.out] at ho20))
                            have n0_ := Aside0.mk (Kd.R_elder' (by (with_reducible repeat (first | apply Kd.R_alloc | apply Kd.R_drewN | apply Kd.R_drew)); exact HO_4.out) (Kd.R_base ho20) hb)
                            have n1_ := Aside0.mk (Kd.R_lower (Kd.R_new' ho20 (Kd.R_lt (by (with_reducible repeat (first | apply Kd.R_alloc | apply Kd.R_drewN | apply Kd.R_drew)); exact HO_4.out))) (below_size (by repeat (first | (with_reducible first | exact HB.out | apply below_alloc | apply pw_below_drewN | apply below_drew1) | exact HB.out))))
                            have n2_ := Aside0.mk (below_step (by repeat (first | (with_reducible first | exact HB.out | apply below_alloc | apply pw_below_drewN | apply below_drew1) | exact HB.out)) hb)
                            clear HO_4
                            clear HB
                            have HO_4 := n0_
                            have HO252 := n1_
                            have HB := n2_
                            clear n0_ n1_ n2_
                            clear hb ho20
                            obtain ⟨Ao21, co21, eo21⟩ := Kd.R_slice HO252.out
                            (first | subst eo21 | (injection eo21 with f1_ f2_ f3_; have f4_ := f1_.symm; have f5_ := f3_.symm; clear f1_ f2_ f3_; subst f4_; subst f5_))
                            refine hK.out _ _ trivial (fun hHeld => ?_)
                            clear hK K
                            refine norm_ (a' := ?_) ?_ ?_
                            rotate_left
                            · show Act.put _ (some 31) _ = _
                              simp only [Act.put, List.setIfInBounds_toArray, List.set_cons_zero, List.set_cons_succ, i64_w, i32_w]
                              rfl
                            refine two_ (i := 2) (j := 8) (Ni := some 32) (Nj := some 38) #[true, true, true, true, true, true, true, true, false, false, false] #[true, true, false, true, true, true, true, true, true, false, false] rfl rfl rfl rfl (two_of HT_.out (by kernel_rfl)) (by decide) (by decide) (fun K hK => ?_) (fun K hK => ?_)
                            · skip
                              refine goes_ Tryd.func51 (by kernel_rfl) rfl #[.slice Ao17 x4_2.length co17, .slice Ao21 y250.length co21] (by rfl) rfl rfl (by (try simp only [List.map_toArray, List.map_cons, List.map_nil]); first | done | rfl | (simp only [List.length_drop, List.length_take]; rfl)) ?_
                              with_reducible refine (erratumref01_Mul.calls kj5 _ _ x4_2 _ _ y250 t253 _ ?side1 ?side2 ?side3 ?side4 A12.out).mono ?_
                              (case side1 => repeat (first | exact (Kd.R_reads' HO_4.out).2.2 | (with_reducible refine Kd.C_alloc ?_ _) | (with_reducible refine Kd.C_drewN ?_ _) | (with_reducible refine Kd.C_drew ?_)))
                              (case side2 => exact (Kd.R_reads' HO_4.out).2.1)
                              (case side3 => repeat (first | exact (Kd.R_reads' HO252.out).2.2 | (with_reducible refine Kd.C_alloc ?_ _) | (with_reducible refine Kd.C_drewN ?_ _) | (with_reducible refine Kd.C_drew ?_)))
                              (case side4 => exact (Kd.R_reads' HO252.out).2.1)
                              rintro e w22 ⟨v254, rfl, ho0, hb⟩
                              refine ⟨_, rfl, ?_⟩
                              have n0_ := Aside0.mk (Kd.R_elder' (by (with_reducible repeat (first | apply Kd.R_alloc | apply Kd.R_drewN | apply Kd.R_drew)); exact HO_4.out) (Kd.R_base ho0) hb)
                              have n1_ := Aside0.mk (Kd.R_elder' (by (with_reducible repeat (first | apply Kd.R_alloc | apply Kd.R_drewN | apply Kd.R_drew)); exact HO252.out) (Kd.R_base ho0) hb)
                              have n2_ := Aside0.mk (Kd.R_lower (Kd.R_new' (Kd.R_new' ho0 (Kd.R_lt (by (with_reducible repeat (first | apply Kd.R_alloc | apply Kd.R_drewN | apply Kd.R_drew)); exact HO_4.out))) (Kd.R_lt (by (with_reducible repeat (first | apply Kd.R_alloc | apply Kd.R_drewN | apply Kd.R_drew)); exact HO252.out))) (below_size (by repeat (first | (with_reducible first | exact HB.out | apply below_alloc | apply pw_below_drewN | apply below_drew1) | exact HB.out))))
                              have n3_ := Aside0.mk (below_step (by repeat (first | (with_reducible first | exact HB.out | apply below_alloc | apply pw_below_drewN | apply below_drew1) | exact HB.out)) hb)
                              clear HO_4
                              clear HO252
                              clear HB
                              have HO_4 := n0_
                              have HO252 := n1_
                              have HO255 := n2_
                              have HB := n3_
                              clear n0_ n1_ n2_ n3_
                              (try clear hb)
                              (try clear hb2)
                              (try clear hk)
                              (try clear hi)
                              (try clear ho0)
                              refine hK.out _ _ trivial (fun hHeld => ?_)
                              clear hK K
                              refine norm_ (a' := ?_) ?_ ?_
                              rotate_left
                              · show Act.put _ (some 32) _ = _
                                simp only [Act.put, List.setIfInBounds_toArray, List.set_cons_zero, List.set_cons_succ, i64_w, i32_w]
                                rfl
                              refine one_ (i := 8) (N := some 38) #[true, true, true, true, true, true, true, true, true, false, false] rfl rfl (one_of HT_.out (by kernel_rfl)) (by decide) (fun K hK => ?_)
                              refine Kd.R_lit_step (Kd.int .u32) _ 40 ?hg (N := 38) ?hd (xs := ([((bt a0 x5_2) - 48) % 256] : List Int)) (inner := [.int .u32 (((bt a0 x5_2) - 48) % 256)]) (ok := fun _ => True) (okp := fun _ => True) ?hr ?hp (fun _ hk => hk) trivial (Below.refl _ _) (Nat.le_refl _) (by simp) ?_; (case hd => rfl); (case hg => rfl); (case hr => first | (go_simp; done) | (go_simp; rfl) | (go_simp; simp only [x_u32u8, x_u8, x_u32, x_u64, x_mm]; first | done | rfl)); (case hp => exact (Reps.one (show Kd.M (Kd.int .u32) _ _ _ (((bt a0 x5_2) - 48) % 256) [.int .u32 (((bt a0 x5_2) - 48) % 256)] from rfl) (Reps.none _ _)))
                              intro v257 w23 ho24 hb hg_ hnew_
                              clear hg_ hnew_
                              (first | rw [← Ny256.out] at ho24 | (simp only [Int.reduceToNat] at ho24; rw [← Ny256.out] at ho24))
                              have n0_ := Aside0.mk (Kd.R_elder' (by (with_reducible repeat (first | apply Kd.R_alloc | apply Kd.R_drewN | apply Kd.R_drew)); exact HO_4.out) (Kd.R_base ho24) hb)
                              have n1_ := Aside0.mk (Kd.R_elder' (by (with_reducible repeat (first | apply Kd.R_alloc | apply Kd.R_drewN | apply Kd.R_drew)); exact HO252.out) (Kd.R_base ho24) hb)
                              have n2_ := Aside0.mk (Kd.R_elder' (by (with_reducible repeat (first | apply Kd.R_alloc | apply Kd.R_drewN | apply Kd.R_drew)); exact HO255.out) (Kd.R_base ho24) hb)
                              have n3_ := Aside0.mk (Kd.R_lower (Kd.R_new' (Kd.R_new' (Kd.R_new' ho24 (Kd.R_lt (by (with_reducible repeat (first | apply Kd.R_alloc | apply Kd.R_drewN | apply Kd.R_drew)); exact HO_4.out))) (Kd.R_lt (by (with_reducible repeat (first | apply Kd.R_alloc | apply Kd.R_drewN | apply Kd.R_drew)); exact HO252.out))) (Kd.R_lt (by (with_reducible repeat (first | apply Kd.R_alloc | apply Kd.R_drewN | apply Kd.R_drew)); exact HO255.out))) (below_size (by repeat (first | (with_reducible first | exact HB.out | apply below_alloc | apply pw_below_drewN | apply below_drew1) | exact HB.out))))
                              have n4_ := Aside0.mk (below_step (by repeat (first | (with_reducible first | exact HB.out | apply below_alloc | apply pw_below_drewN | apply below_drew1) | exact HB.out)) hb)
                              clear HO_4
                              clear HO252
                              clear HO255
                              clear HB
                              have HO_4 := n0_
                              have HO252 := n1_
                              have HO255 := n2_
                              have HO258 := n3_
                              have HB := n4_
                              clear n0_ n1_ n2_ n3_ n4_
                              clear hb ho24
                              refine hK.out _ _ trivial (fun hHeld => ?_)
                              clear hK K
                              refine norm_ (a' := ?_) ?_ ?_
                              rotate_left
                              · show Act.put _ (some 38) _ = _
                                simp only [Act.put, List.setIfInBounds_toArray, List.set_cons_zero, List.set_cons_succ, i64_w, i32_w]
                                rfl
                              exact norm_ (by simp only [putAll, Act.put, List.setIfInBounds_toArray, List.set_cons_zero, List.set_cons_succ]) (hCont (.slice Ao21 y250.length co21, v254, v257) _ ⟨(by (with_reducible repeat (first | apply Kd.R_alloc | apply Kd.R_drewN | apply Kd.R_drew)); exact Kd.R_mono HO252.out (fun _ hk => ⟨hk.1.2, ⟨hk.2, hk.1.1.2⟩⟩)), (by (with_reducible repeat (first | apply Kd.R_alloc | apply Kd.R_drewN | apply Kd.R_drew)); exact Kd.R_mono HO255.out (fun _ hk => ⟨hk.1.2, ⟨hk.2, hk.1.1.2⟩⟩)), (by (with_reducible repeat (first | apply Kd.R_alloc | apply Kd.R_drewN | apply Kd.R_drew)); exact Kd.R_mono HO258.out (fun _ hk => ⟨hk.1.2, ⟨hk.2, hk.1.1.2⟩⟩)), (by (with_reducible repeat (first | apply Kd.R_alloc | apply Kd.R_drewN | apply Kd.R_drew)); exact Kd.R_mono HO_4.out (fun _ hk => ⟨hk.1.1.2, ⟨hk.1.2, hk.2⟩⟩)), (by repeat (first | (with_reducible first | exact HB.out | apply below_alloc | apply pw_below_drewN | apply below_drew1) | exact HB.out))⟩)
                            · skip
                              refine Kd.R_lit_step (Kd.int .u32) _ 40 ?hg (N := 38) ?hd (xs := ([((bt a0 x5_2) - 48) % 256] : List Int)) (inner := [.int .u32 (((bt a0 x5_2) - 48) % 256)]) (ok := fun _ => True) (okp := fun _ => True) ?hr ?hp (fun _ hk => hk) trivial (Below.refl _ _) (Nat.le_refl _) (by simp) ?_; (case hd => rfl); (case hg => rfl); (case hr => first | (go_simp; done) | (go_simp; rfl) | (go_simp; simp only [x_u32u8, x_u8, x_u32, x_u64, x_mm]; first | done | rfl)); (case hp => exact (Reps.one (show Kd.M (Kd.int .u32) _ _ _ (((bt a0 x5_2) - 48) % 256) [.int .u32 (((bt a0 x5_2) - 48) % 256)] from rfl) (Reps.none _ _)))
                              intro v257 w21 ho22 hb hg_ hnew_
                              clear hg_ hnew_
                              (first | rw [← Ny256.out] at ho22 | (simp only [Int.reduceToNat] at ho22; rw [← Ny256.out] at ho22))
                              have n0_ := Aside0.mk (Kd.R_elder' (by (with_reducible repeat (first | apply Kd.R_alloc | apply Kd.R_drewN | apply Kd.R_drew)); exact HO_4.out) (Kd.R_base ho22) hb)
                              have n1_ := Aside0.mk (Kd.R_elder' (by (with_reducible repeat (first | apply Kd.R_alloc | apply Kd.R_drewN | apply Kd.R_drew)); exact HO252.out) (Kd.R_base ho22) hb)
                              have n2_ := Aside0.mk (Kd.R_lower (Kd.R_new' (Kd.R_new' ho22 (Kd.R_lt (by (with_reducible repeat (first | apply Kd.R_alloc | apply Kd.R_drewN | apply Kd.R_drew)); exact HO_4.out))) (Kd.R_lt (by (with_reducible repeat (first | apply Kd.R_alloc | apply Kd.R_drewN | apply Kd.R_drew)); exact HO252.out))) (below_size (by repeat (first | (with_reducible first | exact HB.out | apply below_alloc | apply pw_below_drewN | apply below_drew1) | exact HB.out))))
                              have n3_ := Aside0.mk (below_step (by repeat (first | (with_reducible first | exact HB.out | apply below_alloc | apply pw_below_drewN | apply below_drew1) | exact HB.out)) hb)
                              clear HO_4
                              clear HO252
                              clear HB
                              have HO_4 := n0_
                              have HO252 := n1_
                              have HO258 := n2_
                              have HB := n3_
                              clear n0_ n1_ n2_ n3_
                              clear hb ho22
                              obtain ⟨Ao23, co23, eo23⟩ := Kd.R_slice HO252.out
                              (first | subst eo23 | (injection eo23 with f1_ f2_ f3_; have f4_ := f1_.symm; have f5_ := f3_.symm; clear f1_ f2_ f3_; subst f4_; subst f5_))
                              refine hK.out _ _ trivial (fun hHeld => ?_)
                              clear hK K
                              refine norm_ (a' := ?_) ?_ ?_
                              rotate_left
                              · show Act.put _ (some 38) _ = _
                                simp only [Act.put, List.setIfInBounds_toArray, List.set_cons_zero, List.set_cons_succ, i64_w, i32_w]
                                rfl
                              refine one_ (i := 2) (N := some 32) #[true, true, true, true, true, true, true, true, true, false, false] rfl rfl (one_of HT_.out (by kernel_rfl)) (by decide) (fun K hK => ?_)
                              refine goes_ Tryd.func51 (by kernel_rfl) rfl #[.slice Ao17 x4_2.length co17, .slice Ao23 y250.length co23] (by rfl) rfl rfl (by (try simp only [List.map_toArray, List.map_cons, List.map_nil]); first | done | rfl | (simp only [List.length_drop, List.length_take]; rfl)) ?_
                              with_reducible refine (erratumref01_Mul.calls kj5 _ _ x4_2 _ _ y250 t253 _ ?side1 ?side2 ?side3 ?side4 A12.out).mono ?_
                              (case side1 => repeat (first | exact (Kd.R_reads' HO_4.out).2.2 | (with_reducible refine Kd.C_alloc ?_ _) | (with_reducible refine Kd.C_drewN ?_ _) | (with_reducible refine Kd.C_drew ?_)))
                              (case side2 => exact (Kd.R_reads' HO_4.out).2.1)
                              (case side3 => repeat (first | exact (Kd.R_reads' HO252.out).2.2 | (with_reducible refine Kd.C_alloc ?_ _) | (with_reducible refine Kd.C_drewN ?_ _) | (with_reducible refine Kd.C_drew ?_)))
                              (case side4 => exact (Kd.R_reads' HO252.out).2.1)
                              rintro e w24 ⟨v254, rfl, ho0, hb⟩
                              refine ⟨_, rfl, ?_⟩
                              have n0_ := Aside0.mk (Kd.R_elder' (by (with_reducible repeat (first | apply Kd.R_alloc | apply Kd.R_drewN | apply Kd.R_drew)); exact HO_4.out) (Kd.R_base ho0) hb)
                              have n1_ := Aside0.mk (Kd.R_elder' (by (with_reducible repeat (first | apply Kd.R_alloc | apply Kd.R_drewN | apply Kd.R_drew)); exact HO252.out) (Kd.R_base ho0) hb)
                              have n2_ := Aside0.mk (Kd.R_elder' (by (with_reducible repeat (first | apply Kd.R_alloc | apply Kd.R_drewN | apply Kd.R_drew)); exact HO258.out) (Kd.R_base ho0) hb)
                              have n3_ := Aside0.mk (Kd.R_lower (Kd.R_new' (Kd.R_new' (Kd.R_new' ho0 (Kd.R_lt (by (with_reducible repeat (first | apply Kd.R_alloc | apply Kd.R_drewN | apply Kd.R_drew)); exact HO_4.out))) (Kd.R_lt (by (with_reducible repeat (first | apply Kd.R_alloc | apply Kd.R_drewN | apply Kd.R_drew)); exact HO252.out))) (Kd.R_lt (by (with_reducible repeat (first | apply Kd.R_alloc | apply Kd.R_drewN | apply Kd.R_drew)); exact HO258.out))) (below_size (by repeat (first | (with_reducible first | exact HB.out | apply below_alloc | apply pw_below_drewN | apply below_drew1) | exact HB.out))))
                              have n4_ := Aside0.mk (below_step (by repeat (first | (with_reducible first | exact HB.out | apply below_alloc | apply pw_below_drewN | apply below_drew1) | exact HB.out)) hb)
                              clear HO_4
                              clear HO252
                              clear HO258
                              clear HB
                              have HO_4 := n0_
                              have HO252 := n1_
                              have HO258 := n2_
                              have HO255 := n3_
                              have HB := n4_
                              clear n0_ n1_ n2_ n3_ n4_
                              (try clear hb)
                              (try clear hb2)
                              (try clear hk)
                              (try clear hi)
                              (try clear ho0)
                              refine hK.out _ _ trivial (fun hHeld => ?_)
                              clear hK K
                              refine norm_ (a' := ?_) ?_ ?_
                              rotate_left
                              · show Act.put _ (some 32) _ = _
                                simp only [Act.put, List.setIfInBounds_toArray, List.set_cons_zero, List.set_cons_succ, i64_w, i32_w]
                                rfl
                              exact norm_ (by simp only [putAll, Act.put, List.setIfInBounds_toArray, List.set_cons_zero, List.set_cons_succ]) (hCont (.slice Ao23 y250.length co23, v254, v257) _ ⟨(by (with_reducible repeat (first | apply Kd.R_alloc | apply Kd.R_drewN | apply Kd.R_drew)); exact Kd.R_mono HO252.out (fun _ hk => ⟨hk.2, ⟨hk.1.2, hk.1.1.2⟩⟩)), (by (with_reducible repeat (first | apply Kd.R_alloc | apply Kd.R_drewN | apply Kd.R_drew)); exact Kd.R_mono HO255.out (fun _ hk => ⟨hk.1.2, ⟨hk.2, hk.1.1.2⟩⟩)), (by (with_reducible repeat (first | apply Kd.R_alloc | apply Kd.R_drewN | apply Kd.R_drew)); exact Kd.R_mono HO258.out (fun _ hk => ⟨hk.1.2, ⟨hk.2, hk.1.1.2⟩⟩)), (by (with_reducible repeat (first | apply Kd.R_alloc | apply Kd.R_drewN | apply Kd.R_drew)); exact Kd.R_mono HO_4.out (fun _ hk => ⟨hk.1.1.2, ⟨hk.2, hk.1.2⟩⟩)), (by repeat (first | (with_reducible first | exact HB.out | apply below_alloc | apply pw_below_drewN | apply below_drew1) | exact HB.out))⟩)
                          · skip
                            refine Kd.R_lit_step (Kd.int .u32) _ 40 ?hg (N := 38) ?hd (xs := ([((bt a0 x5_2) - 48) % 256] : List Int)) (inner := [.int .u32 (((bt a0 x5_2) - 48) % 256)]) (ok := fun _ => True) (okp := fun _ => True) ?hr ?hp (fun _ hk => hk) trivial (Below.refl _ _) (Nat.le_refl _) (by simp) ?_; (case hd => rfl); (case hg => rfl); (case hr => first | (go_simp; done) | (go_simp; rfl) | (go_simp; simp only [x_u32u8, x_u8, x_u32, x_u64, x_mm]; first | done | rfl)); (case hp => exact (Reps.one (show Kd.M (Kd.int .u32) _ _ _ (((bt a0 x5_2) - 48) % 256) [.int .u32 (((bt a0 x5_2) - 48) % 256)] from rfl) (Reps.none _ _)))
                            intro v257 w19 ho20 hb hg_ hnew_
                            clear hg_ hnew_
                            (first | rw [← Ny256.out] at ho20 | (simp only [Int.reduceToNat] at ho20; rw [← Ny256.out] at ho20))
                            have n0_ := Aside0.mk (Kd.R_elder' (by (with_reducible repeat (first | apply Kd.R_alloc | apply Kd.R_drewN | apply Kd.R_drew)); exact HO_4.out) (Kd.R_base ho20) hb)
                            have n1_ := Aside0.mk (Kd.R_lower (Kd.R_new' ho20 (Kd.R_lt (by (with_reducible repeat (first | apply Kd.R_alloc | apply Kd.R_drewN | apply Kd.R_drew)); exact HO_4.out))) (below_size (by repeat (first | (with_reducible first | exact HB.out | apply below_alloc | apply pw_below_drewN | apply below_drew1) | exact HB.out))))
                            have n2_ := Aside0.mk (below_step (by repeat (first | (with_reducible first | exact HB.out | apply below_alloc | apply pw_below_drewN | apply below_drew1) | exact HB.out)) hb)
                            clear HO_4
                            clear HB
                            have HO_4 := n0_
                            have HO258 := n1_
                            have HB := n2_
                            clear n0_ n1_ n2_
                            clear hb ho20
                            refine hK.out _ _ trivial (fun hHeld => ?_)
                            clear hK K
                            refine norm_ (a' := ?_) ?_ ?_
                            rotate_left
                            · show Act.put _ (some 38) _ = _
                              simp only [Act.put, List.setIfInBounds_toArray, List.set_cons_zero, List.set_cons_succ, i64_w, i32_w]
                              rfl
                            refine one_ (i := 1) (N := some 31) #[true, true, false, true, true, true, true, true, true, false, false] rfl rfl (one_of HT_.out (by kernel_rfl)) (by decide) (fun K hK => ?_)
                            refine Kd.R_lit_step (Kd.int .u32) _ 40 ?hg (N := 31) ?hd (xs := ([10] : List Int)) (inner := [.int .u32 10]) (ok := fun _ => True) (okp := fun _ => True) ?hr ?hp (fun _ hk => hk) trivial (Below.refl _ _) (Nat.le_refl _) (by simp) ?_; (case hd => rfl); (case hg => rfl); (case hr => first | (go_simp; done) | (go_simp; rfl) | (go_simp; simp only [x_u32u8, x_u8, x_u32, x_u64, x_mm]; first | done | rfl)); (case hp => exact (Reps.one (show Kd.M (Kd.int .u32) _ _ _ 10 [.int .u32 10] from rfl) (Reps.none _ _)))
                            intro v251 w21 ho22 hb hg_ hnew_
                            clear hg_ hnew_
                            (first | rw [← Ny250.out] at ho22 | (simp only [Int.reduceToNat] at ho22; rw [← Ny250.out] at ho22))
                            have n0_ := Aside0.mk (Kd.R_elder' (by (with_reducible repeat (first | apply Kd.R_alloc | apply Kd.R_drewN | apply Kd.R_drew)); exact HO_4.out) (Kd.R_base ho22) hb)
                            have n1_ := Aside0.mk (Kd.R_elder' (by (with_reducible repeat (first | apply Kd.R_alloc | apply Kd.R_drewN | apply Kd.R_drew)); exact HO258.out) (Kd.R_base ho22) hb)
                            have n2_ := Aside0.mk (Kd.R_lower (Kd.R_new' (Kd.R_new' ho22 (Kd.R_lt (by (with_reducible repeat (first | apply Kd.R_alloc | apply Kd.R_drewN | apply Kd.R_drew)); exact HO_4.out))) (Kd.R_lt (by (with_reducible repeat (first | apply Kd.R_alloc | apply Kd.R_drewN | apply Kd.R_drew)); exact HO258.out))) (below_size (by repeat (first | (with_reducible first | exact HB.out | apply below_alloc | apply pw_below_drewN | apply below_drew1) | exact HB.out))))
                            have n3_ := Aside0.mk (below_step (by repeat (first | (with_reducible first | exact HB.out | apply below_alloc | apply pw_below_drewN | apply below_drew1) | exact HB.out)) hb)
                            clear HO_4
                            clear HO258
                            clear HB
                            have HO_4 := n0_
                            have HO258 := n1_
                            have HO252 := n2_
                            have HB := n3_
                            clear n0_ n1_ n2_ n3_
                            clear hb ho22
                            obtain ⟨Ao23, co23, eo23⟩ := Kd.R_slice HO252.out
                            (first | subst eo23 | (injection eo23 with f1_ f2_ f3_; have f4_ := f1_.symm; have f5_ := f3_.symm; clear f1_ f2_ f3_; subst f4_; subst f5_))
                            refine hK.out _ _ trivial (fun hHeld => ?_)
                            clear hK K
                            refine norm_ (a' := ?_) ?_ ?_
                            rotate_left
                            · show Act.put _ (some 31) _ = _
                              simp only [Act.put, List.setIfInBounds_toArray, List.set_cons_zero, List.set_cons_succ, i64_w, i32_w]
                              rfl
                            refine one_ (i := 2) (N := some 32) #[true, true, true, true, true, true, true, true, true, false, false] rfl rfl (one_of HT_.out (by kernel_rfl)) (by decide) (fun K hK => ?_)
                            refine goes_ Tryd.func51 (by kernel_rfl) rfl #[.slice Ao17 x4_2.length co17, .slice Ao23 y250.length co23] (by rfl) rfl rfl (by (try simp only [List.map_toArray, List.map_cons, List.map_nil]); first | done | rfl | (simp only [List.length_drop, List.length_take]; rfl)) ?_
                            with_reducible refine (erratumref01_Mul.calls kj5 _ _ x4_2 _ _ y250 t253 _ ?side1 ?side2 ?side3 ?side4 A12.out).mono ?_
                            (case side1 => repeat (first | exact (Kd.R_reads' HO_4.out).2.2 | (with_reducible refine Kd.C_alloc ?_ _) | (with_reducible refine Kd.C_drewN ?_ _) | (with_reducible refine Kd.C_drew ?_)))
                            (case side2 => exact (Kd.R_reads' HO_4.out).2.1)
                            (case side3 => repeat (first | exact (Kd.R_reads' HO252.out).2.2 | (with_reducible refine Kd.C_alloc ?_ _) | (with_reducible refine Kd.C_drewN ?_ _) | (with_reducible refine Kd.C_drew ?_)))
                            (case side4 => exact (Kd.R_reads' HO252.out).2.1)
                            rintro e w24 ⟨v254, rfl, ho0, hb⟩
                            refine ⟨_, rfl, ?_⟩
                            have n0_ := Aside0.mk (Kd.R_elder' (by (with_reducible repeat (first | apply Kd.R_alloc | apply Kd.R_drewN | apply Kd.R_drew)); exact HO_4.out) (Kd.R_base ho0) hb)
                            have n1_ := Aside0.mk (Kd.R_elder' (by (with_reducible repeat (first | apply Kd.R_alloc | apply Kd.R_drewN | apply Kd.R_drew)); exact HO258.out) (Kd.R_base ho0) hb)
                            have n2_ := Aside0.mk (Kd.R_elder' (by (with_reducible repeat (first | apply Kd.R_alloc | apply Kd.R_drewN | apply Kd.R_drew)); exact HO252.out) (Kd.R_base ho0) hb)
                            have n3_ := Aside0.mk (Kd.R_lower (Kd.R_new' (Kd.R_new' (Kd.R_new' ho0 (Kd.R_lt (by (with_reducible repeat (first | apply Kd.R_alloc | apply Kd.R_drewN | apply Kd.R_drew)); exact HO_4.out))) (Kd.R_lt (by (with_reducible repeat (first | apply Kd.R_alloc | apply Kd.R_drewN | apply Kd.R_drew)); exact HO258.out))) (Kd.R_lt (by (with_reducible repeat (first | apply Kd.R_alloc | apply Kd.R_drewN | apply Kd.R_drew)); exact HO252.out))) (below_size (by repeat (first | (with_reducible first | exact HB.out | apply below_alloc | apply pw_below_drewN | apply below_drew1) | exact HB.out))))
                            have n4_ := Aside0.mk (below_step (by repeat (first | (with_reducible first | exact HB.out | apply below_alloc | apply pw_below_drewN | apply below_drew1) | exact HB.out)) hb)
                            clear HO_4
                            clear HO258
                            clear HO252
                            clear HB
                            have HO_4 := n0_
                            have HO258 := n1_
                            have HO252 := n2_
                            have HO255 := n3_
                            have HB := n4_
                            clear n0_ n1_ n2_ n3_ n4_
                            (try clear hb)
                            (try clear hb2)
                            (try clear hk)
                            (try clear hi)
                            (try clear ho0)
                            refine hK.out _ _ trivial (fun hHeld => ?_)
                            clear hK K
                            refine norm_ (a' := ?_) ?_ ?_
                            rotate_left
                            · show Act.put _ (some 32) _ = _
                              simp only [Act.put, List.setIfInBounds_toArray, List.set_cons_zero, List.set_cons_succ, i64_w, i32_w]
                              rfl
                            exact norm_ (by simp only [putAll, Act.put, List.setIfInBounds_toArray, List.set_cons_zero, List.set_cons_succ]) (hCont (.slice Ao23 y250.length co23, v254, v257) _ ⟨(by (with_reducible repeat (first | apply Kd.R_alloc | apply Kd.R_drewN | apply Kd.R_drew)); exact Kd.R_mono HO252.out (fun _ hk => ⟨hk.2, ⟨hk.1.2, hk.1.1.2⟩⟩)), (by (with_reducible repeat (first | apply Kd.R_alloc | apply Kd.R_drewN | apply Kd.R_drew)); exact Kd.R_mono HO255.out (fun _ hk => ⟨hk.2, ⟨hk.1.2, hk.1.1.2⟩⟩)), (by (with_reducible repeat (first | apply Kd.R_alloc | apply Kd.R_drewN | apply Kd.R_drew)); exact Kd.R_mono HO258.out (fun _ hk => ⟨hk.1.2, ⟨hk.2, hk.1.1.2⟩⟩)), (by (with_reducible repeat (first | apply Kd.R_alloc | apply Kd.R_drewN | apply Kd.R_drew)); exact Kd.R_mono HO_4.out (fun _ hk => ⟨hk.1.2, ⟨hk.2, hk.1.1.2⟩⟩)), (by repeat (first | (with_reducible first | exact HB.out | apply below_alloc | apply pw_below_drewN | apply below_drew1) | exact HB.out))⟩)
                        rintro ⟨v251, v254, v257⟩ w25 ⟨h0_, h1_, h2_, h3_, h4_⟩
                        have n0_ : Aside0 (Kd.R (Kd.int .u32) 40 w25 w.heap.size (fun k_ => some k_ ≠ (v254 : Value).ownBlock ∧ some k_ ≠ (v257 : Value).ownBlock ∧ some k_ ≠ (.slice Ao17 x4_2.length co17 : Value).ownBlock) v251 y250) := ⟨h0_⟩
                        have n1_ : Aside0 (Kd.R (Kd.int .u32) 40 w25 w.heap.size (fun k_ => some k_ ≠ (v251 : Value).ownBlock ∧ some k_ ≠ (v257 : Value).ownBlock ∧ some k_ ≠ (.slice Ao17 x4_2.length co17 : Value).ownBlock) v254 t253) := ⟨h1_⟩
                        have n2_ : Aside0 (Kd.R (Kd.int .u32) 40 w25 w.heap.size (fun k_ => some k_ ≠ (v251 : Value).ownBlock ∧ some k_ ≠ (v254 : Value).ownBlock ∧ some k_ ≠ (.slice Ao17 x4_2.length co17 : Value).ownBlock) v257 y256) := ⟨h2_⟩
                        have n3_ : Aside0 (Kd.R (Kd.int .u32) 40 w25 w.heap.size (fun k_ => some k_ ≠ (v251 : Value).ownBlock ∧ some k_ ≠ (v254 : Value).ownBlock ∧ some k_ ≠ (v257 : Value).ownBlock) (.slice Ao17 x4_2.length co17) x4_2) := ⟨h3_⟩
                        have n4_ : Aside0 (Below w.heap.size w w25) := ⟨h4_⟩
                        clear HO_4
                        clear HB
                        clear h0_ h1_ h2_ h3_ h4_
                        have HO252 := n0_
                        have HO255 := n1_
                        have HO258 := n2_
                        have HO_4 := n3_
                        have HB := n4_
                        clear n0_ n1_ n2_ n3_ n4_
                        have hHeld := trivial
                        obtain ⟨Ao26, co26, eo26⟩ := Kd.R_slice HO255.out
                        (first | subst eo26 | (injection eo26 with f1_ f2_ f3_; have f4_ := f1_.symm; have f5_ := f3_.symm; clear f1_ f2_ f3_; subst f4_; subst f5_))
                        obtain ⟨Ao27, co27, eo27⟩ := Kd.R_slice HO258.out
                        (first | subst eo27 | (injection eo27 with f1_ f2_ f3_; have f4_ := f1_.symm; have f5_ := f3_.symm; clear f1_ f2_ f3_; subst f4_; subst f5_))
                        refine norm_ (a' := ?_) ?_ ?_
                        rotate_left
                        · simp only [putAll, Act.put, List.setIfInBounds_toArray, List.set_cons_zero, List.set_cons_succ]
                          rfl
                        refine one_ (i := 9) (N := some 39) #[true, true, true, true, true, true, true, true, true, true, false] rfl rfl (one_of HT_.out (by kernel_rfl)) (by decide) (fun K hK => ?_)
                        refine goes_ Tryd.func50 (by kernel_rfl) rfl #[.slice Ao26 t253.length co26, .slice Ao27 y256.length co27] (by rfl) rfl rfl (by (try simp only [List.map_toArray, List.map_cons, List.map_nil]); first | done | rfl | (simp only [List.length_drop, List.length_take]; rfl)) ?_
                        with_reducible refine (erratumref01_Add.calls kj5 _ _ t253 _ _ y256 t259 _ ?side1 ?side2 ?side3 ?side4 A16.out).mono ?_
                        (case side1 => repeat (first | exact (Kd.R_reads' HO255.out).2.2 | (with_reducible refine Kd.C_alloc ?_ _) | (with_reducible refine Kd.C_drewN ?_ _) | (with_reducible refine Kd.C_drew ?_)))
                        (case side2 => exact (Kd.R_reads' HO255.out).2.1)
                        (case side3 => repeat (first | exact (Kd.R_reads' HO258.out).2.2 | (with_reducible refine Kd.C_alloc ?_ _) | (with_reducible refine Kd.C_drewN ?_ _) | (with_reducible refine Kd.C_drew ?_)))
                        (case side4 => exact (Kd.R_reads' HO258.out).2.1)
                        rintro e w28 ⟨v260, rfl, ho0, hb⟩
                        refine ⟨_, rfl, ?_⟩
                        have n0_ := Aside0.mk (Kd.R_elder' (by (with_reducible repeat (first | apply Kd.R_alloc | apply Kd.R_drewN | apply Kd.R_drew)); exact HO_4.out) (Kd.R_base ho0) hb)
                        have n1_ := Aside0.mk (Kd.R_elder' (by (with_reducible repeat (first | apply Kd.R_alloc | apply Kd.R_drewN | apply Kd.R_drew)); exact HO252.out) (Kd.R_base ho0) hb)
                        have n2_ := Aside0.mk (Kd.R_elder' (by (with_reducible repeat (first | apply Kd.R_alloc | apply Kd.R_drewN | apply Kd.R_drew)); exact HO255.out) (Kd.R_base ho0) hb)
                        have n3_ := Aside0.mk (Kd.R_elder' (by (with_reducible repeat (first | apply Kd.R_alloc | apply Kd.R_drewN | apply Kd.R_drew)); exact HO258.out) (Kd.R_base ho0) hb)
                        have n4_ := Aside0.mk (Kd.R_lower (Kd.R_new' (Kd.R_new' (Kd.R_new' (Kd.R_new' ho0 (Kd.R_lt (by (with_reducible repeat (first | apply Kd.R_alloc | apply Kd.R_drewN | apply Kd.R_drew)); exact HO_4.out))) (Kd.R_lt (by (with_reducible repeat (first | apply Kd.R_alloc | apply Kd.R_drewN | apply Kd.R_drew)); exact HO252.out))) (Kd.R_lt (by (with_reducible repeat (first | apply Kd.R_alloc | apply Kd.R_drewN | apply Kd.R_drew)); exact HO255.out))) (Kd.R_lt (by (with_reducible repeat (first | apply Kd.R_alloc | apply Kd.R_drewN | apply Kd.R_drew)); exact HO258.out))) (below_size (by repeat (first | (with_reducible first | exact HB.out | apply below_alloc | apply pw_below_drewN | apply below_drew1) | exact HB.out))))
                        have n5_ := Aside0.mk (below_step (by repeat (first | (with_reducible first | exact HB.out | apply below_alloc | apply pw_below_drewN | apply below_drew1) | exact HB.out)) hb)
                        clear HO_4
                        clear HO252
                        clear HO255
                        clear HO258
                        clear HB
                        have HO_4 := n0_
                        have HO252 := n1_
                        have HO255 := n2_
                        have HO258 := n3_
                        have HO261 := n4_
                        have HB := n5_
                        clear n0_ n1_ n2_ n3_ n4_ n5_
                        (try clear hb)
                        (try clear hb2)
                        (try clear hk)
                        (try clear hi)
                        (try clear ho0)
                        refine hK.out _ _ trivial (fun hHeld => ?_)
                        clear hK K
                        refine norm_ (a' := ?_) ?_ ?_
                        rotate_left
                        · show Act.put _ (some 39) _ = _
                          simp only [Act.put, List.setIfInBounds_toArray, List.set_cons_zero, List.set_cons_succ, i64_w, i32_w]
                          rfl
                        refine pure_ (i := 10) (N := some 4) (v := ?_) (a' := ?_) #[true, true, true, true, true, true, true, true, true, true, true] rfl rfl (any_of HT_.out (by kernel_rfl)) (fun _ _ _ h => h) (Or.inl ⟨by rfl, ?_⟩) ?_ ?_
                        rotate_left
                        · intro w'
                          go_simp
                          with_reducible rfl
                        rotate_left
                        · simp only [Act.put, List.setIfInBounds_toArray, List.set_cons_zero, List.set_cons_succ, i64_w, i32_w]
                          rfl
                        refine done_ (done_of HT_.out (by kernel_rfl)) ?_
                        try go_wp2
                        go_roundg kj5
                        case measure => have := HJ1.out; have := HK2.out; have := HJ5.out; omega
                        case rel => exact ⟨(t259), (wrap64 (x5_2 + 1)), (by first | rfl | (simp; done) | (simp [*]; done)), H', ⟨by have := HJ1.out; have := HK2.out; have := HJ5.out; omega⟩, ⟨by (with_reducible repeat (first | apply Kd.R_alloc | apply Kd.R_drewN | apply Kd.R_drew)); exact Kd.R_mono HO261.out (fun _ hk => trivial)⟩, ⟨by repeat (first | (with_reducible first | exact HB.out | apply below_alloc | apply pw_below_drewN | apply below_drew1) | exact HB.out)⟩⟩
                      · rw [if_neg c14] at H
                        exact absurd H (by simp)
                    · rw [if_neg c13] at H
                      exact absurd H (by simp)
            · rw [if_neg c5] at H
              have c5b0 : decide (x5_2 < (a0.size : Int)) = false := decide_eq_false c5
              clear c5
              simp only [Option.some.injEq, Prod.mk.injEq] at H
              obtain ⟨rfl, rfl⟩ := H
              go_wp2
              go_ret2
              exact ⟨_, by first | rfl | (simp [errW_none, errW_some] <;> rfl) | (simp [*, errW_none, errW_some] <;> rfl), by (with_reducible repeat (first | apply Kd.R_alloc | apply Kd.R_drewN | apply Kd.R_drew)); exact HO_4.out, by repeat (first | (with_reducible first | exact HB.out | apply below_alloc | apply pw_below_drewN | apply below_drew1) | exact HB.out)⟩

end Go.Proofs.YtmkdcokdilllcaaDoor.X
/- What the document's naturals come to. -/
namespace Go.Proofs.YtmkdcokdilllcaaDoor.X
open Go.RowKit Go.Proofs.YtmkdcokdilllcaaDoorW.PrintWords Go.Proofs.YtmkdcokdilllcaaDoorW.PrintMore
set_option linter.unusedVariables false
set_option linter.unusedSimpArgs false
theorem r1norm_loop {a : List Int} (la : a.length < 35184372088832) (m : Nat) : m ≤ a.length → Ev (fun k => erratumref01_Norm.l0 k a (m : Int)) (norm (a.take m)) := by
  induction m with
  | zero =>
    intro _
    refine Ev.step (f := fun _ => some (norm (a.take 0))) (fun k => ?_) (Ev.now _)
    have c0 : ¬ ((0 : Nat) : Int) > 0 := by omega
    have c1 : (0 : Int) ≤ ((0 : Nat) : Int) := by omega
    have c2 : ((0 : Nat) : Int) ≤ (a.length : Int) := by omega
    have c3 : ([] : List Int).length + (a.take 0).length < 35184372088832 := by simp
    simp only [erratumref01_Norm.l0, c0, if_false, c1, c2, if_true, Int.toNat_natCast, c3, List.nil_append]
    rw [List.take_zero, norm_nil]
  | succ m ih =>
    intro hm
    have hn := norm_take a m (by omega)
    have c0 : ((m + 1 : Nat) : Int) > 0 := by omega
    have e0 : wrap64 (((m + 1 : Nat) : Int) - 1) = (m : Int) := by rw [wrap64_ok (by omega) (by omega)]; omega
    have c1 : (0 : Int) ≤ (m : Int) := by omega
    have c2 : (m : Int) < (a.length : Int) := by omega
    by_cases hz : rd a m = 0
    · rw [if_pos hz] at hn
      rw [hn]
      refine Ev.step (f := fun k => erratumref01_Norm.l0 k a (m : Int)) (fun k => ?_) (ih (by omega))
      simp only [erratumref01_Norm.l0, c0, if_true, e0, c1, c2, hz]
    · rw [if_neg hz] at hn
      rw [hn]
      refine Ev.step (f := fun _ => some (a.take (m + 1))) (fun k => ?_) (Ev.now _)
      have c3 : (0 : Int) ≤ ((m + 1 : Nat) : Int) := by omega
      have c4 : ((m + 1 : Nat) : Int) ≤ (a.length : Int) := by omega
      have c5 : ([] : List Int).length + (a.take (m + 1)).length < 35184372088832 := by
        rw [List.length_take, List.length_nil]; omega
      simp only [erratumref01_Norm.l0, c0, if_true, e0, c1, c2, hz, if_false, c3, c4, Int.toNat_natCast, c5, List.nil_append]
theorem r1norm {a : List Int} (ha : Ok a) (la : a.length < 35184372088832) : Ev (fun k => erratumref01_Norm.f k a) (lim (val a)) := by
  have h := r1norm_loop la a.length (Nat.le_refl _)
  rw [List.take_of_length_le (Nat.le_refl _), norm_lim ha] at h
  exact Ev.congr (fun k => rfl) h
theorem r1limb {l : List Int} (h : Ok l) {i : Int} (hi : 0 ≤ i) : erratumref01_limb.f l i = some (rd l i) := by
  have hr := h.rd i
  unfold erratumref01_limb.f
  by_cases hlt : i < (l.length : Int)
  · rw [if_pos hlt, if_pos hi, u64_ok hr.1 (by omega)]
  · rw [if_neg hlt, rd_ge (by omega)]
theorem r1add_loop {a b : List Int} (ha : Ok a) (hb : Ok b) (la : a.length ≤ 1099511627776) (lb : b.length ≤ 1099511627776) (d : Nat) : ∀ (acc : List Int) (c : Int) (i : Nat), Ok acc → acc.length = i → 0 ≤ c → c ≤ 1 → i + d = max a.length b.length + 1 → (max a.length b.length < i → c = 0) →
    Ev (fun k => erratumref01_Add.l0 k a b acc c (i : Int)) (lim (val acc + 4294967296 ^ i * (c.toNat + val (a.drop i) + val (b.drop i)))) := by
  induction d with
  | zero =>
    intro acc c i hacc hl h0 h1 hd hc
    have hc0 := hc (by omega)
    have hn := r1norm hacc (by omega)
    have c0 : ¬ ((i : Int) ≤ ((max a.length b.length : Nat) : Int)) := by omega
    refine Ev.step (f := fun k => (erratumref01_Norm.f k acc).bind fun t => some t) (fun k => ?_) ?_
    · simp only [erratumref01_Add.l0, mx_nat, c0, if_false]
    · rw [hc0, List.drop_eq_nil_of_le (by omega), List.drop_eq_nil_of_le (by omega)]
      simp only [val, Int.toNat_zero, Nat.add_zero, Nat.mul_zero]
      exact Ev.bind hn (Ev.now _)
  | succ d ih =>
    intro acc c i hacc hl h0 h1 hd hc
    have ra := ha.rd i
    have rb := hb.rd i
    have e1 : IntKind.u64.wrap (IntKind.u64.wrap (c + rd a i) + rd b i) = c + rd a i + rd b i := by rw [u64_ok (n := c + rd a i) (by omega) (by omega), u64_ok (by omega) (by omega)]
    have ih' := ih (acc ++ [(c + rd a i + rd b i) % 4294967296]) ((c + rd a i + rd b i) / 4294967296) (i + 1) (hacc.append (Ok.cons (by omega) (by omega) Ok.nil)) (by simp [hl]) (by omega) (by omega) (by omega) (by
      intro hm
      rw [rd_ge (l := a) (by omega), rd_ge (l := b) (by omega)]
      omega)
    refine Ev.step (f := fun k => erratumref01_Add.l0 k a b (acc ++ [(c + rd a i + rd b i) % 4294967296]) ((c + rd a i + rd b i) / 4294967296) ((i + 1 : Nat) : Int)) (fun k => ?_) ?_
    · have c0 : ((i : Int) ≤ ((max a.length b.length : Nat) : Int)) := by omega
      have c1 : (0 : Int) ≤ (i : Int) := by omega
      have c2 : acc.length < 35184372088832 := by omega
      have e2 : wrap64 ((i : Int) + 1) = ((i + 1 : Nat) : Int) := by rw [wrap64_ok (by omega) (by omega)]; omega
      simp only [erratumref01_Add.l0, mx_nat, c0, if_true, r1limb ha c1, r1limb hb c1, Option.bind_some, c2, e1, e2]
    · have hv : val acc + 4294967296 ^ i * (c.toNat + val (a.drop i) + val (b.drop i)) = val (acc ++ [(c + rd a i + rd b i) % 4294967296]) + 4294967296 ^ (i + 1) * (((c + rd a i + rd b i) / 4294967296).toNat + val (a.drop (i + 1)) + val (b.drop (i + 1))) := by
        rw [val_snoc, hl, val_drop' a i, val_drop' b i, Nat.pow_succ, add_arith, show ((c + rd a i + rd b i) % 4294967296).toNat = (c.toNat + (rd a i).toNat + (rd b i).toNat) % 4294967296 by omega, show ((c + rd a i + rd b i) / 4294967296).toNat = (c.toNat + (rd a i).toNat + (rd b i).toNat) / 4294967296 by omega]
        exact (Nat.add_assoc _ _ _).symm
      rw [hv]
      exact ih'
theorem r1add {a b : List Int} (ha : Ok a) (hb : Ok b) (la : a.length ≤ 1099511627776) (lb : b.length ≤ 1099511627776) : Ev (fun k => erratumref01_Add.f k a b) (lim (val a + val b)) := by
  have h := r1add_loop ha hb la lb (max a.length b.length + 1) [] 0 0 Ok.nil rfl (by omega) (by omega) (by omega) (fun _ => rfl)
  simp only [val, Int.toNat_zero, Nat.zero_add, Nat.pow_zero, Nat.one_mul, List.drop_zero] at h
  exact Ev.congr (fun k => rfl) h
/-! a small divisor -/
theorem r1small_loop {a : List Int} (ha : Ok a) (la : a.length ≤ 1099511627776) {d : Int} (d0 : 0 < d) (d1 : d < 4294967296) (m : Nat) : ∀ (out : List Int) (r : Int), m ≤ a.length → Ok out → out.length = a.length → 0 ≤ r → r < d → val (out.take m) = 0 →
    Ev (fun k => erratumref01_Small.l0 k a d out r ((m : Int) - 1)) (lim (4294967296 ^ m * val (out.drop m) + (4294967296 ^ m * r.toNat + val (a.take m)) / d.toNat), (((4294967296 ^ m * r.toNat + val (a.take m)) % d.toNat : Nat) : Int)) := by
  induction m with
  | zero =>
    intro out r hm ho hl h0 h1 hz
    have hn := r1norm ho (by omega)
    refine Ev.step (f := fun k => (erratumref01_Norm.f k out).bind fun t => some (t, r)) (fun k => ?_) ?_
    · have e : r % 4294967296 = r := by omega
      have hc : ¬ (0 : Int) ≤ ((0 : Nat) : Int) - 1 := by omega
      simp only [erratumref01_Small.l0, ge_iff_le, hc, if_false, e]
    · have e1 : (r.toNat) / d.toNat = 0 := Nat.div_eq_of_lt (by omega)
      have e2 : (r.toNat) % d.toNat = r.toNat := Nat.mod_eq_of_lt (by omega)
      simp only [Nat.pow_zero, Nat.one_mul, List.drop_zero, List.take_zero, val, Nat.add_zero, e1, e2]
      rw [Int.toNat_of_nonneg h0]
      exact Ev.bind hn (Ev.now _)
  | succ m ih =>
    intro out r hm ho hl h0 h1 hz
    have hx := ha.rd m
    have hq0 : 0 ≤ (r * 4294967296 + rd a m) / d := Int.ediv_nonneg (by omega) (by omega)
    have hq1 : (r * 4294967296 + rd a m) / d < 4294967296 := Int.ediv_lt_of_lt_mul d0 (by
      have : (r + 1) * 4294967296 ≤ d * 4294967296 := Int.mul_le_mul_of_nonneg_right (by omega) (by omega)
      omega)
    have hr0 : 0 ≤ (r * 4294967296 + rd a m) % d := Int.emod_nonneg _ (by omega)
    have hr1 : (r * 4294967296 + rd a m) % d < d := Int.emod_lt_of_pos _ d0
    have ih' := ih (out.set m ((r * 4294967296 + rd a m) / d)) ((r * 4294967296 + rd a m) % d) (by omega) (ho.set m hq0 hq1) (by simp [hl]) hr0 hr1 (by
      have := val_take_succ (l := out) (m := m) (by omega)
      rw [List.take_set_of_le (Nat.le_refl m)]
      have hz' : val (out.take m) + 4294967296 ^ m * (rd out m).toNat = 0 := by rw [← this]; exact hz
      omega)
    refine Ev.step (f := fun k => erratumref01_Small.l0 k a d (out.set m ((r * 4294967296 + rd a m) / d)) ((r * 4294967296 + rd a m) % d) ((m : Int) - 1)) (fun k => ?_) ?_
    · have e0 : ((m + 1 : Nat) : Int) - 1 = m := by omega
      have c0 : (0 : Int) ≤ m := by omega
      have c1 : (m : Int) < (a.length : Int) := by omega
      have c2 : (m : Int) < (out.length : Int) := by omega
      have c3 : ¬ d = 0 := by omega
      have ed : IntKind.u64.wrap d = d := u64_ok (by omega) (by omega)
      have er : IntKind.u64.wrap (r * 4294967296) = r * 4294967296 := u64_ok (by omega) (by omega)
      have ex : IntKind.u64.wrap (rd a m) = rd a m := u64_ok hx.1 (by omega)
      have es : IntKind.u64.wrap (r * 4294967296 + rd a m) = r * 4294967296 + rd a m := u64_ok (by omega) (by omega)
      have et : Int.tdiv (r * 4294967296 + rd a m) d = (r * 4294967296 + rd a m) / d := Int.tdiv_eq_ediv_of_nonneg (by omega)
      have em : Int.tmod (r * 4294967296 + rd a m) d = (r * 4294967296 + rd a m) % d := Int.tmod_eq_emod_of_nonneg (by omega)
      have ew : IntKind.u64.wrap ((r * 4294967296 + rd a m) / d) = (r * 4294967296 + rd a m) / d := u64_ok hq0 (by omega)
      have e4 : (r * 4294967296 + rd a m) / d % 4294967296 = (r * 4294967296 + rd a m) / d := Int.emod_eq_of_lt hq0 hq1
      simp only [erratumref01_Small.l0, ge_iff_le, e0, c0, c1, c2, c3, if_true, if_false, ed, er, ex, es, et, em, ew, e4, wrap64_pred m (by omega), Int.toNat_natCast]
    · have hv : val ((out.set m ((r * 4294967296 + rd a m) / d)).drop m) = ((r * 4294967296 + rd a m) / d).toNat + 4294967296 * val (out.drop (m + 1)) := by
        rw [val_drop', rd_set_same (by omega), List.drop_set_of_lt (by omega)]
      obtain ⟨q, hq⟩ := Int.eq_ofNat_of_zero_le hq0
      obtain ⟨s, hs⟩ := Int.eq_ofNat_of_zero_le hr0
      obtain ⟨x, hxx⟩ := Int.eq_ofNat_of_zero_le hx.1
      obtain ⟨e, rfl⟩ := Int.eq_ofNat_of_zero_le (by omega : 0 ≤ d)
      obtain ⟨rr, rfl⟩ := Int.eq_ofNat_of_zero_le h0
      have hdm : rr * 4294967296 + x = e * q + s := by
        have := Int.emod_add_mul_ediv ((rr : Int) * 4294967296 + rd a m) (e : Int)
        rw [hq, hs, hxx] at this
        have h2 : (((s + e * q : Nat)) : Int) = (((rr * 4294967296 + x : Nat)) : Int) := by simp only [Int.natCast_add, Int.natCast_mul, Int.cast_ofNat_Int]; exact this
        omega
      have key := small_arith (4294967296 ^ m) e q s (val (a.take m)) (by omega)
      have hN : 4294967296 ^ (m + 1) * rr + val (a.take (m + 1)) = 4294967296 ^ m * (e * q + s) + val (a.take m) := by
        rw [val_take_succ (by omega), hxx, ← hdm, Nat.pow_succ]
        simp only [Int.toNat_natCast]
        grind
      rw [hv, hq, hs] at ih'
      simp only [Int.toNat_natCast] at ih' ⊢
      rw [hN, key.1, key.2]
      have hA : 4294967296 ^ (m + 1) * val (out.drop (m + 1)) + (4294967296 ^ m * q + (4294967296 ^ m * s + val (a.take m)) / e) = 4294967296 ^ m * (q + 4294967296 * val (out.drop (m + 1))) + (4294967296 ^ m * s + val (a.take m)) / e := by
        rw [Nat.pow_succ]
        grind
      rw [hA]
      rw [hq, hs]
      exact ih'
theorem r1small {a : List Int} (ha : Ok a) (la : a.length ≤ 1099511627776) {d : Int} (d0 : 0 < d) (d1 : d < 4294967296) : Ev (fun k => erratumref01_Small.f k a d) (lim (val a / d.toNat), ((val a % d.toNat : Nat) : Int)) := by
  have h := r1small_loop ha la d0 d1 a.length (List.replicate a.length 0) 0 (Nat.le_refl _) (Ok.rep _) (by simp) (by omega) d0 (by rw [List.take_of_length_le (by simp), val_rep])
  rw [List.drop_eq_nil_of_le (by simp), List.take_of_length_le (Nat.le_refl _)] at h
  simp only [Int.toNat_zero, Nat.mul_zero, Nat.zero_add, val] at h
  refine Ev.congr (fun k => ?_) h
  have c0 : (0 : Int) ≤ (a.length : Int) := by omega
  have c1 : a.length ≤ 70368744177664 := by omega
  simp only [erratumref01_Small.f, c0, if_true, Int.toNat_natCast, c1, wrap64_pred a.length la]
theorem r1trim_loop (L : Nat) (hL : L ≤ 1099511627776) : ∀ n : Nat, n < 4294967296 ^ L → ∀ c : Nat, c + (tz n).2 ≤ 4611686018427387904 → Ev (fun k => erratumref01_Trim.l0 k (lim n) (c : Int)) (lim (tz n).1, ((c + (tz n).2 : Nat) : Int)) := by
  intro n
  induction n using Nat.strongRecOn with
  | _ n ih =>
    intro hn c hc
    by_cases h0 : n = 0
    · subst h0
      refine Ev.step (f := fun _ => some ([], (c : Int))) (fun k => ?_) ?_
      · have c0 : ¬ ((([] : List Int).length : Int) > 0) := by simp
        simp only [erratumref01_Trim.l0, lim_zero, c0, if_false]
      · rw [tz_zero, lim_zero]
        exact Ev.now _
    · have hlen : (lim n).length ≤ L := lim_len_le hn
      have hpos : ((lim n).length : Int) > 0 := by
        have : (lim n).length ≠ 0 := fun h => h0 ((lim_len_zero n).1 h)
        omega
      have hs := r1small (lim_ok n) (Nat.le_trans hlen hL) (d := 10) (by decide) (by decide)
      rw [val_lim, show (10 : Int).toNat = 10 from rfl] at hs
      refine Ev.step (fun k => by simp only [erratumref01_Trim.l0, hpos, if_true]; rfl) ?_
      refine Ev.bind hs ?_
      by_cases h1 : n % 10 = 0
      · rw [tz_ten h0 h1] at hc ⊢
        simp only at hc
        have hw : wrap64 ((c : Int) + 1) = ((c + 1 : Nat) : Int) := by rw [wrap64_ok (by omega) (by omega)]; omega
        have h2 := ih (n / 10) (by omega) (Nat.lt_of_le_of_lt (Nat.div_le_self _ _) hn) (c + 1) (by omega)
        refine Ev.congr (fun k => ?_) (show Ev (fun k => erratumref01_Trim.l0 k (lim (n / 10)) ((c + 1 : Nat) : Int)) _ from ?_)
        · simp only [h1, Int.natCast_zero, if_true, hw]
          first | done | rfl
        · rw [show c + ((tz (n / 10)).2 + 1) = c + 1 + (tz (n / 10)).2 by omega]
          exact h2
      · have h1' : ¬ (((n % 10 : Nat) : Int) = 0) := by omega
        rw [tz_self h1]
        refine Ev.congr (fun k => ?_) (Ev.now _)
        simp only [h1', if_false]
        first | done | rfl
theorem r1trim {a : List Int} (ha : Ok a) (la : a.length ≤ 1099511627776) : Ev (fun k => erratumref01_Trim.f k a) (lim (tz (val a)).1, (((tz (val a)).2 : Nat) : Int)) := by
  have h := r1trim_loop a.length la (val a) (val_lt ha) 0 (by have := tz_limbs (val_lt ha); omega)
  rw [Nat.zero_add] at h
  exact Ev.congr (fun k => rfl) (Ev.bind (r1norm ha (by omega)) h)
end Go.Proofs.YtmkdcokdilllcaaDoor.X
/- The document's naturals: products; digits read. -/
namespace Go.Proofs.YtmkdcokdilllcaaDoor.X
open Go.RowKit Go.Proofs.YtmkdcokdilllcaaDoorW.PrintWords Go.Proofs.YtmkdcokdilllcaaDoorW.PrintMore
set_option linter.unusedVariables false
set_option linter.unusedSimpArgs false
theorem r1wraps {o x y r : Int} (ho0 : 0 ≤ o) (ho : o < 4294967296) (hx0 : 0 ≤ x) (hx : x < 4294967296) (hy0 : 0 ≤ y) (hy : y < 4294967296) (hr0 : 0 ≤ r) (hr : r < 4294967296) :
    IntKind.u64.wrap (IntKind.u64.wrap (o + IntKind.u64.wrap r) + IntKind.u64.wrap (x * y)) = o + (x * y + r) := by
  obtain ⟨b0, b1, b2, b3, b4, b5⟩ := step_bound ho0 ho hx0 hx hy0 hy hr0 hr
  rw [u64_ok hr0 (by omega), u64_ok (n := o + r) (by omega) (by omega), u64_ok (n := x * y) (by omega) (by omega), u64_ok (by omega) (by omega)]
  omega
theorem r1mul_inner {a b : List Int} (ha : Ok a) (hb : Ok b) (la : a.length ≤ 1099511627776) (lb : b.length ≤ 1099511627776) {i : Nat} (hi : i < a.length) (V : Nat) (R : List Int)
    (cont : ∀ out : List Int, Ok out → out.length = a.length + b.length + 1 → val out = V + 4294967296 ^ i * (rd a i).toNat * val b → (∀ j : Nat, i + 1 + b.length ≤ j → rd out j = 0) → Ev (fun k => erratumref01_Mul.l0 k a b out ((i : Int) + 1)) R) (d : Nat) :
    ∀ (out : List Int) (o : Int) (j : Nat), j + d = b.length → Ok out → out.length = a.length + b.length + 1 → 0 ≤ o → o < 4294967296 → val out + 4294967296 ^ (i + j) * o.toNat = V + 4294967296 ^ i * (rd a i).toNat * val (b.take j) → (∀ j : Nat, i + b.length ≤ j → rd out j = 0) →
      Ev (fun k => erratumref01_Mul.l1 k a b out (i : Int) o (j : Int)) R := by
  have hx := ha.rd i
  induction d with
  | zero =>
    intro out o j hj ho hl o0 o1 hv hz
    obtain rfl : j = b.length := by omega
    have hlt : i + b.length < out.length := by omega
    have hz0 := hz (i + b.length) (Nat.le_refl _)
    have hy0 : rd b (b.length : Int) = 0 := rd_ge (Int.le_refl _)
    have HV := Aside0.mk hv
    have HV2 := Aside0.mk (show val (out.set (i + b.length) o) + 4294967296 ^ (i + b.length) * (0 : Int).toNat = _ from hz0 ▸ val_set (l := out) (m := i + b.length) (x := o) hlt)
    have hw : IntKind.u64.wrap (IntKind.u64.wrap (o + IntKind.u64.wrap 0) + IntKind.u64.wrap 0) = o := by
      rw [u64_ok (n := 0) (Int.le_refl 0) (by decide), Int.add_zero, Int.add_zero, u64_ok o0 (by omega), u64_ok o0 (by omega)]
    have HW := Aside0.mk hw
    clear hv hw
    have c0 : ((b.length : Nat) : Int) ≤ (b.length : Int) := Int.le_refl _
    have e0 : wrap64 ((i : Int) + (b.length : Int)) = ((i + b.length : Nat) : Int) := by rw [wrap64_ok (by omega) (by omega)]; omega
    have c1 : (0 : Int) ≤ ((i + b.length : Nat) : Int) := by omega
    have c2 : ((i + b.length : Nat) : Int) < (out.length : Int) := by omega
    have e1 : wrap64 ((b.length : Int) + 1) = ((b.length + 1 : Nat) : Int) := by rw [wrap64_ok (by omega) (by omega)]; omega
    have e3 : wrap64 ((i : Int) + 1) = (i : Int) + 1 := wrap64_ok (by omega) (by omega)
    have ci : (0 : Int) ≤ (i : Int) := Int.natCast_nonneg _
    have cb : (0 : Int) ≤ (b.length : Int) := Int.natCast_nonneg _
    have c9 : ¬ ((b.length + 1 : Nat) : Int) ≤ (b.length : Int) := by omega
    have e2 : o % 4294967296 = o := Int.emod_eq_of_lt o0 o1
    have e4 : o / 4294967296 = 0 := Int.ediv_eq_zero_of_lt o0 o1
    refine Ev.step (f := fun k => erratumref01_Mul.l1 k a b (out.set (i + b.length) o) (i : Int) 0 ((b.length + 1 : Nat) : Int)) (fun k => ?_) ?_
    · simp only [erratumref01_Mul.l1, c0, if_true, e0, c1, c2, e1, r1limb ha ci, r1limb hb cb, hy0, hz0, Option.bind_some, Int.toNat_natCast, Int.mul_zero, HW.out, e2, e4]
    · refine Ev.step (f := fun k => erratumref01_Mul.l0 k a b (out.set (i + b.length) o) ((i : Int) + 1)) (fun k => ?_) ?_
      · simp only [erratumref01_Mul.l1, c9, if_false, e3]
      · clear c0 e0 c1 c2 e1 e3 e2 e4 ci cb c9 hy0 HW hz0
        refine cont _ (ho.set _ o0 o1) (by rw [List.length_set]; exact hl) ?_ ?_
        · have hv := HV.out
          have hv2 := HV2.out
          rw [List.take_of_length_le (Nat.le_refl _)] at hv
          simp only [Int.toNat_zero, Nat.mul_zero, Nat.add_zero] at hv2
          rw [hv2, hv]
        · intro j hj
          rw [rd_set_ne (by omega)]
          exact hz j (by omega)
  | succ d ih =>
    intro out o j hj ho hl o0 o1 hv hz
    have hlt : i + j < out.length := by omega
    have hy := hb.rd j
    have hr := ho.rd ((i + j : Nat) : Int)
    obtain ⟨b0, b1, b2, b3, b4, b5⟩ := step_bound o0 o1 hx.1 hx.2 hy.1 hy.2 hr.1 hr.2
    have hst := step_toNat o0 hx.1 hy.1 hr.1
    have HW := Aside0.mk (r1wraps o0 o1 hx.1 hx.2 hy.1 hy.2 hr.1 hr.2)
    generalize hs : o + (rd a i * rd b j + rd out ((i + j : Nat) : Int)) = s at *
    have hv2 := val_set (l := out) (m := i + j) (x := s % 4294967296) hlt
    have ih' := ih (out.set (i + j) (s % 4294967296)) (s / 4294967296) (j + 1) (by omega) (ho.set _ (by omega) (by omega)) (by simp [hl]) b4 b5 (by
      rw [val_take_succ (by omega), Nat.mul_add, ← Nat.add_assoc, Nat.pow_succ]
      have h4 := inner_arith _ _ _ _ _ _ _ _ _ 0 _ hv2 hst hv
      rw [show 4294967296 ^ i * (rd a i).toNat * (4294967296 ^ j * (rd b j).toNat) = 4294967296 ^ (i + j) * (rd a i).toNat * (rd b j).toNat by rw [Nat.pow_add, Nat.mul_mul_mul_comm, ← Nat.mul_assoc]]
      exact h4.trans (Nat.add_assoc _ _ _)) (by
      intro j' hj'
      rw [rd_set_ne (by omega)]
      exact hz j' hj')
    refine Ev.step (f := fun k => erratumref01_Mul.l1 k a b (out.set (i + j) (s % 4294967296)) (i : Int) (s / 4294967296) ((j + 1 : Nat) : Int)) (fun k => ?_) ih'
    clear ih' hv hv2 hst ih cont hz
    clear b0 b1 b2 b3 b4 b5
    have c0 : (j : Int) ≤ (b.length : Int) := by omega
    have c1 : (0 : Int) ≤ (j : Int) := Int.natCast_nonneg _
    have ci : (0 : Int) ≤ (i : Int) := Int.natCast_nonneg _
    have e0 : wrap64 ((i : Int) + (j : Int)) = ((i + j : Nat) : Int) := wrap64_add (by omega) (by omega)
    have c2 : (0 : Int) ≤ ((i + j : Nat) : Int) := Int.natCast_nonneg _
    have c3 : ((i + j : Nat) : Int) < (out.length : Int) := Int.ofNat_lt.2 hlt
    have e1 : wrap64 ((j : Int) + 1) = ((j + 1 : Nat) : Int) := wrap64_add (j := 1) (by omega) (by omega)
    simp only [erratumref01_Mul.l1, c0, if_true, e0, c2, c3, e1, r1limb ha ci, r1limb hb c1, Option.bind_some, HW.out, Int.toNat_natCast]
theorem r1mul_loop {a b : List Int} (ha : Ok a) (hb : Ok b) (la : a.length ≤ 1099511627776) (lb : b.length ≤ 1099511627776) (d : Nat) : ∀ (out : List Int) (i : Nat), i + d = a.length → Ok out → out.length = a.length + b.length + 1 → val out = val (a.take i) * val b → (∀ j : Nat, i + b.length ≤ j → rd out j = 0) →
    Ev (fun k => erratumref01_Mul.l0 k a b out (i : Int)) (lim (val a * val b)) := by
  induction d with
  | zero =>
    intro out i hi ho hl hv hz
    obtain rfl : i = a.length := by omega
    rw [List.take_of_length_le (Nat.le_refl _)] at hv
    have hn := r1norm ho (by omega)
    rw [hv] at hn
    have c0 : ¬ (a.length : Int) < (a.length : Int) := by omega
    exact Ev.step (f := fun k => (erratumref01_Norm.f k out).bind fun t => some t) (fun k => by simp only [erratumref01_Mul.l0, c0, if_false]) (Ev.bind hn (Ev.now _))
  | succ d ih =>
    intro out i hi ho hl hv hz
    have c0 : (i : Int) < (a.length : Int) := by omega
    refine Ev.step (f := fun k => erratumref01_Mul.l1 k a b out (i : Int) 0 ((0 : Nat) : Int)) (fun k => ?_) ?_
    · simp only [erratumref01_Mul.l0, c0, if_true]
      rfl
    · refine r1mul_inner ha hb la lb (by omega) (val (a.take i) * val b) _ ?_ b.length out 0 0 (by omega) ho hl (by omega) (by omega) (by simp [hv, val]) hz
      intro out' ho' hl' hv' hz'
      have := ih out' (i + 1) (by omega) ho' hl' (by rw [hv', val_take_succ (by omega)]; grind) hz'
      simpa using this
theorem r1mul {a b : List Int} (ha : Ok a) (hb : Ok b) (la : a.length ≤ 1099511627776) (lb : b.length ≤ 1099511627776) : Ev (fun k => erratumref01_Mul.f k a b) (lim (val a * val b)) := by
  have h := r1mul_loop ha hb la lb a.length (List.replicate (a.length + b.length + 1) 0) 0 (by omega) (Ok.rep _) (by simp) (by simp [val_rep, val]) (fun j _ => rd_rep _ _)
  refine Ev.congr (fun k => ?_) h
  have e0 : wrap64 (wrap64 ((a.length : Int) + (b.length : Int)) + 1) = ((a.length + b.length + 1 : Nat) : Int) := by rw [wrap64_ok (n := (a.length : Int) + (b.length : Int)) (by omega) (by omega), wrap64_ok (by omega) (by omega)]; omega
  have c0 : (0 : Int) ≤ ((a.length + b.length + 1 : Nat) : Int) := by omega
  have c1 : a.length + b.length + 1 ≤ 70368744177664 := by omega
  simp only [erratumref01_Mul.f, e0, c0, if_true, Int.toNat_natCast, c1]
  rfl
theorem r1parse_loop (s : ByteArray) (hs : s.size ≤ 2000) (n : Nat) (d : Nat) : ∀ (i v : Nat), i + d = s.size → Lib.decFrom v (s.data.toList.drop i) = some n → v < 10 ^ i →
    Ev (fun k => erratumref01_Parse.l0 k s (lim v) (i : Int)) (lim n, true) := by
  induction d with
  | zero =>
    intro i v hi hd hv
    rw [List.drop_eq_nil_of_le (by rw [dlen]; omega)] at hd
    obtain rfl := Option.some.inj hd
    have c0 : ¬ ((i : Int) < (s.size : Int)) := by omega
    exact Ev.step (f := fun _ => some (lim v, true)) (fun k => by simp only [erratumref01_Parse.l0, c0, if_false]) (Ev.now _)
  | succ d ih =>
    intro i v hi hd hv
    rcases hdr : s.data.toList.drop i with _ | ⟨c, r⟩
    · have := congrArg List.length hdr
      rw [List.length_drop, dlen, List.length_nil] at this
      omega
    · obtain ⟨hlt, hb⟩ := bt_drop hdr
      rw [hdr] at hd
      unfold Lib.decFrom Lib.digitVal at hd
      by_cases hc : 48 ≤ c.toNat ∧ c.toNat ≤ 57
      · rw [if_pos hc] at hd
        have c0 : ((i : Int) < (s.size : Int)) := by omega
        have c1 : (0 : Int) ≤ (i : Int) := by omega
        have c2 : ¬ (bt s i < 48) := by rw [hb]; omega
        have c3 : decide (bt s i > 57) = false := decide_eq_false (by rw [hb]; omega)
        have hx : ((bt s i - 48) % 256) = ((c.toNat - 48 : Nat) : Int) := by rw [hb]; omega
        have hv2 : v < 4294967296 ^ i := Nat.lt_of_lt_of_le hv (Nat.pow_le_pow_left (by decide) _)
        have hl : (lim v).length ≤ i := lim_len_le hv2
        have hm := r1mul (lim_ok v) (ok_one (x := 10) (by decide) (by decide)) (by omega) (by simp)
        rw [val_lim, val_one, show (10 : Int).toNat = 10 from rfl] at hm
        have hp : v * 10 + (c.toNat - 48) < 10 ^ (i + 1) := by rw [Nat.pow_succ]; omega
        have hl2 : (lim (v * 10)).length ≤ i + 1 := lim_len_le (Nat.lt_of_lt_of_le (show v * 10 < 10 ^ (i + 1) by rw [Nat.pow_succ]; omega) (Nat.pow_le_pow_left (by decide) _))
        have hA := r1add (lim_ok (v * 10)) (ok_one (x := ((c.toNat - 48 : Nat) : Int)) (by omega) (by omega)) (by omega) (by simp)
        rw [val_lim, val_one, Int.toNat_natCast] at hA
        have hI := ih (i + 1) (v * 10 + (c.toNat - 48)) (by omega) (by rw [drop_tail hdr]; exact hd) hp
        have hw : wrap64 ((i : Int) + 1) = ((i + 1 : Nat) : Int) := by rw [wrap64_ok (by omega) (by omega)]; omega
        refine Ev.step (f := fun k => erratumref01_Parse.j2 k s (lim v) (i : Int) false) (fun k => by simp only [erratumref01_Parse.l0, c0, c1, c2, c3, if_true, if_false]) ?_
        refine Ev.step (fun k => by simp only [erratumref01_Parse.j2, c0, c1, if_true, Bool.false_eq_true, if_false, hx, hw]; rfl) ?_
        exact Ev.bind hm (Ev.bind hA hI)
      · rw [if_neg hc] at hd
        cases hd
theorem r1parse (s : ByteArray) (hs : s.size ≤ 2000) (h0 : s.size ≠ 0) (n : Nat) (h : Lib.decFrom 0 s.data.toList = some n) : Ev (fun k => erratumref01_Parse.f k s) (lim n, true) := by
  have h1 := r1parse_loop s hs n s.size 0 0 (by omega) h (by decide)
  rw [lim_zero] at h1
  have e0 : ¬ ((s.size : Int) < 1) := by omega
  have e1 : decide ((s.size : Int) > 2000) = false := decide_eq_false (by omega)
  refine Ev.congr (fun k => by unfold erratumref01_Parse.f; rw [if_neg e0, e1]) ?_
  refine Ev.step (fun k => by simp only [erratumref01_Parse.j0, Bool.false_eq_true, if_false]; rfl) ?_
  exact h1
end Go.Proofs.YtmkdcokdilllcaaDoor.X
