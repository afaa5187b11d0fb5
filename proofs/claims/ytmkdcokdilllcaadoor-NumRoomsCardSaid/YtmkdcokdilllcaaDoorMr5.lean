import Derived.Test.YtmkdcokdilllcaaDoorMr2
import Derived.Test.YtmkdcokdilllcaaDoorMr4
import Derived.Shelf.Strings.Builder1
import Derived.Test.YtmkdcokdilllcaaDoorProg
import Derived.Test.YtmkdcokdilllcaaDoorMr3
import Derived.Lib.ItoaNum
import Derived.Lib.AppendIntMem
import Derived.Lib.ItoaMem
-- A walk, written by a program of this session (xp.py).
namespace Go.Proofs.YtmkdcokdilllcaaDoor.X
open Go.RowKit Go.Proofs.YtmkdcokdilllcaaDoorW.PrintWords Go.Proofs.YtmkdcokdilllcaaDoorW.PrintLast Go.Proofs.YtmkdcokdilllcaaDoorW.PrintMore
attribute [local go_sem] max2_int min2_int max_two min_two max_three min_three max_four min_four
set_option linter.unusedVariables false
set_option linter.unusedSimpArgs false

/-! ### num_of: function 33 -/
def num_of.f (k : Nat) (a0_0 : Bool) (l0_1 : List Int) (a0_2 : Int) : Option (Bool × List Int × Int) := (num_Check.f k a0_0 l0_1 a0_2).bind fun t197 => (if t197 = true then (some (a0_0, l0_1, a0_2)) else (some (false, ([] : List Int), 0)))
set_option maxHeartbeats 8000000 in
set_option maxRecDepth 100000 in
theorem num_of.calls (k : Nat) (a0_0 : Bool) (P0_1_ : Nat → Prop) (A0_1 : Option Addr) (c0_1 : Nat) (l0_1 : List Int) (a0_2 : Int) (r1 : Bool) (r2 : List Int) (r3 : Int) (w : World) (hs0_1 : Kd.V (Kd.int .u32) 40 w w.heap.size (fun k_ => P0_1_ k_) (.slice A0_1 l0_1.length c0_1) l0_1) (h : num_of.f k a0_0 l0_1 a0_2 = some (r1, r2, r3)) :
    Calls Tryd.prog 33 #[.agg #[.bool a0_0, .slice A0_1 l0_1.length c0_1, .int .i64 a0_2]] w fun e w' => ∃ v1_ : Value, e = .returned (.agg #[.bool r1, v1_, .int .i64 r3]) ∧ Kd.V (Kd.int .u32) 40 w' w.heap.size (fun k_ => (P0_1_ k_ ∨ w.heap.size ≤ k_)) v1_ r2 ∧ Below w.heap.size w w' := by
  have hu25 := Tryd.underlying25
  have HO0_1 := Aside0.mk (show Kd.V (Kd.int .u32) 40 w w.heap.size (fun k_ => (P0_1_ k_ ∨ w.heap.size ≤ k_)) (.slice A0_1 l0_1.length c0_1) l0_1 from Kd.V_mono hs0_1 (fun k_ hk => .inl hk))
  have HB := Aside0.mk (Below.refl w.heap.size w)
  have H : ((num_Check.f k a0_0 l0_1 a0_2).bind fun t197 => (if t197 = true then (some (a0_0, l0_1, a0_2)) else (some (false, ([] : List Int), 0)))) = some (r1, r2, r3) := h
  clear h
  replace H := Option.bind_eq_some_iff.mp H
  obtain ⟨t197, A20, H⟩ := H
  replace H : (if t197 = true then (some (a0_0, l0_1, a0_2)) else (some (false, ([] : List Int), 0))) = some (r1, r2, r3) := H
  have A2 := Aside0.mk A20
  clear A20
  by_cases c3 : t197 = true
  · subst c3
    have H1 : (some (a0_0, l0_1, a0_2)) = some (r1, r2, r3) := by rw [if_pos rfl] at H; exact H
    clear H
    have H := H1
    clear H1
    simp only [Option.some.injEq, Prod.mk.injEq] at H
    obtain ⟨rfl, rfl, rfl⟩ := H
    go_enter Tryd.func33, Tryd.ntmps33
    go_wp2_with (first | ((with_reducible refine gate_dst (N := 1) rfl ?_); refine box_event ?hg (N := 1) ?hd (cs := #[.bool a0_0, .slice A0_1 l0_1.length c0_1, .int .i64 a0_2]) (t := 25) ?hr ?_; (case hd => rfl); (case hg => rfl); (case hr => first | (go_simp; done) | (go_simp; rfl) | (go_simp; simp only [x_u32u8, x_u8, x_u32, x_u64, x_mm]; first | done | rfl)); intro gb195 hg w4 hbox hb; have n0_ := Aside0.mk (Kd.V_below (Kd.V_elderB (by (with_reducible repeat (first | apply Kd.V_alloc | apply Kd.V_drewN | apply Kd.V_drew)); exact HO0_1.out) gb195 (Nat.le_of_eq hg.symm)) hb); have n1_ := Aside0.mk (below_step (by repeat (first | (with_reducible first | exact HB.out | apply below_alloc | apply pw_below_drewN | apply below_drew1) | exact HB.out)) hb); have n2_ := Aside0.mk (hbox); have n3_ := Aside0.mk ((by rw [hg]; exact (below_size (by repeat (first | (with_reducible first | exact HB.out | apply below_alloc | apply pw_below_drewN | apply below_drew1) | exact HB.out))) : w.heap.size ≤ gb195)); have n4_ := Aside0.mk ((by rw [hg]; exact (below_size (by repeat (first | (with_reducible first | exact HB.out | apply below_alloc | apply pw_below_drewN | apply below_drew1) | exact HB.out))) : w.heap.size ≤ gb195)); clear HO0_1; clear HB; have HO0_1 := n0_; have HB := n1_; have BK195 := n2_; have GW195 := n3_; have GE195 := n4_; clear n0_ n1_ n2_ n3_ n4_; clear hb hbox hg) | ((with_reducible refine gate_dst (N := 2) rfl ?_); refine box_event ?hg (N := 2) ?hd (cs := #[.bool false, .slice none 0 0, .int .i64 0]) (t := 25) ?hr ?_; (case hd => rfl); (case hg => rfl); (case hr => first | (go_simp; done) | (go_simp; rfl) | (go_simp; simp only [x_u32u8, x_u8, x_u32, x_u64, x_mm]; first | done | rfl)); intro gb196 hg w5 hbox hb; have n0_ := Aside0.mk (Kd.V_below (Kd.V_elderB (by (with_reducible repeat (first | apply Kd.V_alloc | apply Kd.V_drewN | apply Kd.V_drew)); exact HO0_1.out) gb196 (Nat.le_of_eq hg.symm)) hb); have n1_ := Aside0.mk (blk_below (g := gb195) (o := .cells #[.bool a0_0, .slice A0_1 l0_1.length c0_1, .int .i64 a0_2] 25 (0, 0)) (by (with_reducible repeat (first | refine blk_drewN ?_ _ | refine blk_drew ?_ | refine blk_alloc ?_ _)); exact BK195.out) hb); have n2_ := Aside0.mk (below_step (by repeat (first | (with_reducible first | exact HB.out | apply below_alloc | apply pw_below_drewN | apply below_drew1 | refine below_set ?_ GE195.out) | exact HB.out)) hb); have n3_ := Aside0.mk (hbox); have n4_ := Aside0.mk ((by rw [hg]; exact (below_size (by repeat (first | (with_reducible first | exact HB.out | apply below_alloc | apply pw_below_drewN | apply below_drew1 | refine below_set ?_ GE195.out) | exact HB.out))) : w.heap.size ≤ gb196)); have n5_ := Aside0.mk ((by rw [hg]; exact (below_size (by repeat (first | (with_reducible first | exact HB.out | apply below_alloc | apply pw_below_drewN | apply below_drew1 | refine below_set ?_ GE195.out) | exact HB.out))) : w.heap.size ≤ gb196)); have n6_ := Aside0.mk ((by rw [hg]; exact Nat.ne_of_lt (blk_lt (g := gb195) (o := .cells #[.bool a0_0, .slice A0_1 l0_1.length c0_1, .int .i64 a0_2] 25 (0, 0)) (by (with_reducible repeat (first | refine blk_drewN ?_ _ | refine blk_drew ?_ | refine blk_alloc ?_ _)); exact BK195.out)) : gb195 ≠ gb196)); have n7_ := Aside0.mk ((by rw [hg]; exact Nat.ne_of_gt (blk_lt (g := gb195) (o := .cells #[.bool a0_0, .slice A0_1 l0_1.length c0_1, .int .i64 a0_2] 25 (0, 0)) (by (with_reducible repeat (first | refine blk_drewN ?_ _ | refine blk_drew ?_ | refine blk_alloc ?_ _)); exact BK195.out)) : gb196 ≠ gb195)); clear HO0_1; clear BK195; clear HB; have HO0_1 := n0_; have BK195 := n1_; have HB := n2_; have BK196 := n3_; have GW196 := n4_; have GE196 := n5_; have NB195_196 := n6_; have NB196_195 := n7_; clear n0_ n1_ n2_ n3_ n4_ n5_ n6_ n7_; clear hb hbox hg; have hnb6 := NB195_196.out; have hnc6 := NB196_195.out; have hcz7_0 : w5.cell? ⟨gb195, 0, none⟩ = some (.bool a0_0) := (blk_cell BK195.out 0).trans rfl; have hcz7_1 : w5.cell? ⟨gb195, 1, none⟩ = some (.slice A0_1 l0_1.length c0_1) := (blk_cell BK195.out 1).trans rfl; have hcz7_2 : w5.cell? ⟨gb195, 2, none⟩ = some (.int .i64 a0_2) := (blk_cell BK195.out 2).trans rfl; have hfz7_0 := blk_frozen BK195.out 0; have hfz7_1 := blk_frozen BK195.out 1; have hfz7_2 := blk_frozen BK195.out 2) | ((with_reducible refine gate_callee (f := 19) rfl ?_); refine goesL_ (some 4) rfl rfl Tryd.func19 (by kernel_rfl) rfl #[.agg #[.bool a0_0, .slice A0_1 l0_1.length c0_1, .int .i64 a0_2]] rfl (by (try simp only [List.map_toArray, List.map_cons, List.map_nil]); first | done | rfl | (simp only [List.length_drop, List.length_take]; rfl)) ?_; (with_reducible refine (num_Check.calls k a0_0 _ _ l0_1 a0_2 true _ ?side1 ?side2 A2.out).mono ?_); (case side1 => repeat (first | exact (Kd.V_reads' HO0_1.out).2.2 | (with_reducible refine Kd.C_alloc ?_ _) | (with_reducible refine Kd.C_drewN ?_ _) | (with_reducible refine Kd.C_drew ?_))); (case side2 => exact (Kd.V_reads' HO0_1.out).2.1); rintro e w8 ⟨rfl, hb⟩; refine ⟨_, rfl, ?_⟩; have n0_ := Aside0.mk (Kd.V_below (by (with_reducible repeat (first | apply Kd.V_alloc | apply Kd.V_drewN | apply Kd.V_drew)); exact HO0_1.out) hb); have n1_ := Aside0.mk (blk_below (g := gb195) (o := .cells #[.bool a0_0, .slice A0_1 l0_1.length c0_1, .int .i64 a0_2] 25 (0, 0)) (by (with_reducible repeat (first | refine blk_drewN ?_ _ | refine blk_drew ?_ | refine blk_alloc ?_ _)); exact BK195.out) hb); have n2_ := Aside0.mk (blk_below (g := gb196) (o := .cells #[.bool false, .slice none 0 0, .int .i64 0] 25 (0, 0)) (by (with_reducible repeat (first | refine blk_drewN ?_ _ | refine blk_drew ?_ | refine blk_alloc ?_ _)); exact BK196.out) hb); have n3_ := Aside0.mk (below_step (by repeat (first | (with_reducible first | exact HB.out | apply below_alloc | apply pw_below_drewN | apply below_drew1 | refine below_set ?_ GE195.out | refine below_set ?_ GE196.out) | exact HB.out)) hb); clear HO0_1; clear BK195; clear BK196; clear HB; have HO0_1 := n0_; have BK195 := n1_; have BK196 := n2_; have HB := n3_; clear n0_ n1_ n2_ n3_; (try clear hb); (try clear hb2); (try clear hk); (try clear hi); have hcz9_0 : w8.cell? ⟨gb195, 0, none⟩ = some (.bool a0_0) := (blk_cell BK195.out 0).trans rfl; have hcz9_1 : w8.cell? ⟨gb195, 1, none⟩ = some (.slice A0_1 l0_1.length c0_1) := (blk_cell BK195.out 1).trans rfl; have hcz9_2 : w8.cell? ⟨gb195, 2, none⟩ = some (.int .i64 a0_2) := (blk_cell BK195.out 2).trans rfl; have hfz9_0 := blk_frozen BK195.out 0; have hfz9_1 := blk_frozen BK195.out 1; have hfz9_2 := blk_frozen BK195.out 2; have hcz10_0 : w8.cell? ⟨gb196, 0, none⟩ = some (.bool false) := (blk_cell BK196.out 0).trans rfl; have hcz10_1 : w8.cell? ⟨gb196, 1, none⟩ = some (.slice none 0 0) := (blk_cell BK196.out 1).trans rfl; have hcz10_2 : w8.cell? ⟨gb196, 2, none⟩ = some (.int .i64 0) := (blk_cell BK196.out 2).trans rfl; have hfz10_0 := blk_frozen BK196.out 0; have hfz10_1 := blk_frozen BK196.out 1; have hfz10_2 := blk_frozen BK196.out 2))
    refine bodyPost_ret (results_cell_row rfl _ _ gb196 25 #[.bool a0_0, .slice A0_1 l0_1.length c0_1, .int .i64 a0_2] (0, 0) _ rfl (by (with_reducible repeat (first | refine blk_drewN ?_ _ | refine blk_drew ?_ | refine blk_alloc ?_ _)); refine blk_put (cs := #[.bool a0_0, .slice A0_1 l0_1.length c0_1, .int .i64 0]) ?_ 2 _ rfl; (with_reducible repeat (first | refine blk_drewN ?_ _ | refine blk_drew ?_ | refine blk_alloc ?_ _)); refine blk_put (cs := #[.bool a0_0, .slice none 0 0, .int .i64 0]) ?_ 1 _ rfl; (with_reducible repeat (first | refine blk_drewN ?_ _ | refine blk_drew ?_ | refine blk_alloc ?_ _)); refine blk_put (cs := #[.bool false, .slice none 0 0, .int .i64 0]) ?_ 0 _ rfl; (with_reducible repeat (first | refine blk_drewN ?_ _ | refine blk_drew ?_ | refine blk_alloc ?_ _)); exact BK196.out) Tryd.underlying25 rfl (by kernel_rfl)) rfl ?_
    exact ⟨_, by first | rfl | (simp [errW_none, errW_some] <;> rfl) | (simp [*, errW_none, errW_some] <;> rfl), by (with_reducible repeat (first | apply Kd.V_alloc | apply Kd.V_drewN | apply Kd.V_drew)); exact Kd.V_mono (Kd.V_far (p := ⟨gb196, 2, none⟩) (Kd.V_far (p := ⟨gb196, 1, none⟩) (Kd.V_far (p := ⟨gb196, 0, none⟩) (Kd.V_mono HO0_1.out (fun k_ hk => (⟨hk, hk.2⟩ : _ ∧ k_ ≠ gb196))) (fun _ hk => hk.2) (.bool a0_0)) (fun _ hk => hk.2) (.slice A0_1 l0_1.length c0_1)) (fun _ hk => hk.2) (.int .i64 a0_2)) (fun _ hk => hk.1.1.1), by repeat (first | (with_reducible first | exact HB.out | apply below_alloc | apply pw_below_drewN | apply below_drew1 | refine below_set ?_ GE195.out | refine below_set ?_ GE196.out) | exact HB.out)⟩
  · replace c3 := Bool.eq_false_iff.mpr c3
    subst c3
    have H1 : (some (false, ([] : List Int), 0)) = some (r1, r2, r3) := by rw [if_neg (show ¬ (false = true) by decide)] at H; exact H
    clear H
    have H := H1
    clear H1
    simp only [Option.some.injEq, Prod.mk.injEq] at H
    obtain ⟨rfl, rfl, rfl⟩ := H
    go_enter Tryd.func33, Tryd.ntmps33
    go_wp2_with (first | ((with_reducible refine gate_dst (N := 1) rfl ?_); refine box_event ?hg (N := 1) ?hd (cs := #[.bool a0_0, .slice A0_1 l0_1.length c0_1, .int .i64 a0_2]) (t := 25) ?hr ?_; (case hd => rfl); (case hg => rfl); (case hr => first | (go_simp; done) | (go_simp; rfl) | (go_simp; simp only [x_u32u8, x_u8, x_u32, x_u64, x_mm]; first | done | rfl)); intro gb195 hg w11 hbox hb; have n0_ := Aside0.mk (Kd.V_below (Kd.V_elderB (by (with_reducible repeat (first | apply Kd.V_alloc | apply Kd.V_drewN | apply Kd.V_drew)); exact HO0_1.out) gb195 (Nat.le_of_eq hg.symm)) hb); have n1_ := Aside0.mk (below_step (by repeat (first | (with_reducible first | exact HB.out | apply below_alloc | apply pw_below_drewN | apply below_drew1) | exact HB.out)) hb); have n2_ := Aside0.mk (hbox); have n3_ := Aside0.mk ((by rw [hg]; exact (below_size (by repeat (first | (with_reducible first | exact HB.out | apply below_alloc | apply pw_below_drewN | apply below_drew1) | exact HB.out))) : w.heap.size ≤ gb195)); have n4_ := Aside0.mk ((by rw [hg]; exact (below_size (by repeat (first | (with_reducible first | exact HB.out | apply below_alloc | apply pw_below_drewN | apply below_drew1) | exact HB.out))) : w.heap.size ≤ gb195)); clear HO0_1; clear HB; have HO0_1 := n0_; have HB := n1_; have BK195 := n2_; have GW195 := n3_; have GE195 := n4_; clear n0_ n1_ n2_ n3_ n4_; clear hb hbox hg) | ((with_reducible refine gate_dst (N := 2) rfl ?_); refine box_event ?hg (N := 2) ?hd (cs := #[.bool false, .slice none 0 0, .int .i64 0]) (t := 25) ?hr ?_; (case hd => rfl); (case hg => rfl); (case hr => first | (go_simp; done) | (go_simp; rfl) | (go_simp; simp only [x_u32u8, x_u8, x_u32, x_u64, x_mm]; first | done | rfl)); intro gb196 hg w12 hbox hb; have n0_ := Aside0.mk (Kd.V_below (Kd.V_elderB (by (with_reducible repeat (first | apply Kd.V_alloc | apply Kd.V_drewN | apply Kd.V_drew)); exact HO0_1.out) gb196 (Nat.le_of_eq hg.symm)) hb); have n1_ := Aside0.mk (blk_below (g := gb195) (o := .cells #[.bool a0_0, .slice A0_1 l0_1.length c0_1, .int .i64 a0_2] 25 (0, 0)) (by (with_reducible repeat (first | refine blk_drewN ?_ _ | refine blk_drew ?_ | refine blk_alloc ?_ _)); exact BK195.out) hb); have n2_ := Aside0.mk (below_step (by repeat (first | (with_reducible first | exact HB.out | apply below_alloc | apply pw_below_drewN | apply below_drew1 | refine below_set ?_ GE195.out) | exact HB.out)) hb); have n3_ := Aside0.mk (hbox); have n4_ := Aside0.mk ((by rw [hg]; exact (below_size (by repeat (first | (with_reducible first | exact HB.out | apply below_alloc | apply pw_below_drewN | apply below_drew1 | refine below_set ?_ GE195.out) | exact HB.out))) : w.heap.size ≤ gb196)); have n5_ := Aside0.mk ((by rw [hg]; exact (below_size (by repeat (first | (with_reducible first | exact HB.out | apply below_alloc | apply pw_below_drewN | apply below_drew1 | refine below_set ?_ GE195.out) | exact HB.out))) : w.heap.size ≤ gb196)); have n6_ := Aside0.mk ((by rw [hg]; exact Nat.ne_of_lt (blk_lt (g := gb195) (o := .cells #[.bool a0_0, .slice A0_1 l0_1.length c0_1, .int .i64 a0_2] 25 (0, 0)) (by (with_reducible repeat (first | refine blk_drewN ?_ _ | refine blk_drew ?_ | refine blk_alloc ?_ _)); exact BK195.out)) : gb195 ≠ gb196)); have n7_ := Aside0.mk ((by rw [hg]; exact Nat.ne_of_gt (blk_lt (g := gb195) (o := .cells #[.bool a0_0, .slice A0_1 l0_1.length c0_1, .int .i64 a0_2] 25 (0, 0)) (by (with_reducible repeat (first | refine blk_drewN ?_ _ | refine blk_drew ?_ | refine blk_alloc ?_ _)); exact BK195.out)) : gb196 ≠ gb195)); clear HO0_1; clear BK195; clear HB; have HO0_1 := n0_; have BK195 := n1_; have HB := n2_; have BK196 := n3_; have GW196 := n4_; have GE196 := n5_; have NB195_196 := n6_; have NB196_195 := n7_; clear n0_ n1_ n2_ n3_ n4_ n5_ n6_ n7_; clear hb hbox hg; have hnb13 := NB195_196.out; have hnc13 := NB196_195.out; have hcz14_0 : w12.cell? ⟨gb195, 0, none⟩ = some (.bool a0_0) := (blk_cell BK195.out 0).trans rfl; have hcz14_1 : w12.cell? ⟨gb195, 1, none⟩ = some (.slice A0_1 l0_1.length c0_1) := (blk_cell BK195.out 1).trans rfl; have hcz14_2 : w12.cell? ⟨gb195, 2, none⟩ = some (.int .i64 a0_2) := (blk_cell BK195.out 2).trans rfl; have hfz14_0 := blk_frozen BK195.out 0; have hfz14_1 := blk_frozen BK195.out 1; have hfz14_2 := blk_frozen BK195.out 2) | ((with_reducible refine gate_callee (f := 19) rfl ?_); refine goesL_ (some 4) rfl rfl Tryd.func19 (by kernel_rfl) rfl #[.agg #[.bool a0_0, .slice A0_1 l0_1.length c0_1, .int .i64 a0_2]] rfl (by (try simp only [List.map_toArray, List.map_cons, List.map_nil]); first | done | rfl | (simp only [List.length_drop, List.length_take]; rfl)) ?_; (with_reducible refine (num_Check.calls k a0_0 _ _ l0_1 a0_2 false _ ?side1 ?side2 A2.out).mono ?_); (case side1 => repeat (first | exact (Kd.V_reads' HO0_1.out).2.2 | (with_reducible refine Kd.C_alloc ?_ _) | (with_reducible refine Kd.C_drewN ?_ _) | (with_reducible refine Kd.C_drew ?_))); (case side2 => exact (Kd.V_reads' HO0_1.out).2.1); rintro e w15 ⟨rfl, hb⟩; refine ⟨_, rfl, ?_⟩; have n0_ := Aside0.mk (Kd.V_below (by (with_reducible repeat (first | apply Kd.V_alloc | apply Kd.V_drewN | apply Kd.V_drew)); exact HO0_1.out) hb); have n1_ := Aside0.mk (blk_below (g := gb195) (o := .cells #[.bool a0_0, .slice A0_1 l0_1.length c0_1, .int .i64 a0_2] 25 (0, 0)) (by (with_reducible repeat (first | refine blk_drewN ?_ _ | refine blk_drew ?_ | refine blk_alloc ?_ _)); exact BK195.out) hb); have n2_ := Aside0.mk (blk_below (g := gb196) (o := .cells #[.bool false, .slice none 0 0, .int .i64 0] 25 (0, 0)) (by (with_reducible repeat (first | refine blk_drewN ?_ _ | refine blk_drew ?_ | refine blk_alloc ?_ _)); exact BK196.out) hb); have n3_ := Aside0.mk (below_step (by repeat (first | (with_reducible first | exact HB.out | apply below_alloc | apply pw_below_drewN | apply below_drew1 | refine below_set ?_ GE195.out | refine below_set ?_ GE196.out) | exact HB.out)) hb); clear HO0_1; clear BK195; clear BK196; clear HB; have HO0_1 := n0_; have BK195 := n1_; have BK196 := n2_; have HB := n3_; clear n0_ n1_ n2_ n3_; (try clear hb); (try clear hb2); (try clear hk); (try clear hi); have hcz16_0 : w15.cell? ⟨gb196, 0, none⟩ = some (.bool false) := (blk_cell BK196.out 0).trans rfl; have hcz16_1 : w15.cell? ⟨gb196, 1, none⟩ = some (.slice none 0 0) := (blk_cell BK196.out 1).trans rfl; have hcz16_2 : w15.cell? ⟨gb196, 2, none⟩ = some (.int .i64 0) := (blk_cell BK196.out 2).trans rfl; have hfz16_0 := blk_frozen BK196.out 0; have hfz16_1 := blk_frozen BK196.out 1; have hfz16_2 := blk_frozen BK196.out 2))
    refine bodyPost_ret (results_cell_row rfl _ _ gb196 25 #[.bool false, .slice none 0 0, .int .i64 0] (0, 0) _ rfl (by (with_reducible repeat (first | refine blk_drewN ?_ _ | refine blk_drew ?_ | refine blk_alloc ?_ _)); refine blk_put (cs := #[.bool false, .slice none 0 0, .int .i64 0]) ?_ 2 _ rfl; (with_reducible repeat (first | refine blk_drewN ?_ _ | refine blk_drew ?_ | refine blk_alloc ?_ _)); refine blk_put (cs := #[.bool false, .slice none 0 0, .int .i64 0]) ?_ 1 _ rfl; (with_reducible repeat (first | refine blk_drewN ?_ _ | refine blk_drew ?_ | refine blk_alloc ?_ _)); refine blk_put (cs := #[.bool false, .slice none 0 0, .int .i64 0]) ?_ 0 _ rfl; (with_reducible repeat (first | refine blk_drewN ?_ _ | refine blk_drew ?_ | refine blk_alloc ?_ _)); exact BK196.out) Tryd.underlying25 rfl (by kernel_rfl)) rfl ?_
    exact ⟨_, by first | rfl | (simp [errW_none, errW_some] <;> rfl) | (simp [*, errW_none, errW_some] <;> rfl), (Kd.V_nil _ _ _ _ _), by repeat (first | (with_reducible first | exact HB.out | apply below_alloc | apply pw_below_drewN | apply below_drew1 | refine below_set ?_ GE195.out | refine below_set ?_ GE196.out) | exact HB.out)⟩

end Go.Proofs.YtmkdcokdilllcaaDoor.X
/- The contracts of the Builder's WriteString and String, laid by hand over this translation. -/
namespace Go.Proofs.YtmkdcokdilllcaaDoor.B
open Go.Shelf
def ren : Go.Shelf.Ren := ⟨fun | 166 => 55 | 240 => 70 | 276 => 85 | 169 => 57 | n => n, fun | 0 => 0 | 3 => 3 | 4 => 4 | 5 => 5 | 9 => 9 | 20 => 20 | 37 => 77 | 70 => 78 | 72 => 80 | 75 => 82 | 80 => 73 | 164 => 108 | 127 => 102 | n => n, fun | n => n⟩
theorem lays166 : Go.Proofs.Lays.n166 Tryd.prog ren := {
  mixed := by kernel_rfl
  f166 := Tryd.func55.trans (congrArg some (by kernel_rfl))
  f240 := Tryd.func70.trans (congrArg some (by kernel_rfl))
  f276 := Tryd.func85.trans (congrArg some (by kernel_rfl))
  t0 := Tryd.underlying0
  a0 := Tryd.isAgg0
  z0 := Tryd.sizeOf0
  v0 := Tryd.zeroValue0
  t3 := Tryd.underlying3
  a3 := Tryd.isAgg3
  z3 := Tryd.sizeOf3
  v3 := Tryd.zeroValue3
  t4 := Tryd.underlying4
  a4 := Tryd.isAgg4
  z4 := Tryd.sizeOf4
  v4 := Tryd.zeroValue4
  t9 := Tryd.underlying9
  a9 := Tryd.isAgg9
  z9 := Tryd.sizeOf9
  v9 := Tryd.zeroValue9
  t20 := Tryd.underlying20
  a20 := Tryd.isAgg20
  z20 := Tryd.sizeOf20
  v20 := Tryd.zeroValue20
  t37 := Tryd.underlying77
  a37 := Tryd.isAgg77
  z37 := Tryd.sizeOf77
  v37 := Tryd.zeroValue77
  t70 := Tryd.underlying78
  a70 := Tryd.isAgg78
  z70 := Tryd.sizeOf78
  v70 := Tryd.zeroValue78
  t72 := Tryd.underlying80
  a72 := Tryd.isAgg80
  z72 := Tryd.sizeOf80
  v72 := Tryd.zeroValue80
  t75 := Tryd.underlying82
  a75 := Tryd.isAgg82
  z75 := Tryd.sizeOf82
  v75 := Tryd.zeroValue82
  t164 := Tryd.underlying108
  a164 := Tryd.isAgg108
  z164 := Tryd.sizeOf108
  v164 := Tryd.zeroValue108 }
theorem extra : Builder.Extra Tryd.prog ren := {
  sizeBuilder := by kernel_rfl
  liesBuilder := by kernel_rfl
  t5 := Tryd.underlying5
  a5 := Tryd.isAgg5
  z5 := Tryd.sizeOf5
  v5 := Tryd.zeroValue5
  infoByte := by kernel_rfl
  cellsByte := by kernel_rfl
  sizeByte := by kernel_rfl
  neB5 := by decide }
open Go.RowKit in
theorem WriteString (B b : Nat) (bs : List Value) (s : ByteArray) (w : World) (h : Lib.IsBuilder 80 5 B b bs w) (hlen : bs.length + s.size ≤ 140737488355328) (hBw : B ≤ w.heap.size) :
    Calls Tryd.prog 55 #[.pointer (some ⟨b, 0, none⟩), .string s] w fun e w' => e = .returned (.tuple #[.int .i64 s.size, .nilIface]) ∧ (Lib.BuilderAt 80 5 B b (.pointer (some ⟨b, 0, none⟩)) (bs ++ Lib.strCells s) w' ∧ Below B w w') := Any.Builder_WriteString lays166 extra B b bs s w h hlen hBw
end Go.Proofs.YtmkdcokdilllcaaDoor.B
/- nat.Digits comes to the decimal digits of the natural. -/
namespace Go.Proofs.YtmkdcokdilllcaaDoor.X
open Go.RowKit Go.Proofs.YtmkdcokdilllcaaDoorW.PrintWords Go.Proofs.YtmkdcokdilllcaaDoorW.PrintLast Go.Proofs.YtmkdcokdilllcaaDoorW.PrintMore
set_option linter.unusedVariables false
set_option linter.unusedSimpArgs false
/-! the digits -/
/-- k decimal digits, noughts ahead. -/
def digs : Nat → Nat → List UInt8
  | 0, _ => []
  | k + 1, v => UInt8.ofNat (48 + v / 10 ^ k % 10) :: digs k v
theorem digs_length (k v : Nat) : (digs k v).length = k := by
  induction k with
  | zero => rfl
  | succ k ih => simp [digs, ih]
theorem digs_add (a b v : Nat) : digs (a + b) v = digs a (v / 10 ^ b) ++ digs b v := by
  induction a with
  | zero => simp [digs]
  | succ a ih =>
    rw [Nat.succ_add]
    simp only [digs, List.cons_append, ih]
    rw [Nat.div_div_eq_div_mul, ← Nat.pow_add, Nat.add_comm b a]
theorem digs_mod (k v : Nat) : digs k (v % 10 ^ k) = digs k v := by
  have key : ∀ k m, k ≤ m → digs k (v % 10 ^ m) = digs k v := by
    intro k
    induction k with
    | zero => intro m _; rfl
    | succ k ih =>
      intro m hm
      simp only [digs]
      rw [ih m (by omega)]
      congr 3
      obtain ⟨j, rfl⟩ : ∃ j, m = k + 1 + j := ⟨m - (k + 1), by omega⟩
      rw [Nat.pow_add, Nat.pow_succ, Nat.mul_assoc, Nat.mod_mul_right_div_self, Nat.mod_mul_right_mod]
  exact key k k (Nat.le_refl _)
theorem digs_snoc (k v : Nat) : digs (k + 1) v = digs k (v / 10) ++ [UInt8.ofNat (48 + v % 10)] := by
  rw [digs_add k 1 v]
  simp [digs]
theorem trim_digs (k : Nat) : ∀ n, n < 10 ^ k → Lib.trimLeftB (digs k n) 48 = if n = 0 then [] else Lib.decDigits n := by
  induction k with
  | zero => intro n hn; have : n = 0 := by omega
            subst this; rfl
  | succ k ih =>
    intro n hn
    rw [digs_snoc]
    have h10 := ih (n / 10) (by rw [Nat.pow_succ] at hn; omega)
    unfold Lib.trimLeftB at h10 ⊢
    rw [List.dropWhile_append, h10]
    by_cases h0 : n / 10 = 0
    · simp only [h0, if_true, List.isEmpty_nil]
      by_cases hz : n = 0
      · subst hz
        decide
      · rw [if_neg hz]
        unfold Lib.decDigits
        rw [dif_pos (by omega)]
        have hlt : n < 10 := by omega
        have hne : (UInt8.ofNat (48 + n % 10) == 48) = false := by
          rw [Nat.mod_eq_of_lt hlt]
          have : ∀ m : Fin 10, m.val ≠ 0 → (UInt8.ofNat (48 + m.val) == 48) = false := by decide
          exact this ⟨n, hlt⟩ hz
        rw [List.dropWhile_cons, hne, Nat.mod_eq_of_lt hlt]
        rfl
    · have hz : n ≠ 0 := by omega
      simp only [h0, if_false, hz]
      have hne : (Lib.decDigits (n / 10)).isEmpty = false := by
        unfold Lib.decDigits
        split <;> simp
      rw [hne]
      conv => rhs; unfold Lib.decDigits
      rw [dif_neg (by omega)]
      rfl
/-- The pieces from the last one on, one behind the other. -/
def cat : List ByteArray → List UInt8
  | [] => []
  | p :: ps => cat ps ++ p.data.toList
theorem cat_snoc (ps : List ByteArray) (p : ByteArray) : cat (ps ++ [p]) = p.data.toList ++ cat ps := by
  induction ps with
  | nil => simp [cat]
  | cons q ps ih => simp [cat, ih]
def nat_Digits.f (l0 : List Int) : Option ByteArray := if (∀ x ∈ l0, 0 ≤ x ∧ x < 4294967296) ∧ l0.length ≤ 1048576 then some ⟨(Lib.decDigits (val l0)).toArray⟩ else none
/-- What the first loop keeps. -/
def DigRel (w w' : World) (n0 n : Nat) (v0 v3 : Value) : Prop :=
  ∃ ps : List ByteArray, Kd.R (Kd.int .u32) 40 w' w.heap.size (fun _ => True) v0 (lim n) ∧ Kd.R Kd.string 9 w' w.heap.size (fun _ => True) v3 ps ∧
    n = n0 / 10 ^ (9 * ps.length) ∧ cat ps = digs (9 * ps.length) n0 ∧ (0 < ps.length → 10 ^ (9 * ps.length - 9) ≤ n0) ∧ Below w.heap.size w w'
/-- What the inner loop keeps: the last i cells hold digits. -/
def cellsAt (i v : Nat) : List Int := List.replicate (9 - i) 0 ++ (digs i v).map fun b => (b.toNat : Int)
theorem cellsAt_step (i v : Nat) (h : i < 9) : (cellsAt i v).set (8 - i) (((48 + v / 10 ^ i % 10) % 256 : Nat) : Int) = cellsAt (i + 1) v := by
  unfold cellsAt
  have h1 : 8 - i < (List.replicate (9 - i) (0 : Int)).length := by simp; omega
  rw [List.set_append_left _ _ h1, show 9 - i = (8 - i) + 1 by omega, List.replicate_succ', List.set_append_right _ _ (by simp), List.length_replicate, Nat.sub_self, show 9 - (i + 1) = 8 - i by omega, List.append_assoc]
  congr 1
theorem nums_set (k : IntKind) (xs : List Int) (i : Nat) (x : Int) : (nums k xs).set i (.int k x) = nums k (xs.set i x) := by simp [nums, List.map_set]
theorem str_cells (v : Nat) : (strOfNums (cellsAt 9 v)).data.toList = digs 9 v := by
  have : cellsAt 9 v = (digs 9 v).map fun b => (b.toNat : Int) := by simp [cellsAt]
  rw [this]
  have e : ((fun n : Int => UInt8.ofNat n.toNat) ∘ fun b : UInt8 => (b.toNat : Int)) = id := by funext b; simp
  simp [strOfNums, e]
theorem lim_len_small {l : List Int} (h : Ok l) (n : Nat) (hn : n ≤ val l) : (lim n).length ≤ l.length := lim_len_le (Nat.lt_of_le_of_lt hn (val_lt h))
theorem pow_two_le (k : Nat) : 2 ^ k ≤ 10 ^ k := Nat.pow_le_pow_left (by omega) k
theorem pieces_le {n0 m j : Nat} (hn : n0 < 4294967296 ^ m) (h : 0 < j → 10 ^ (9 * j - 9) ≤ n0) : 9 * j ≤ 32 * m + 9 := by
  rcases Nat.lt_or_ge (32 * m + 9) (9 * j) with hlt | hge
  · exfalso
    have h1 := h (by omega)
    have h2 : 2 ^ (32 * m) ≤ 10 ^ (9 * j - 9) := Nat.le_trans (pow_two_le _) (Nat.pow_le_pow_right (by omega) (by omega))
    rw [Nat.pow_mul] at h2
    have : (2 : Nat) ^ 32 = 4294967296 := by decide
    rw [this] at h2
    omega
  · exact hge
theorem cat_drop {ps : List ByteArray} {i : Nat} (h : i < ps.length) : cat (ps.drop (ps.length - (i + 1))) = cat (ps.drop (ps.length - i)) ++ (rdOf ByteArray.empty ps ((ps.length : Int) - 1 - i)).data.toList := by
  have h1 : ps.length - (i + 1) < ps.length := by omega
  rw [List.drop_eq_getElem_cons h1, cat, show ps.length - (i + 1) + 1 = ps.length - i by omega]
  congr 2
  unfold rdOf
  rw [show ((ps.length : Int) - 1 - i).toNat = ps.length - (i + 1) by omega, List.getD_eq_getElem?_getD, List.getElem?_eq_getElem h1]
  rfl
theorem cat_le {ps : List ByteArray} (i : Nat) : (cat (ps.drop i)).length ≤ (cat ps).length := by
  induction ps generalizing i with
  | nil => simp
  | cons p ps ih =>
    rcases i with _ | i
    · simp
    · have := ih i
      simp [cat] at this ⊢
      omega
set_option maxHeartbeats 8000000 in
set_option maxRecDepth 100000 in
theorem nat_Digits.calls (A0 : Option Addr) (c0 : Nat) (l0 : List Int) (r : ByteArray) (w : World) (hr0 : Kd.C (Kd.int .u32) w A0 l0.length l0) (hc0 : l0.length ≤ c0) (h : nat_Digits.f l0 = some r) :
    Calls Tryd.prog 34 #[.slice A0 l0.length c0] w fun e w' => e = .returned (.string r) ∧ Below w.heap.size w w' := by
  unfold nat_Digits.f at h
  by_cases hl : (∀ x ∈ l0, 0 ≤ x ∧ x < 4294967296) ∧ l0.length ≤ 1048576
  case neg => rw [if_neg hl] at h; exact absurd h (by simp)
  rw [if_pos hl] at h
  obtain rfl := Option.some.inj h
  clear h
  obtain ⟨hok, hlen⟩ := hl
  have HOK := Aside0.mk hok
  have HR := Aside0.mk hr0
  have HN := Aside0.mk (nat_Norm_eq (l := l0) hok (by omega))
  clear hr0 hok
  go_enter Tryd.func34, Tryd.ntmps34
  go_wp2_with fail
  refine (nat_Norm.calls _ _ _ _ _ HR.out hc0 HN.out).mono ?_
  rintro e w1 ⟨v0, rfl, ho, hb⟩
  have HS : Aside0 (DigRel w w1 (val l0) (val l0) v0 (.slice none 0 0)) := ⟨[], ho, Kd.R_nil _ _ _ _ _, by simp, by simp [cat, digs], by simp, hb⟩
  clear ho hb
  go_wp2
  go_loopg [0, 3] (val l0) (fun n v0 v3 w' => Aside0 (DigRel w w' (val l0) n v0 v3))
  case atStart => exact HS
  case round =>
    clear HS
    obtain ⟨W0, rfl⟩ : ∃ W0, W0 = wr := ⟨_, rfl⟩
    obtain ⟨ps, hA, hP, hn, hcat, hlo, hb⟩ := hrel.out
    clear hrel
    have HA := Aside0.mk hA
    have HP := Aside0.mk hP
    have HB := Aside0.mk hb
    have HN2 := Aside0.mk hn
    have HC := Aside0.mk hcat
    have HLO := Aside0.mk hlo
    clear hA hP hb hn hcat hlo
    obtain ⟨Ao, co, e0⟩ := Kd.R_slice HA.out
    subst e0
    by_cases h0 : gk = 0
    · subst h0
      have hz : (lim 0).length = 0 := by rw [lim_zero]; rfl
      have hb0 : decide (0 < (lim 0).length) = false := by rw [hz]; rfl
      clear hz
      obtain ⟨Ap, cp, e1⟩ := Kd.R_slice HP.out
      subst e1
      have HLE := Aside0.mk (pieces_le (val_lt HOK.out) HLO.out)
      have HCL := Aside0.mk (show (cat ps).length = 9 * ps.length from by rw [HC.out, digs_length])
      have hpl : ps.length ≤ 33554441 := by have := HLE.out; omega
      go_wp2
      have hfz := Lib.fresh_isBuilder 80 5 W0
      have HF := Aside0.mk (show Lib.IsBuilder 80 5 W0.heap.size W0.heap.size (Lib.byteCells (cat (ps.drop (ps.length - 0)))) (W0.alloc (.cells #[.pointer none, .slice none 0 0] 80)) from by
        rw [Nat.sub_zero, List.drop_length]
        exact hfz)
      clear hfz
      have HPR := Aside0.mk (Kd.R_reads' HP.out).2.2
      go_loopw [42] (fun v42 w' => ∃ i : Nat, i ≤ ps.length ∧ v42 = .int .i64 i ∧ Aside0 (Lib.IsBuilder 80 5 W0.heap.size W0.heap.size (Lib.byteCells (cat (ps.drop (ps.length - i)))) w') ∧ Aside0 (Below W0.heap.size W0 w')) (fun v42 _ => ps.length - (intOf v42).toNat)
      case atStart => exact ⟨0, Nat.zero_le _, rfl, HF, ⟨below_alloc (Below.refl _ _) _⟩⟩
      case round =>
        clear HF
        obtain ⟨i, hi, rfl, HI, HW⟩ := hrel
        by_cases hlt : i < ps.length
        · obtain ⟨ad, e, hx⟩ := Kd.at_string HPR.out ((ps.length : Int) - 1 - i) (by omega) (by omega)
          cases e
          have hx2 := (HW.out.cell (World.block_lt_of_cell? _ _ hx)).trans hx
          clear hx
          have hx3 : wr.cell? (ad.add (ps.length - 1 - i)) = some (.string (rdOf ByteArray.empty ps ((ps.length : Int) - 1 - i))) := by
            rw [← show ((ps.length : Int) - 1 - i).toNat = ps.length - 1 - i by omega]
            exact hx2
          have HX := Aside0.mk (cat_drop hlt)
          have HLN := Aside0.mk (cat_le (ps := ps) (ps.length - (i + 1)))
          generalize hss : rdOf ByteArray.empty ps ((ps.length : Int) - 1 - i) = s at *
          clear hss
          go_wp2_with fail
          refine (B.WriteString _ _ _ s _ HI.out (by
            have h1 := HLN.out
            have h2 := HX.out
            have h3 := HCL.out
            rw [h2, List.length_append, data_length, h3] at h1
            have h5 : (Lib.byteCells (cat (ps.drop (ps.length - i)))).length = (cat (ps.drop (ps.length - i))).length := by simp [Lib.byteCells]
            omega) HW.out.size).mono ?_
          rintro e w2 ⟨rfl, hB2, hb2⟩
          have HI2 := Aside0.mk (show Lib.IsBuilder 80 5 W0.heap.size W0.heap.size (Lib.byteCells (cat (ps.drop (ps.length - (i + 1))))) w2 from .inr (by
            rw [HX.out]
            have : Lib.byteCells (cat (ps.drop (ps.length - i)) ++ s.data.toList) = Lib.byteCells (cat (ps.drop (ps.length - i))) ++ Lib.strCells s := by simp [Lib.byteCells, Lib.strCells]
            rw [this]
            exact hB2))
          have HW2 := Aside0.mk (HW.out.trans hb2)
          clear hB2 hb2
          go_wp2
          go_roundw
          case rel => exact ⟨i + 1, by omega, by go_num, HI2, HW2⟩
          case measure => simp [intOf]; omega
        · obtain rfl : i = ps.length := by omega
          have HI3 := Aside0.mk (show Lib.IsBuilder 80 5 W0.heap.size W0.heap.size (Lib.byteCells (digs (9 * ps.length) (val l0))) wr from by
            have := HI.out
            rw [Nat.sub_self, List.drop_zero, HC.out] at this
            exact this)
          have HTR := Aside0.mk (trim_digs (9 * ps.length) (val l0) (by
            have := HN2.out
            have hp : 0 < 10 ^ (9 * ps.length) := Nat.pow_pos (by omega)
            rcases Nat.lt_or_ge (val l0) (10 ^ (9 * ps.length)) with h | h
            · exact h
            · have := Nat.div_pos h hp
              omega))
          clear HI
          go_wp2_with fail
          refine (Tryd.Builder_String_any _ _ _ _ HI3.out HW.out.size).mono ?_
          rintro e w3 ⟨rfl, hb3⟩
          have HW3 := Aside0.mk (HW.out.trans hb3)
          clear hb3
          go_wp2_with fail
          refine (Tryd.strings_TrimLeft_one _ 48 (by decide) _).mono ?_
          rintro e w4 ⟨rfl, rfl⟩
          have HTR2 : (Lib.trimLeftB (digs (9 * ps.length) (val l0)).toArray.toList 48) = if val l0 = 0 then [] else Lib.decDigits (val l0) := HTR.out
          have HFIN := Aside0.mk (HB.out.trans (below_then (Below.refl _ _) (Nat.le_refl _) HW3.out |> fun h => (Below.mono h HB.out.size)))
          by_cases hz : val l0 = 0
          · rw [if_pos hz] at HTR2
            rw [HTR2]
            go_wp2
            go_ret
            rw [hz]
            exact ⟨by unfold Lib.decDigits; rfl, HFIN.out⟩
          · rw [if_neg hz] at HTR2
            rw [HTR2]
            have hne : (Lib.decDigits (val l0) != []) = true := by
              unfold Lib.decDigits
              split <;> simp
            have hne2 : Lib.decDigits (val l0) ≠ [] := by simpa using hne
            have hne3 : (Lib.decDigits (val l0)).isEmpty = false := by simpa using hne2
            have hne4 : (!(Lib.decDigits (val l0)).isEmpty) = true := by rw [hne3]; rfl
            have hne5 : (Lib.decDigits (val l0) == []) = false := by simpa using hne2
            have hne6 : ¬ (Lib.decDigits (val l0) = []) := hne2
            go_wp2
            go_ret
            exact ⟨rfl, HFIN.out⟩
    · have hle : gk ≤ val l0 := by
        have := HN2.out
        have h2 := Nat.div_le_self (val l0) (10 ^ (9 * ps.length))
        omega
      have hb1 : decide (0 < (lim gk).length) = true := by
        have h1 : (lim gk).length ≠ 0 := fun h => h0 ((lim_len_zero gk).1 h)
        simpa using Nat.pos_of_ne_zero h1
      have hls := lim_len_small (l := l0) HOK.out gk hle
      obtain ⟨k, hk⟩ := (nat_small_eq (d := 1000000000) (lim_ok gk) (by omega) (by decide) (by decide)).rounds
      rw [val_lim] at hk
      have HK := Aside0.mk hk
      have HPOS := Aside0.mk h0
      have HLE := Aside0.mk hle
      clear hk h0 hle
      go_wp2_with fail
      refine (nat_small.calls k _ _ _ 1000000000 _ _ _ (Kd.R_reads' HA.out).2.2 (Kd.R_reads' HA.out).2.1 HK.out).mono ?_
      rintro e w2 ⟨v4, rfl, ho, hb2⟩
      have HO := Aside0.mk (Kd.R_lower ho HB.out.size)
      have HP2 := Aside0.mk (Kd.R_below HP.out hb2)
      have HB2 := Aside0.mk (below_step HB.out hb2)
      clear ho hb2
      have e9 : (1000000000 : Int).toNat = 1000000000 := rfl
      rw [e9] at *
      have hv : gk % 1000000000 < 1000000000 := Nat.mod_lt _ (by omega)
      generalize hvv : gk % 1000000000 = v at *
      have HV := Aside0.mk hvv
      clear hvv e9
      go_wp2
      go_loopw [5, 22] (fun v5 v22 w' => ∃ i : Nat, i ≤ 9 ∧ v22 = .int .i64 i ∧ v5 = .int .u32 ((v / 10 ^ i : Nat) : Int) ∧ Aside0 (w'.heap[w2.heap.size]? = some (.cells (nums .u8 (cellsAt i v)).toArray 76 (0, 0))) ∧ Aside0 (Below w2.heap.size w2 w')) (fun _ v22 _ => 9 - (intOf v22).toNat)
      case atStart => exact ⟨0, by omega, rfl, by simp, ⟨by have := heap_alloc_new w2 (.cells #[.int .u8 0, .int .u8 0, .int .u8 0, .int .u8 0, .int .u8 0, .int .u8 0, .int .u8 0, .int .u8 0, .int .u8 0] 76); exact this⟩, ⟨below_alloc (Below.refl _ _) _⟩⟩
      case round =>
        obtain ⟨i, hi, rfl, rfl, HC5, HW5⟩ := hrel
        by_cases hlt : i < 9
        · have hx2 : v / 10 ^ i < 1000000000 := Nat.lt_of_le_of_lt (Nat.div_le_self _ _) hv
          have hst := cellsAt_step i v hlt
          have hnx : v / 10 ^ (i + 1) = v / 10 ^ i / 10 := by rw [Nat.pow_succ, Nat.div_div_eq_div_mul]
          generalize hxx : v / 10 ^ i = x at *
          have HST := Aside0.mk hst
          have HNX := Aside0.mk hnx
          clear hxx hst hnx
          have hcl : (cellsAt i v).length = 9 := by simp [cellsAt, digs_length]; omega
          obtain ⟨old, hcell⟩ : ∃ old, wr.cell? ⟨w2.heap.size, 8 - i, none⟩ = some (.int .u8 old) := by
            rw [blk_cell HC5.out]
            exact ⟨(cellsAt i v)[8 - i]'(by omega), by simp [nums, List.getElem?_eq_getElem (show 8 - i < (cellsAt i v).length by omega)]⟩
          have hfz : wr.frozen? ⟨w2.heap.size, 8 - i, none⟩ = false := Lib.frozen_of_heap HC5.out _
          clear hcl
          go_wp2
          go_roundw
          case rel => exact ⟨i + 1, by omega, by go_num, by rw [HNX.out]; go_num, ⟨by
            refine blk_put HC5.out (8 - i) _ ?_
            rw [List.setIfInBounds_toArray, nums_set, ← HST.out]
            first
              | rw [show (48 + (x : Int) % 10) = (((48 + x % 10) % 256 : Nat) : Int) by omega]
              | rw [show (48 + (x : Int) % 10) % 256 = (((48 + x % 10) % 256 : Nat) : Int) by omega]⟩, ⟨HW5.out.setCell (Nat.le_refl _) _⟩⟩
          case measure => simp [intOf]; omega
        · obtain rfl : i = 9 := by omega
          have hown : wr.ownsRow w2.heap.size 76 1 (.slice (some ⟨w2.heap.size, 0, none⟩) 9 9) 9 (nums .u8 (cellsAt 9 v)) := ⟨by simp [nums, cellsAt, digs_length], .inr ⟨_, 9, _, rfl, Nat.le_refl _, HC5.out, by omega, by decide, by simp [nums, cellsAt, digs_length], List.take_of_length_le (by simp [nums, cellsAt, digs_length])⟩⟩
          have hconv := own_string (P := Tryd.prog) Tryd.underlying77 Tryd.underlying5 Tryd.underlying9 hown
          have HSTR := Aside0.mk (str_cells v)
          have HPW := Aside0.mk (Kd.R_below HP2.out HW5.out)
          have HOW := Aside0.mk (Kd.R_below HO.out HW5.out)
          have HBW := Aside0.mk (below_step HB2.out HW5.out)
          have hpl := pieces_le (val_lt HOK.out) HLO.out
          have HPL := Aside0.mk hpl
          clear hown hpl
          generalize strOfNums (cellsAt 9 v) = s at *
          go_wp2_with (at_builtin; refine Kd.R_append Kd.string (w0 := w) w.heap.size rfl (.tmp 35) (.tmp 38) 75 9 (.string ⟨#[]⟩) 16 rfl Tryd.underlying75 (by kernel_rfl) rfl (by decide) (by omega) _ ps s [.string s] (fun _ => True) (fun _ => False) rfl rfl rfl (fun _ hk => hk.elim) (fun _ _ => trivial) HPW.out HBW.out (below_size HBW.out) (by have := HPL.out; omega) ?_; intro v5 w5 ho hb hg hat; have HOV := Aside0.mk (Kd.R_over' HOW.out (Kd.R_typed HPW.out) (by decide) hg); have HPV := Aside0.mk ho; have HBV := Aside0.mk hb; clear ho hb hg hat)
          go_roundg (gk / 1000000000)
          case measure => have := HPOS.out; omega
          case rel => exact ⟨by
            have hp : 0 < 10 ^ (9 * ps.length) := Nat.pow_pos (by omega)
            refine ⟨ps ++ [s], HOV.out, HPV.out, ?_, ?_, ?_, HBV.out⟩
            · have h1 := HN2.out
              rw [h1, Nat.div_div_eq_div_mul, List.length_append, List.length_singleton, Nat.mul_add, Nat.pow_add]
            · rw [cat_snoc, HSTR.out, HC.out, List.length_append, List.length_singleton, show 9 * (ps.length + 1) = 9 + 9 * ps.length by omega, digs_add, ← HN2.out, ← HV.out]
              rw [show (1000000000 : Nat) = 10 ^ 9 by decide, digs_mod]
            · intro _
              rw [List.length_append, List.length_singleton, show 9 * (ps.length + 1) - 9 = 9 * ps.length by omega]
              rcases Nat.lt_or_ge (val l0) (10 ^ (9 * ps.length)) with h | h
              · have h2 := HN2.out
                rw [Nat.div_eq_of_lt h] at h2
                exact absurd h2 HPOS.out
              · exact h⟩
end Go.Proofs.YtmkdcokdilllcaaDoor.X
/- strconv.Itoa, strings.Repeat, strings.Compare, as the walks ask them. -/
namespace Go.Proofs.YtmkdcokdilllcaaDoor.X
open Go.RowKit Go.Proofs.YtmkdcokdilllcaaDoorW.PrintWords
def strconv_Itoa_62.f (a0 : Int) : Option ByteArray := if -9223372036854775808 ≤ a0 ∧ a0 ≤ 9223372036854775807 then some ⟨(Lib.itoa a0).toArray⟩ else none
theorem strconv_Itoa_62.calls (a0 : Int) (r : ByteArray) (w : World) (hL : Laid w) (h : strconv_Itoa_62.f a0 = some r) :
    Calls Tryd.prog 62 #[.int .i64 a0] w fun e w' => e = .returned (.string r) ∧ Below w.heap.size w w' := by
  unfold strconv_Itoa_62.f at h
  split at h
  · rename_i hb
    obtain rfl := Option.some.inj h
    refine (Go.Proofs.Tryd.strconv_Itoa a0 hb.1 hb.2 w hL.pow10).mono ?_
    rintro e w' ⟨rfl, k, os, rfl⟩
    exact ⟨rfl, Lib.below_grow _ _ (Nat.le_refl _) _ _⟩
  · cases h
def strings_Repeat.f (a0 : ByteArray) (a1 : Int) : Option ByteArray := if 0 ≤ a1 ∧ a1 ≤ 9223372036854775807 ∧ a0.size * a1.toNat ≤ 140737488355328 then some ⟨(Lib.repeatL a0.data.toList a1.toNat).toArray⟩ else none
theorem strings_Repeat.calls (a0 : ByteArray) (a1 : Int) (r : ByteArray) (w : World) (h : strings_Repeat.f a0 a1 = some r) :
    Calls Tryd.prog 35 #[.string a0, .int .i64 a1] w fun e w' => e = .returned (.string r) ∧ Below w.heap.size w w' := by
  unfold strings_Repeat.f at h
  split at h
  · rename_i hb
    obtain rfl := Option.some.inj h
    obtain ⟨c, rfl⟩ := Int.eq_ofNat_of_zero_le hb.1
    have := Go.Proofs.Tryd.strings_Repeat a0 c w (by omega) (by simpa using hb.2.2)
    simpa using this
  · cases h
end Go.Proofs.YtmkdcokdilllcaaDoor.X
/- Which numbers may be; how two compare; which are the same. -/
namespace Go.Proofs.YtmkdcokdilllcaaDoor.X
open Go.RowKit Go.Proofs.YtmkdcokdilllcaaDoorW.PrintWords Go.Proofs.YtmkdcokdilllcaaDoorW.PrintMore
set_option linter.unusedVariables false
set_option linter.unusedSimpArgs false
/-- May that be a number? -/
def checkS (neg : Bool) (l : List Int) (E : Int) : Bool :=
  if l.length = 0 then (!neg && (E == 0)) else if l.length > 90 then false else if rd l ((l.length : Int) - 1) = 0 then false else if E < -1200 then false else if E > 1200 then false else decide (val l % 10 ≠ 0)
theorem last_split {l : List Int} (h : l.length ≠ 0) : l = l.take (l.length - 1) ++ [rd l ((l.length : Int) - 1)] := by
  have h1 := take_snoc' l (l.length - 1) (by omega)
  rw [show l.length - 1 + 1 = l.length by omega, List.take_of_length_le (Nat.le_refl _)] at h1
  rw [show ((l.length : Int) - 1) = ((l.length - 1 : Nat) : Int) by omega]
  exact h1
theorem norm_len (l : List Int) : (norm l).length ≤ l.length := by
  unfold norm
  rw [List.length_reverse]
  exact Nat.le_trans (List.dropWhile_sublist _).length_le (by rw [List.length_reverse]; exact Nat.le_refl _)
theorem lim_last {n : Nat} (h : (lim n).length ≠ 0) : rd (lim n) (((lim n).length : Int) - 1) ≠ 0 := by
  intro hz
  have h1 := last_split h
  have h2 := lim_norm n
  generalize lim n = l at *
  rw [hz] at h1
  rw [h1, norm_snoc, if_pos rfl] at h2
  have h3 := norm_len (l.take (l.length - 1))
  rw [h2, List.length_append] at h3
  simp at h3
  omega
theorem top_lim {l : List Int} (hl : Ok l) (h : l.length ≠ 0) (h0 : rd l ((l.length : Int) - 1) ≠ 0) : l = lim (val l) := by
  have h1 := last_split h
  have h2 := norm_lim hl
  rw [h1, norm_snoc, if_neg h0, ← h1] at h2
  exact h2
theorem good_check {neg : Bool} {n : Nat} {E : Int} (h : GoodNum neg n E) : checkS neg (lim n) E = true := by
  have h1 := h.limbs
  have h2 := h.lo
  have h3 := h.hi
  unfold checkS
  by_cases h0 : n = 0
  · obtain ⟨rfl, rfl⟩ := h.zero h0
    subst h0
    rw [lim_zero]
    rfl
  · have hl : (lim n).length ≠ 0 := fun h => h0 ((lim_len_zero n).1 h)
    rw [if_neg hl, if_neg (by omega), if_neg (lim_last hl), if_neg (by omega), if_neg (by omega), val_lim]
    exact decide_eq_true (h.ten h0)
theorem tz_two_zero {n : Nat} (h : n ≠ 0) : (tz n).2 = 0 ↔ n % 10 ≠ 0 := by
  constructor
  · intro hz hm
    rw [tz_ten h hm] at hz
    simp at hz
  · intro hm
    rw [tz_self hm]
theorem val_zero_of {l : List Int} (hl : Ok l) (h : l.length ≠ 0) (h0 : rd l ((l.length : Int) - 1) ≠ 0) : val l ≠ 0 := by
  intro hz
  have := top_lim hl h h0
  rw [hz, lim_zero] at this
  rw [this] at h
  exact h rfl
theorem num_check {l : List Int} (hl : Ok l) (la : l.length ≤ 1099511627776) (neg : Bool) (E : Int) : Ev (fun k => num_Check.f k neg l E) (checkS neg l E) := by
  unfold num_Check.f checkS
  by_cases h0 : l.length = 0
  · have c0 : (l.length : Int) = 0 := by omega
    simp only [c0, h0, if_true]
    cases neg
    · simp only [Bool.false_eq_true, if_false, Bool.not_false, Bool.true_and]
      exact Ev.now _
    · simp only [if_true, Bool.not_true, Bool.false_and]
      exact Ev.now _
  · have c0 : ¬ (l.length : Int) = 0 := by omega
    have hw := wrap64_pred l.length la
    simp only [c0, h0, if_false, hw]
    by_cases h1 : l.length > 90
    · have c1 : (l.length : Int) > 90 := by omega
      simp only [c1, h1, if_true]
      exact Ev.now _
    · have c1 : ¬ (l.length : Int) > 90 := by omega
      have c2 : (0 : Int) ≤ (l.length : Int) - 1 := by omega
      have c3 : (l.length : Int) - 1 < (l.length : Int) := by omega
      simp only [c1, h1, c2, c3, if_false, if_true]
      by_cases h2 : rd l ((l.length : Int) - 1) = 0
      · simp only [h2, if_true]
        exact Ev.now _
      · simp only [h2, if_false]
        by_cases h3 : E < -1200
        · simp only [h3, if_true]
          exact Ev.now _
        · simp only [h3, if_false]
          by_cases h4 : E > 1200
          · simp only [h4, if_true]
            exact Ev.now _
          · simp only [h4, if_false]
            refine Ev.bind (nat_trim hl la) ?_
            have e : (((((tz (val l)).2 : Nat) : Int)) == 0) = decide (val l % 10 ≠ 0) := by
              rw [Bool.eq_iff_iff, decide_eq_true_eq, ← tz_two_zero (val_zero_of hl h0 h2)]
              simp
            simp only [e]
            exact Ev.now _
def ofS (neg : Bool) (l : List Int) (E : Int) : Bool × List Int × Int := if checkS neg l E = true then (neg, l, E) else (false, [], 0)
theorem num_of_eq {l : List Int} (hl : Ok l) (la : l.length ≤ 1099511627776) (neg : Bool) (E : Int) : Ev (fun k => num_of.f k neg l E) (ofS neg l E) := by
  unfold ofS
  refine Ev.congr (fun k => rfl) (Ev.bind (num_check hl la neg E) ?_)
  split <;> exact Ev.now _
theorem of_good {neg : Bool} {n : Nat} {E : Int} (h : GoodNum neg n E) : ofS neg (lim n) E = (neg, lim n, E) := by
  unfold ofS
  rw [if_pos (good_check h)]
/-- What a number is, times a power of ten that all have. -/
def mag (n : Nat) (E : Int) : Nat := n * 10 ^ (E + 1200).toNat
theorem size_digits (n : Nat) : (ByteArray.mk (Lib.decDigits n).toArray).size = Lib.nDigits n := by
  rw [← dlen]
  exact Lib.decDigits_length n
theorem digits_of {n : Nat} (h : (lim n).length ≤ 90) : nat_Digits.f (lim n) = some ⟨(Lib.decDigits n).toArray⟩ := by
  unfold nat_Digits.f
  rw [if_pos ⟨lim_ok n, by omega⟩, val_lim]
theorem nDigits_le {n : Nat} (h : (lim n).length ≤ 90) : Lib.nDigits n ≤ 900 := by
  by_cases h0 : n = 0
  · subst h0
    rw [Lib.nDigits_small (by decide)]
    decide
  · have h1 : 0 < (lim n).length := Nat.pos_of_ne_zero fun h => h0 ((lim_len_zero n).1 h)
    have h2 := digits_lim (lim_ok n) h1
    rw [val_lim, Lib.decDigits_length] at h2
    omega
theorem repeat_zeros {k : Int} (h0 : 0 ≤ k) (h : k ≤ 1099511627776) : strings_Repeat.f ⟨#[48]⟩ k = some ⟨(List.replicate k.toNat 48).toArray⟩ := by
  unfold strings_Repeat.f
  have hs : (ByteArray.mk #[48]).size = 1 := rfl
  rw [if_pos ⟨h0, by omega, by rw [hs]; omega⟩]
  rw [show (ByteArray.mk #[48]).data.toList = [48] from rfl, rep_zeros]
/-- What a number is, times a power of ten that all have, with its sign. -/
def V (neg : Bool) (n : Nat) (E : Int) : Int := if neg = true then -((mag n E : Nat) : Int) else ((mag n E : Nat) : Int)
end Go.Proofs.YtmkdcokdilllcaaDoor.X
-- A walk, written by a program of this session (xp.py).
namespace Go.Proofs.YtmkdcokdilllcaaDoor.X
open Go.RowKit Go.Proofs.YtmkdcokdilllcaaDoorW.PrintWords Go.Proofs.YtmkdcokdilllcaaDoorW.PrintLast Go.Proofs.YtmkdcokdilllcaaDoorW.PrintMore
attribute [local go_sem] max2_int min2_int max_two min_two max_three min_three max_four min_four
set_option linter.unusedVariables false
set_option linter.unusedSimpArgs false

/-! ### num_science: function 36 -/
def num_science.j0 : Nat → Int → ByteArray → Option (ByteArray)
  | 0, _, _ => none
  | k + 1, x1, x5 => if x1 > 0 then (if x5.size + 2 ≤ 9223372036854775807 then ((strconv_Itoa_62.f (wrap64 (x1 - 1))).bind fun t201 => (if (x5 ++ (⟨#[101, 43]⟩ : ByteArray)).size + t201.size ≤ 9223372036854775807 then (some ((x5 ++ (⟨#[101, 43]⟩ : ByteArray)) ++ t201)) else (none))) else (none)) else (if x5.size + 2 ≤ 9223372036854775807 then ((strconv_Itoa_62.f (wrap64 (1 - x1))).bind fun t202 => (if (x5 ++ (⟨#[101, 45]⟩ : ByteArray)).size + t202.size ≤ 9223372036854775807 then (some ((x5 ++ (⟨#[101, 45]⟩ : ByteArray)) ++ t202)) else (none))) else (none))
def num_science.f (k : Nat) (a0 : ByteArray) (a1 : Int) : Option (ByteArray) := if 0 ≤ 1 then (if 1 ≤ (a0.size : Int) then (if (a0.size : Int) > 1 then (if 1 + (a0.extract 1 a0.size).size ≤ 9223372036854775807 then (if (a0.extract 0 1).size + ((⟨#[46]⟩ : ByteArray) ++ (a0.extract 1 a0.size)).size ≤ 9223372036854775807 then (num_science.j0 k a1 ((a0.extract 0 1) ++ ((⟨#[46]⟩ : ByteArray) ++ (a0.extract 1 a0.size)))) else (none)) else (none)) else (num_science.j0 k a1 (a0.extract 0 1))) else (none)) else (none)
set_option maxHeartbeats 8000000 in
set_option maxRecDepth 100000 in
theorem num_science.calls (k : Nat) (a0 : ByteArray) (a1 : Int) (r : ByteArray) (w : World) (hL : Laid w) (h : num_science.f k a0 a1 = some r) :
    Calls Tryd.prog 36 #[.string a0, .int .i64 a1] w fun e w' => e = .returned (.string r) ∧ Below w.heap.size w w' := by
  replace hL := Aside0.mk hL
  have HB := Aside0.mk (Below.refl w.heap.size w)
  have H : (if 0 ≤ 1 then (if 1 ≤ (a0.size : Int) then (if (a0.size : Int) > 1 then (if 1 + (a0.extract 1 a0.size).size ≤ 9223372036854775807 then (if (a0.extract 0 1).size + ((⟨#[46]⟩ : ByteArray) ++ (a0.extract 1 a0.size)).size ≤ 9223372036854775807 then (num_science.j0 k a1 ((a0.extract 0 1) ++ ((⟨#[46]⟩ : ByteArray) ++ (a0.extract 1 a0.size)))) else (none)) else (none)) else (num_science.j0 k a1 (a0.extract 0 1))) else (none)) else (none)) = some r := h
  clear h
  by_cases c3 : 0 ≤ 1
  · rw [if_pos c3] at H
    have c3b0 := eq_true c3
    have c3b1 : decide (0 ≤ 1) = true := decide_eq_true c3
    clear c3
    by_cases c4 : 1 ≤ (a0.size : Int)
    · rw [if_pos c4] at H
      have c4b0 := eq_true c4
      have c4b1 : decide (1 ≤ (a0.size : Int)) = true := decide_eq_true c4
      clear c4
      have HC5 := Aside0.mk H
      clear H
      go_enter Tryd.func36, Tryd.ntmps36
      go_upto_if 10 with (fail)
      go_cut [5] (fun v5 wc => ∃ (kq : Nat) (x5_4 : ByteArray), v5 = .string x5_4 ∧ Aside0 (num_science.j0 kq a1 x5_4 = some r) ∧ Aside0 (kq ≤ k) ∧ Aside0 (Below w.heap.size w wc))
      case first =>
        have H := HC5.out
        clear HC5
        by_cases c6 : (a0.size : Int) > 1
        · rw [if_pos c6] at H
          have c6b0 : decide (1 < (a0.size : Int)) = true := decide_eq_true c6
          have c6b1 : decide (1 < a0.size) = true := decide_eq_true (by omega)
          clear c6
          (first | rw [c6b0] | (simp only [i64_w, i32_w]; rw [c6b0]) | skip)
          have c7b0 := eq_true (of_decide_eq_true (by first | (with_reducible assumption) | assumption) : 1 ≤ (a0.size : Int))
          by_cases c8 : 1 + (a0.extract 1 a0.size).size ≤ 9223372036854775807
          · rw [if_pos c8] at H
            have c8b0 := eq_true c8
            have c8b1 : decide (1 + (a0.extract 1 a0.size).size ≤ 9223372036854775807) = true := decide_eq_true c8
            try have c8b2 : (9223372036854775807 < 1 + (a0.extract 1 a0.size).size) = False := eq_false (Nat.not_lt.2 c8)
            by_cases c9 : (a0.extract 0 1).size + ((⟨#[46]⟩ : ByteArray) ++ (a0.extract 1 a0.size)).size ≤ 9223372036854775807
            · rw [if_pos c9] at H
              have c9b0 := eq_true c9
              have c9b1 : decide ((a0.extract 0 1).size + ((⟨#[46]⟩ : ByteArray) ++ (a0.extract 1 a0.size)).size ≤ 9223372036854775807) = true := decide_eq_true c9
              try have c9b2 : (9223372036854775807 < (a0.extract 0 1).size + ((⟨#[46]⟩ : ByteArray) ++ (a0.extract 1 a0.size)).size) = False := eq_false (Nat.not_lt.2 c9)
              have H' := Aside0.mk H
              clear H
              go_wp2
              try (any_goals (with_reducible refine halt_absurd ?_; (try simp only [ByteArray.size_extract, ByteArray.size_append, ba_size_mk, List.size_toArray, List.length_cons, List.length_nil] at *) <;> omega))
              go_meet
              case rel => exact ⟨_, ((a0.extract 0 1) ++ ((⟨#[46]⟩ : ByteArray) ++ (a0.extract 1 a0.size))), (by first | rfl | (simp; done) | (simp [*]; done)), H', ⟨by first | omega | exact Nat.le_refl _⟩, ⟨by repeat (first | (with_reducible first | exact HB.out | apply below_alloc | apply pw_below_drewN | apply below_drew1) | exact HB.out)⟩⟩
            · rw [if_neg c9] at H
              exact absurd H (by simp)
          · rw [if_neg c8] at H
            exact absurd H (by simp)
        · rw [if_neg c6] at H
          have c6b0 : decide (1 < (a0.size : Int)) = false := decide_eq_false c6
          have c6b1 : decide (1 < a0.size) = false := decide_eq_false (by omega)
          clear c6
          (first | rw [c6b0] | (simp only [i64_w, i32_w]; rw [c6b0]) | skip)
          have H' := Aside0.mk H
          clear H
          go_wp2
          try (any_goals (with_reducible refine halt_absurd ?_; (try simp only [ByteArray.size_extract, ByteArray.size_append, ba_size_mk, List.size_toArray, List.length_cons, List.length_nil] at *) <;> omega))
          go_meet
          case rel => exact ⟨_, (a0.extract 0 1), (by first | rfl | (simp; done) | (simp [*]; done)), H', ⟨by first | omega | exact Nat.le_refl _⟩, ⟨by repeat (first | (with_reducible first | exact HB.out | apply below_alloc | apply pw_below_drewN | apply below_drew1) | exact HB.out)⟩⟩
      case rest =>
        clear HC5
        try clear p2
        try clear c3
        try clear c3b0
        try clear c3b1
        try clear c4
        try clear c4b0
        try clear c4b1
        try clear c6
        try clear c6b0
        try clear c6b1
        try clear c7
        try clear c7b0
        try clear c8
        try clear c8b0
        try clear c8b1
        try clear c8b2
        try clear c9
        try clear c9b0
        try clear c9b1
        try clear c9b2
        obtain ⟨kq, x5_4, rfl, HA, HJ4, HB⟩ := hcut
        cases kq with
        | zero => exact absurd HA.out (by simp [num_science.j0])
        | succ kj4 =>
          have H := HA.out
          clear HA
          simp only [num_science.j0] at H
          by_cases c10 : a1 > 0
          · rw [if_pos c10] at H
            have c10b0 : decide (0 < a1) = true := decide_eq_true c10
            clear c10
            by_cases c11 : x5_4.size + 2 ≤ 9223372036854775807
            · rw [if_pos c11] at H
              have c11b0 := eq_true c11
              have c11b1 : decide (x5_4.size + 2 ≤ 9223372036854775807) = true := decide_eq_true c11
              try have c11b2 : (9223372036854775807 < x5_4.size + 2) = False := eq_false (Nat.not_lt.2 c11)
              replace H := Option.bind_eq_some_iff.mp H
              obtain ⟨t201, A120, H⟩ := H
              replace H : (if (x5_4 ++ (⟨#[101, 43]⟩ : ByteArray)).size + t201.size ≤ 9223372036854775807 then (some ((x5_4 ++ (⟨#[101, 43]⟩ : ByteArray)) ++ t201)) else (none)) = some r := H
              have A12 := Aside0.mk A120
              clear A120
              by_cases c13 : (x5_4 ++ (⟨#[101, 43]⟩ : ByteArray)).size + t201.size ≤ 9223372036854775807
              · rw [if_pos c13] at H
                have c13b0 := eq_true c13
                have c13b1 : decide ((x5_4 ++ (⟨#[101, 43]⟩ : ByteArray)).size + t201.size ≤ 9223372036854775807) = true := decide_eq_true c13
                try have c13b2 : (9223372036854775807 < (x5_4 ++ (⟨#[101, 43]⟩ : ByteArray)).size + t201.size) = False := eq_false (Nat.not_lt.2 c13)
                obtain rfl := Option.some.inj H
                go_wp2_with (first | ((with_reducible refine gate_callee (f := 62) rfl ?_); refine goesL_ (some 22) rfl rfl Tryd.func62 (by kernel_rfl) rfl #[.int .i64 (wrap64 (a1 - 1))] rfl (by (try simp only [List.map_toArray, List.map_cons, List.map_nil]); first | done | rfl | (simp only [List.length_drop, List.length_take]; rfl)) ?_; (with_reducible refine (strconv_Itoa_62.calls (wrap64 (a1 - 1)) t201 _ ?side1 A12.out).mono ?_); (case side1 => first | exact hL.out | exact hL.out.drewN _ | exact hL.out.drew | exact hL.out.below (by repeat (first | (with_reducible first | exact HB.out | apply below_alloc | apply pw_below_drewN | apply below_drew1) | exact HB.out))); rintro e w14 ⟨rfl, hb⟩; refine ⟨_, rfl, ?_⟩; have n0_ := Aside0.mk (below_step (by repeat (first | (with_reducible first | exact HB.out | apply below_alloc | apply pw_below_drewN | apply below_drew1) | exact HB.out)) hb); clear HB; have HB := n0_; clear n0_; (try clear hb); (try clear hb2); (try clear hk); (try clear hi)))
                try (any_goals (with_reducible refine halt_absurd ?_; (try simp only [ByteArray.size_extract, ByteArray.size_append, ba_size_mk, List.size_toArray, List.length_cons, List.length_nil] at *) <;> omega))
                go_ret
                exact ⟨by first | rfl | (simp [errW_none, errW_some] <;> rfl) | (simp [*, errW_none, errW_some] <;> rfl), by repeat (first | (with_reducible first | exact HB.out | apply below_alloc | apply pw_below_drewN | apply below_drew1) | exact HB.out)⟩
              · rw [if_neg c13] at H
                exact absurd H (by simp)
            · rw [if_neg c11] at H
              exact absurd H (by simp)
          · rw [if_neg c10] at H
            have c10b0 : decide (0 < a1) = false := decide_eq_false c10
            clear c10
            by_cases c15 : x5_4.size + 2 ≤ 9223372036854775807
            · rw [if_pos c15] at H
              have c15b0 := eq_true c15
              have c15b1 : decide (x5_4.size + 2 ≤ 9223372036854775807) = true := decide_eq_true c15
              try have c15b2 : (9223372036854775807 < x5_4.size + 2) = False := eq_false (Nat.not_lt.2 c15)
              replace H := Option.bind_eq_some_iff.mp H
              obtain ⟨t202, A160, H⟩ := H
              replace H : (if (x5_4 ++ (⟨#[101, 45]⟩ : ByteArray)).size + t202.size ≤ 9223372036854775807 then (some ((x5_4 ++ (⟨#[101, 45]⟩ : ByteArray)) ++ t202)) else (none)) = some r := H
              have A16 := Aside0.mk A160
              clear A160
              by_cases c17 : (x5_4 ++ (⟨#[101, 45]⟩ : ByteArray)).size + t202.size ≤ 9223372036854775807
              · rw [if_pos c17] at H
                have c17b0 := eq_true c17
                have c17b1 : decide ((x5_4 ++ (⟨#[101, 45]⟩ : ByteArray)).size + t202.size ≤ 9223372036854775807) = true := decide_eq_true c17
                try have c17b2 : (9223372036854775807 < (x5_4 ++ (⟨#[101, 45]⟩ : ByteArray)).size + t202.size) = False := eq_false (Nat.not_lt.2 c17)
                obtain rfl := Option.some.inj H
                go_wp2_with (first | ((with_reducible refine gate_callee (f := 62) rfl ?_); refine goesL_ (some 28) rfl rfl Tryd.func62 (by kernel_rfl) rfl #[.int .i64 (wrap64 (1 - a1))] rfl (by (try simp only [List.map_toArray, List.map_cons, List.map_nil]); first | done | rfl | (simp only [List.length_drop, List.length_take]; rfl)) ?_; (with_reducible refine (strconv_Itoa_62.calls (wrap64 (1 - a1)) t202 _ ?side1 A16.out).mono ?_); (case side1 => first | exact hL.out | exact hL.out.drewN _ | exact hL.out.drew | exact hL.out.below (by repeat (first | (with_reducible first | exact HB.out | apply below_alloc | apply pw_below_drewN | apply below_drew1) | exact HB.out))); rintro e w18 ⟨rfl, hb⟩; refine ⟨_, rfl, ?_⟩; have n0_ := Aside0.mk (below_step (by repeat (first | (with_reducible first | exact HB.out | apply below_alloc | apply pw_below_drewN | apply below_drew1) | exact HB.out)) hb); clear HB; have HB := n0_; clear n0_; (try clear hb); (try clear hb2); (try clear hk); (try clear hi)))
                try (any_goals (with_reducible refine halt_absurd ?_; (try simp only [ByteArray.size_extract, ByteArray.size_append, ba_size_mk, List.size_toArray, List.length_cons, List.length_nil] at *) <;> omega))
                go_ret
                exact ⟨by first | rfl | (simp [errW_none, errW_some] <;> rfl) | (simp [*, errW_none, errW_some] <;> rfl), by repeat (first | (with_reducible first | exact HB.out | apply below_alloc | apply pw_below_drewN | apply below_drew1) | exact HB.out)⟩
              · rw [if_neg c17] at H
                exact absurd H (by simp)
            · rw [if_neg c15] at H
              exact absurd H (by simp)
    · rw [if_neg c4] at H
      exact absurd H (by simp)
  · rw [if_neg c3] at H
    exact absurd H (by simp)

end Go.Proofs.YtmkdcokdilllcaaDoor.X
-- A walk, written by a program of this session (xp.py).
namespace Go.Proofs.YtmkdcokdilllcaaDoor.X
open Go.RowKit Go.Proofs.YtmkdcokdilllcaaDoorW.PrintWords Go.Proofs.YtmkdcokdilllcaaDoorW.PrintLast Go.Proofs.YtmkdcokdilllcaaDoorW.PrintMore
attribute [local go_sem] max2_int min2_int max_two min_two max_three min_three max_four min_four
set_option linter.unusedVariables false
set_option linter.unusedSimpArgs false

/-! ### num_Text: function 14 -/
mutual
def num_Text.j0 : Nat → ByteArray → Int → ByteArray → Bool → List Int → Int → Option (ByteArray)
  | 0, _, _, _, _, _, _ => none
  | k + 1, x3, x4, x5, x204000, x204001, x204002 => if x204002 ≥ 0 then (num_Text.j1 k x3 x4 x5 (decide (x4 ≤ 21)) x204000 x204001 x204002) else (num_Text.j1 k x3 x4 x5 false x204000 x204001 x204002)
def num_Text.j1 : Nat → ByteArray → Int → ByteArray → Bool → Bool → List Int → Int → Option (ByteArray)
  | 0, _, _, _, _, _, _, _ => none
  | k + 1, x3, x4, x5, x18, x204000, x204001, x204002 => if x18 = true then (if x5.size + x3.size ≤ 9223372036854775807 then ((strings_Repeat.f (⟨#[48]⟩ : ByteArray) x204002).bind fun t210 => (if (x5 ++ x3).size + t210.size ≤ 9223372036854775807 then (some ((x5 ++ x3) ++ t210)) else (none))) else (none)) else (if x204002 < 0 then (if x4 ≥ 1 then (num_Text.j2 k x3 x4 x5 (decide (x4 ≤ 21))) else (num_Text.j2 k x3 x4 x5 false)) else (num_Text.j2 k x3 x4 x5 false))
def num_Text.j2 : Nat → ByteArray → Int → ByteArray → Bool → Option (ByteArray)
  | 0, _, _, _, _ => none
  | k + 1, x3, x4, x5, x33 => if x33 = true then (if 0 ≤ x4 then (if x4 ≤ (x3.size : Int) then (if x5.size + (x3.extract 0 (x4 : Int).toNat).size ≤ 9223372036854775807 then (if (x5 ++ (x3.extract 0 (x4 : Int).toNat)).size + 1 ≤ 9223372036854775807 then (if ((x5 ++ (x3.extract 0 (x4 : Int).toNat)) ++ (⟨#[46]⟩ : ByteArray)).size + (x3.extract (x4 : Int).toNat x3.size).size ≤ 9223372036854775807 then (some (((x5 ++ (x3.extract 0 (x4 : Int).toNat)) ++ (⟨#[46]⟩ : ByteArray)) ++ (x3.extract (x4 : Int).toNat x3.size))) else (none)) else (none)) else (none)) else (none)) else (none)) else (if x4 ≥ (-5) then (num_Text.j3 k x3 x4 x5 (decide (x4 ≤ 0))) else (num_Text.j3 k x3 x4 x5 false))
def num_Text.j3 : Nat → ByteArray → Int → ByteArray → Bool → Option (ByteArray)
  | 0, _, _, _, _ => none
  | k + 1, x3, x4, x5, x55 => if x55 = true then (if x5.size + 2 ≤ 9223372036854775807 then ((strings_Repeat.f (⟨#[48]⟩ : ByteArray) (wrap64 (-x4))).bind fun t211 => (if (x5 ++ (⟨#[48, 46]⟩ : ByteArray)).size + t211.size ≤ 9223372036854775807 then (if ((x5 ++ (⟨#[48, 46]⟩ : ByteArray)) ++ t211).size + x3.size ≤ 9223372036854775807 then (some (((x5 ++ (⟨#[48, 46]⟩ : ByteArray)) ++ t211) ++ x3)) else (none)) else (none))) else (none)) else ((num_science.f k x3 x4).bind fun t212 => (if x5.size + t212.size ≤ 9223372036854775807 then (some (x5 ++ t212)) else (none)))
end
def num_Text.f (k : Nat) (a0_0 : Bool) (l0_1 : List Int) (a0_2 : Int) : Option (ByteArray) := (num_of.f k a0_0 l0_1 a0_2).bind fun bt204 => ((nat_Digits.f bt204.2.1).bind fun t209 => (if bt204.1 = true then (num_Text.j0 k t209 (wrap64 ((t209.size : Int) + bt204.2.2)) (⟨#[45]⟩ : ByteArray) bt204.1 bt204.2.1 bt204.2.2) else (num_Text.j0 k t209 (wrap64 ((t209.size : Int) + bt204.2.2)) (⟨#[]⟩ : ByteArray) bt204.1 bt204.2.1 bt204.2.2)))
set_option maxHeartbeats 8000000 in
set_option maxRecDepth 100000 in
theorem num_Text.calls (k : Nat) (a0_0 : Bool) (A0_1 : Option Addr) (c0_1 : Nat) (l0_1 : List Int) (a0_2 : Int) (r : ByteArray) (w : World) (hL : Laid w) (hr0_1 : Kd.C (Kd.int .u32) w A0_1 l0_1.length l0_1) (hc0_1 : l0_1.length ≤ c0_1) (h : num_Text.f k a0_0 l0_1 a0_2 = some r) :
    Calls Tryd.prog 14 #[.agg #[.bool a0_0, .slice A0_1 l0_1.length c0_1, .int .i64 a0_2]] w fun e w' => e = .returned (.string r) ∧ Below w.heap.size w w' := by
  replace hL := Aside0.mk hL
  have hu25 := Tryd.underlying25
  have HR0_1 := Aside0.mk hr0_1
  have HC0_1 := Aside0.mk hc0_1
  clear hr0_1 hc0_1
  have HB := Aside0.mk (Below.refl w.heap.size w)
  have H : ((num_of.f k a0_0 l0_1 a0_2).bind fun bt204 => ((nat_Digits.f bt204.2.1).bind fun t209 => (if bt204.1 = true then (num_Text.j0 k t209 (wrap64 ((t209.size : Int) + bt204.2.2)) (⟨#[45]⟩ : ByteArray) bt204.1 bt204.2.1 bt204.2.2) else (num_Text.j0 k t209 (wrap64 ((t209.size : Int) + bt204.2.2)) (⟨#[]⟩ : ByteArray) bt204.1 bt204.2.1 bt204.2.2)))) = some r := h
  clear h
  replace H := Option.bind_eq_some_iff.mp H
  obtain ⟨⟨t204, t205, t208⟩, A20, H⟩ := H
  replace H : ((nat_Digits.f t205).bind fun t209 => (if t204 = true then (num_Text.j0 k t209 (wrap64 ((t209.size : Int) + t208)) (⟨#[45]⟩ : ByteArray) t204 t205 t208) else (num_Text.j0 k t209 (wrap64 ((t209.size : Int) + t208)) (⟨#[]⟩ : ByteArray) t204 t205 t208))) = some r := H
  have A2 := Aside0.mk A20
  clear A20
  replace H := Option.bind_eq_some_iff.mp H
  obtain ⟨t209, A30, H⟩ := H
  replace H : (if t204 = true then (num_Text.j0 k t209 (wrap64 ((t209.size : Int) + t208)) (⟨#[45]⟩ : ByteArray) t204 t205 t208) else (num_Text.j0 k t209 (wrap64 ((t209.size : Int) + t208)) (⟨#[]⟩ : ByteArray) t204 t205 t208)) = some r := H
  have A3 := Aside0.mk A30
  clear A30
  have HC4 := Aside0.mk H
  clear H
  go_enter Tryd.func14, Tryd.ntmps14
  go_upto_if 17 with (first | ((with_reducible refine gate_dst (N := 1) rfl ?_); refine box_event ?hg (N := 1) ?hd (cs := #[.bool a0_0, .slice A0_1 l0_1.length c0_1, .int .i64 a0_2]) (t := 25) ?hr ?_; (case hd => rfl); (case hg => rfl); (case hr => first | (go_simp; done) | (go_simp; rfl) | (go_simp; simp only [x_u32u8, x_u8, x_u32, x_u64, x_mm]; first | done | rfl)); intro gb203 hg w5 hbox hb; have n0_ := Aside0.mk (below_step (by repeat (first | (with_reducible first | exact HB.out | apply below_alloc | apply pw_below_drewN | apply below_drew1) | exact HB.out)) hb); have n1_ := Aside0.mk (hbox); have n2_ := Aside0.mk ((by rw [hg]; exact (below_size (by repeat (first | (with_reducible first | exact HB.out | apply below_alloc | apply pw_below_drewN | apply below_drew1) | exact HB.out))) : w.heap.size ≤ gb203)); have n3_ := Aside0.mk ((by rw [hg]; exact (below_size (by repeat (first | (with_reducible first | exact HB.out | apply below_alloc | apply pw_below_drewN | apply below_drew1) | exact HB.out))) : w.heap.size ≤ gb203)); clear HB; have HB := n0_; have BK203 := n1_; have GW203 := n2_; have GE203 := n3_; clear n0_ n1_ n2_ n3_; clear hb hbox hg; have hcz6_0 : w5.cell? ⟨gb203, 0, none⟩ = some (.bool a0_0) := (blk_cell BK203.out 0).trans rfl; have hcz6_1 : w5.cell? ⟨gb203, 1, none⟩ = some (.slice A0_1 l0_1.length c0_1) := (blk_cell BK203.out 1).trans rfl; have hcz6_2 : w5.cell? ⟨gb203, 2, none⟩ = some (.int .i64 a0_2) := (blk_cell BK203.out 2).trans rfl; have hfz6_0 := blk_frozen BK203.out 0; have hfz6_1 := blk_frozen BK203.out 1; have hfz6_2 := blk_frozen BK203.out 2) | (go_at_call 33; (with_reducible refine (num_of.calls k a0_0 (fun k_ => k_ < w.heap.size) _ _ l0_1 a0_2 t204 t205 t208 _ ?side1 A2.out).mono ?_); (case side1 => exact Kd.V_mk HC0_1.out (Kd.F_below (Kd.C_F (Kd.heap_int .u32) HR0_1.out) (by repeat (first | (with_reducible first | exact HB.out | apply below_alloc | apply pw_below_drewN | apply below_drew1 | refine below_set ?_ GE203.out) | exact HB.out)))); rintro e w7 ⟨v206, rfl, ho0, hb⟩; have n0_ := Aside0.mk (Kd.V_lower (Kd.V_mono (ok' := fun k_ => k_ ≠ gb203) ho0 (fun k_ hk_ => Or.elim hk_ (fun hs_ => fun e_ => Nat.not_le.2 hs_ (by rw [e_]; exact GW203.out)) (fun hn_ => (Kd.freshB (g := gb203) (o := .cells #[.bool a0_0, .slice A0_1 l0_1.length c0_1, .int .i64 a0_2] 25 (0, 0)) (by (with_reducible repeat (first | refine blk_drewN ?_ _ | refine blk_drew ?_ | refine blk_alloc ?_ _)); exact BK203.out) k_ hn_)))) (below_size (by repeat (first | (with_reducible first | exact HB.out | apply below_alloc | apply pw_below_drewN | apply below_drew1 | refine below_set ?_ GE203.out) | exact HB.out)))); have n1_ := Aside0.mk (blk_below (g := gb203) (o := .cells #[.bool a0_0, .slice A0_1 l0_1.length c0_1, .int .i64 a0_2] 25 (0, 0)) (by (with_reducible repeat (first | refine blk_drewN ?_ _ | refine blk_drew ?_ | refine blk_alloc ?_ _)); exact BK203.out) hb); have n2_ := Aside0.mk (below_step (by repeat (first | (with_reducible first | exact HB.out | apply below_alloc | apply pw_below_drewN | apply below_drew1 | refine below_set ?_ GE203.out) | exact HB.out)) hb); clear BK203; clear HB; have HO207 := n0_; have BK203 := n1_; have HB := n2_; clear n0_ n1_ n2_; (try clear hb); (try clear hb2); (try clear hk); (try clear hi); (try clear ho0); have hcz8_0 : w7.cell? ⟨gb203, 0, none⟩ = some (.bool a0_0) := (blk_cell BK203.out 0).trans rfl; have hcz8_1 : w7.cell? ⟨gb203, 1, none⟩ = some (.slice A0_1 l0_1.length c0_1) := (blk_cell BK203.out 1).trans rfl; have hcz8_2 : w7.cell? ⟨gb203, 2, none⟩ = some (.int .i64 a0_2) := (blk_cell BK203.out 2).trans rfl; have hfz8_0 := blk_frozen BK203.out 0; have hfz8_1 := blk_frozen BK203.out 1; have hfz8_2 := blk_frozen BK203.out 2; obtain ⟨Ao9, co9, eo9⟩ := Kd.V_slice HO207.out; subst eo9) | (go_at_call 34; (with_reducible refine (nat_Digits.calls _ _ t205 t209 _ ?side1 ?side2 A3.out).mono ?_); (case side1 => refine (Kd.V_reads' (e := 40) (base := w.heap.size) (ok := fun k_ => k_ ≠ gb203) (n := t205.length) (c := co9) ?_).2.2; exact (by (with_reducible repeat (first | apply Kd.V_alloc | apply Kd.V_drewN | apply Kd.V_drew)); exact (Kd.V_mono (Kd.V_far (p := ⟨gb203, 2, none⟩) (Kd.V_far (p := ⟨gb203, 1, none⟩) (Kd.V_far (p := ⟨gb203, 0, none⟩) (Kd.V_mono HO207.out (fun k_ hk => (⟨hk, hk⟩ : _ ∧ k_ ≠ gb203))) (fun _ hk => hk.2) (.bool t204)) (fun _ hk => hk.2) (.slice Ao9 t205.length co9)) (fun _ hk => hk.2) (.int .i64 t208)) (fun _ h_ => h_.1)))); (case side2 => exact (Kd.V_reads' HO207.out).2.1); rintro e w10 ⟨rfl, hb⟩; have n0_ := Aside0.mk (Kd.V_below (by (with_reducible repeat (first | apply Kd.V_alloc | apply Kd.V_drewN | apply Kd.V_drew)); exact (Kd.V_mono (Kd.V_far (p := ⟨gb203, 2, none⟩) (Kd.V_far (p := ⟨gb203, 1, none⟩) (Kd.V_far (p := ⟨gb203, 0, none⟩) (Kd.V_mono HO207.out (fun k_ hk => (⟨hk, hk⟩ : _ ∧ k_ ≠ gb203))) (fun _ hk => hk.2) (.bool t204)) (fun _ hk => hk.2) (.slice Ao9 t205.length co9)) (fun _ hk => hk.2) (.int .i64 t208)) (fun _ h_ => h_.1))) hb); have n1_ := Aside0.mk (blk_below (g := gb203) (o := .cells #[.bool t204, .slice Ao9 t205.length co9, .int .i64 t208] 25 (0, 0)) (by (with_reducible repeat (first | refine blk_drewN ?_ _ | refine blk_drew ?_ | refine blk_alloc ?_ _)); refine blk_put (cs := #[.bool t204, .slice Ao9 t205.length co9, .int .i64 a0_2]) ?_ 2 _ rfl; (with_reducible repeat (first | refine blk_drewN ?_ _ | refine blk_drew ?_ | refine blk_alloc ?_ _)); refine blk_put (cs := #[.bool t204, .slice A0_1 l0_1.length c0_1, .int .i64 a0_2]) ?_ 1 _ rfl; (with_reducible repeat (first | refine blk_drewN ?_ _ | refine blk_drew ?_ | refine blk_alloc ?_ _)); refine blk_put (cs := #[.bool a0_0, .slice A0_1 l0_1.length c0_1, .int .i64 a0_2]) ?_ 0 _ rfl; (with_reducible repeat (first | refine blk_drewN ?_ _ | refine blk_drew ?_ | refine blk_alloc ?_ _)); exact BK203.out) hb); have n2_ := Aside0.mk (below_step (by repeat (first | (with_reducible first | exact HB.out | apply below_alloc | apply pw_below_drewN | apply below_drew1 | refine below_set ?_ GE203.out) | exact HB.out)) hb); clear HO207; clear BK203; clear HB; have HO207 := n0_; have BK203 := n1_; have HB := n2_; clear n0_ n1_ n2_; (try clear hb); (try clear hb2); (try clear hk); (try clear hi); have hcz11_0 : w10.cell? ⟨gb203, 0, none⟩ = some (.bool t204) := (blk_cell BK203.out 0).trans rfl; have hcz11_1 : w10.cell? ⟨gb203, 1, none⟩ = some (.slice Ao9 t205.length co9) := (blk_cell BK203.out 1).trans rfl; have hcz11_2 : w10.cell? ⟨gb203, 2, none⟩ = some (.int .i64 t208) := (blk_cell BK203.out 2).trans rfl; have hfz11_0 := blk_frozen BK203.out 0; have hfz11_1 := blk_frozen BK203.out 1; have hfz11_2 := blk_frozen BK203.out 2))
  repeat (go_quiet (first | ((with_reducible refine gate_dst (N := 1) rfl ?_); refine box_event ?hg (N := 1) ?hd (cs := #[.bool a0_0, .slice A0_1 l0_1.length c0_1, .int .i64 a0_2]) (t := 25) ?hr ?_; (case hd => rfl); (case hg => rfl); (case hr => first | (go_simp; done) | (go_simp; rfl) | (go_simp; simp only [x_u32u8, x_u8, x_u32, x_u64, x_mm]; first | done | rfl)); intro gb203 hg w5 hbox hb; have n0_ := Aside0.mk (below_step (by repeat (first | (with_reducible first | exact HB.out | apply below_alloc | apply pw_below_drewN | apply below_drew1) | exact HB.out)) hb); have n1_ := Aside0.mk (hbox); have n2_ := Aside0.mk ((by rw [hg]; exact (below_size (by repeat (first | (with_reducible first | exact HB.out | apply below_alloc | apply pw_below_drewN | apply below_drew1) | exact HB.out))) : w.heap.size ≤ gb203)); have n3_ := Aside0.mk ((by rw [hg]; exact (below_size (by repeat (first | (with_reducible first | exact HB.out | apply below_alloc | apply pw_below_drewN | apply below_drew1) | exact HB.out))) : w.heap.size ≤ gb203)); clear HB; have HB := n0_; have BK203 := n1_; have GW203 := n2_; have GE203 := n3_; clear n0_ n1_ n2_ n3_; clear hb hbox hg; have hcz6_0 : w5.cell? ⟨gb203, 0, none⟩ = some (.bool a0_0) := (blk_cell BK203.out 0).trans rfl; have hcz6_1 : w5.cell? ⟨gb203, 1, none⟩ = some (.slice A0_1 l0_1.length c0_1) := (blk_cell BK203.out 1).trans rfl; have hcz6_2 : w5.cell? ⟨gb203, 2, none⟩ = some (.int .i64 a0_2) := (blk_cell BK203.out 2).trans rfl; have hfz6_0 := blk_frozen BK203.out 0; have hfz6_1 := blk_frozen BK203.out 1; have hfz6_2 := blk_frozen BK203.out 2) | (go_at_call 33; (with_reducible refine (num_of.calls k a0_0 (fun k_ => k_ < w.heap.size) _ _ l0_1 a0_2 t204 t205 t208 _ ?side1 A2.out).mono ?_); (case side1 => exact Kd.V_mk HC0_1.out (Kd.F_below (Kd.C_F (Kd.heap_int .u32) HR0_1.out) (by repeat (first | (with_reducible first | exact HB.out | apply below_alloc | apply pw_below_drewN | apply below_drew1 | refine below_set ?_ GE203.out) | exact HB.out)))); rintro e w7 ⟨v206, rfl, ho0, hb⟩; have n0_ := Aside0.mk (Kd.V_lower (Kd.V_mono (ok' := fun k_ => k_ ≠ gb203) ho0 (fun k_ hk_ => Or.elim hk_ (fun hs_ => fun e_ => Nat.not_le.2 hs_ (by rw [e_]; exact GW203.out)) (fun hn_ => (Kd.freshB (g := gb203) (o := .cells #[.bool a0_0, .slice A0_1 l0_1.length c0_1, .int .i64 a0_2] 25 (0, 0)) (by (with_reducible repeat (first | refine blk_drewN ?_ _ | refine blk_drew ?_ | refine blk_alloc ?_ _)); exact BK203.out) k_ hn_)))) (below_size (by repeat (first | (with_reducible first | exact HB.out | apply below_alloc | apply pw_below_drewN | apply below_drew1 | refine below_set ?_ GE203.out) | exact HB.out)))); have n1_ := Aside0.mk (blk_below (g := gb203) (o := .cells #[.bool a0_0, .slice A0_1 l0_1.length c0_1, .int .i64 a0_2] 25 (0, 0)) (by (with_reducible repeat (first | refine blk_drewN ?_ _ | refine blk_drew ?_ | refine blk_alloc ?_ _)); exact BK203.out) hb); have n2_ := Aside0.mk (below_step (by repeat (first | (with_reducible first | exact HB.out | apply below_alloc | apply pw_below_drewN | apply below_drew1 | refine below_set ?_ GE203.out) | exact HB.out)) hb); clear BK203; clear HB; have HO207 := n0_; have BK203 := n1_; have HB := n2_; clear n0_ n1_ n2_; (try clear hb); (try clear hb2); (try clear hk); (try clear hi); (try clear ho0); have hcz8_0 : w7.cell? ⟨gb203, 0, none⟩ = some (.bool a0_0) := (blk_cell BK203.out 0).trans rfl; have hcz8_1 : w7.cell? ⟨gb203, 1, none⟩ = some (.slice A0_1 l0_1.length c0_1) := (blk_cell BK203.out 1).trans rfl; have hcz8_2 : w7.cell? ⟨gb203, 2, none⟩ = some (.int .i64 a0_2) := (blk_cell BK203.out 2).trans rfl; have hfz8_0 := blk_frozen BK203.out 0; have hfz8_1 := blk_frozen BK203.out 1; have hfz8_2 := blk_frozen BK203.out 2; obtain ⟨Ao9, co9, eo9⟩ := Kd.V_slice HO207.out; subst eo9) | (go_at_call 34; (with_reducible refine (nat_Digits.calls _ _ t205 t209 _ ?side1 ?side2 A3.out).mono ?_); (case side1 => refine (Kd.V_reads' (e := 40) (base := w.heap.size) (ok := fun k_ => k_ ≠ gb203) (n := t205.length) (c := co9) ?_).2.2; exact (by (with_reducible repeat (first | apply Kd.V_alloc | apply Kd.V_drewN | apply Kd.V_drew)); exact (Kd.V_mono (Kd.V_far (p := ⟨gb203, 2, none⟩) (Kd.V_far (p := ⟨gb203, 1, none⟩) (Kd.V_far (p := ⟨gb203, 0, none⟩) (Kd.V_mono HO207.out (fun k_ hk => (⟨hk, hk⟩ : _ ∧ k_ ≠ gb203))) (fun _ hk => hk.2) (.bool t204)) (fun _ hk => hk.2) (.slice Ao9 t205.length co9)) (fun _ hk => hk.2) (.int .i64 t208)) (fun _ h_ => h_.1)))); (case side2 => exact (Kd.V_reads' HO207.out).2.1); rintro e w10 ⟨rfl, hb⟩; have n0_ := Aside0.mk (Kd.V_below (by (with_reducible repeat (first | apply Kd.V_alloc | apply Kd.V_drewN | apply Kd.V_drew)); exact (Kd.V_mono (Kd.V_far (p := ⟨gb203, 2, none⟩) (Kd.V_far (p := ⟨gb203, 1, none⟩) (Kd.V_far (p := ⟨gb203, 0, none⟩) (Kd.V_mono HO207.out (fun k_ hk => (⟨hk, hk⟩ : _ ∧ k_ ≠ gb203))) (fun _ hk => hk.2) (.bool t204)) (fun _ hk => hk.2) (.slice Ao9 t205.length co9)) (fun _ hk => hk.2) (.int .i64 t208)) (fun _ h_ => h_.1))) hb); have n1_ := Aside0.mk (blk_below (g := gb203) (o := .cells #[.bool t204, .slice Ao9 t205.length co9, .int .i64 t208] 25 (0, 0)) (by (with_reducible repeat (first | refine blk_drewN ?_ _ | refine blk_drew ?_ | refine blk_alloc ?_ _)); refine blk_put (cs := #[.bool t204, .slice Ao9 t205.length co9, .int .i64 a0_2]) ?_ 2 _ rfl; (with_reducible repeat (first | refine blk_drewN ?_ _ | refine blk_drew ?_ | refine blk_alloc ?_ _)); refine blk_put (cs := #[.bool t204, .slice A0_1 l0_1.length c0_1, .int .i64 a0_2]) ?_ 1 _ rfl; (with_reducible repeat (first | refine blk_drewN ?_ _ | refine blk_drew ?_ | refine blk_alloc ?_ _)); refine blk_put (cs := #[.bool a0_0, .slice A0_1 l0_1.length c0_1, .int .i64 a0_2]) ?_ 0 _ rfl; (with_reducible repeat (first | refine blk_drewN ?_ _ | refine blk_drew ?_ | refine blk_alloc ?_ _)); exact BK203.out) hb); have n2_ := Aside0.mk (below_step (by repeat (first | (with_reducible first | exact HB.out | apply below_alloc | apply pw_below_drewN | apply below_drew1 | refine below_set ?_ GE203.out) | exact HB.out)) hb); clear HO207; clear BK203; clear HB; have HO207 := n0_; have BK203 := n1_; have HB := n2_; clear n0_ n1_ n2_; (try clear hb); (try clear hb2); (try clear hk); (try clear hi); have hcz11_0 : w10.cell? ⟨gb203, 0, none⟩ = some (.bool t204) := (blk_cell BK203.out 0).trans rfl; have hcz11_1 : w10.cell? ⟨gb203, 1, none⟩ = some (.slice Ao9 t205.length co9) := (blk_cell BK203.out 1).trans rfl; have hcz11_2 : w10.cell? ⟨gb203, 2, none⟩ = some (.int .i64 t208) := (blk_cell BK203.out 2).trans rfl; have hfz11_0 := blk_frozen BK203.out 0; have hfz11_1 := blk_frozen BK203.out 1; have hfz11_2 := blk_frozen BK203.out 2)); go_upto_if 17 with (first | ((with_reducible refine gate_dst (N := 1) rfl ?_); refine box_event ?hg (N := 1) ?hd (cs := #[.bool a0_0, .slice A0_1 l0_1.length c0_1, .int .i64 a0_2]) (t := 25) ?hr ?_; (case hd => rfl); (case hg => rfl); (case hr => first | (go_simp; done) | (go_simp; rfl) | (go_simp; simp only [x_u32u8, x_u8, x_u32, x_u64, x_mm]; first | done | rfl)); intro gb203 hg w5 hbox hb; have n0_ := Aside0.mk (below_step (by repeat (first | (with_reducible first | exact HB.out | apply below_alloc | apply pw_below_drewN | apply below_drew1) | exact HB.out)) hb); have n1_ := Aside0.mk (hbox); have n2_ := Aside0.mk ((by rw [hg]; exact (below_size (by repeat (first | (with_reducible first | exact HB.out | apply below_alloc | apply pw_below_drewN | apply below_drew1) | exact HB.out))) : w.heap.size ≤ gb203)); have n3_ := Aside0.mk ((by rw [hg]; exact (below_size (by repeat (first | (with_reducible first | exact HB.out | apply below_alloc | apply pw_below_drewN | apply below_drew1) | exact HB.out))) : w.heap.size ≤ gb203)); clear HB; have HB := n0_; have BK203 := n1_; have GW203 := n2_; have GE203 := n3_; clear n0_ n1_ n2_ n3_; clear hb hbox hg; have hcz6_0 : w5.cell? ⟨gb203, 0, none⟩ = some (.bool a0_0) := (blk_cell BK203.out 0).trans rfl; have hcz6_1 : w5.cell? ⟨gb203, 1, none⟩ = some (.slice A0_1 l0_1.length c0_1) := (blk_cell BK203.out 1).trans rfl; have hcz6_2 : w5.cell? ⟨gb203, 2, none⟩ = some (.int .i64 a0_2) := (blk_cell BK203.out 2).trans rfl; have hfz6_0 := blk_frozen BK203.out 0; have hfz6_1 := blk_frozen BK203.out 1; have hfz6_2 := blk_frozen BK203.out 2) | (go_at_call 33; (with_reducible refine (num_of.calls k a0_0 (fun k_ => k_ < w.heap.size) _ _ l0_1 a0_2 t204 t205 t208 _ ?side1 A2.out).mono ?_); (case side1 => exact Kd.V_mk HC0_1.out (Kd.F_below (Kd.C_F (Kd.heap_int .u32) HR0_1.out) (by repeat (first | (with_reducible first | exact HB.out | apply below_alloc | apply pw_below_drewN | apply below_drew1 | refine below_set ?_ GE203.out) | exact HB.out)))); rintro e w7 ⟨v206, rfl, ho0, hb⟩; have n0_ := Aside0.mk (Kd.V_lower (Kd.V_mono (ok' := fun k_ => k_ ≠ gb203) ho0 (fun k_ hk_ => Or.elim hk_ (fun hs_ => fun e_ => Nat.not_le.2 hs_ (by rw [e_]; exact GW203.out)) (fun hn_ => (Kd.freshB (g := gb203) (o := .cells #[.bool a0_0, .slice A0_1 l0_1.length c0_1, .int .i64 a0_2] 25 (0, 0)) (by (with_reducible repeat (first | refine blk_drewN ?_ _ | refine blk_drew ?_ | refine blk_alloc ?_ _)); exact BK203.out) k_ hn_)))) (below_size (by repeat (first | (with_reducible first | exact HB.out | apply below_alloc | apply pw_below_drewN | apply below_drew1 | refine below_set ?_ GE203.out) | exact HB.out)))); have n1_ := Aside0.mk (blk_below (g := gb203) (o := .cells #[.bool a0_0, .slice A0_1 l0_1.length c0_1, .int .i64 a0_2] 25 (0, 0)) (by (with_reducible repeat (first | refine blk_drewN ?_ _ | refine blk_drew ?_ | refine blk_alloc ?_ _)); exact BK203.out) hb); have n2_ := Aside0.mk (below_step (by repeat (first | (with_reducible first | exact HB.out | apply below_alloc | apply pw_below_drewN | apply below_drew1 | refine below_set ?_ GE203.out) | exact HB.out)) hb); clear BK203; clear HB; have HO207 := n0_; have BK203 := n1_; have HB := n2_; clear n0_ n1_ n2_; (try clear hb); (try clear hb2); (try clear hk); (try clear hi); (try clear ho0); have hcz8_0 : w7.cell? ⟨gb203, 0, none⟩ = some (.bool a0_0) := (blk_cell BK203.out 0).trans rfl; have hcz8_1 : w7.cell? ⟨gb203, 1, none⟩ = some (.slice A0_1 l0_1.length c0_1) := (blk_cell BK203.out 1).trans rfl; have hcz8_2 : w7.cell? ⟨gb203, 2, none⟩ = some (.int .i64 a0_2) := (blk_cell BK203.out 2).trans rfl; have hfz8_0 := blk_frozen BK203.out 0; have hfz8_1 := blk_frozen BK203.out 1; have hfz8_2 := blk_frozen BK203.out 2; obtain ⟨Ao9, co9, eo9⟩ := Kd.V_slice HO207.out; subst eo9) | (go_at_call 34; (with_reducible refine (nat_Digits.calls _ _ t205 t209 _ ?side1 ?side2 A3.out).mono ?_); (case side1 => refine (Kd.V_reads' (e := 40) (base := w.heap.size) (ok := fun k_ => k_ ≠ gb203) (n := t205.length) (c := co9) ?_).2.2; exact (by (with_reducible repeat (first | apply Kd.V_alloc | apply Kd.V_drewN | apply Kd.V_drew)); exact (Kd.V_mono (Kd.V_far (p := ⟨gb203, 2, none⟩) (Kd.V_far (p := ⟨gb203, 1, none⟩) (Kd.V_far (p := ⟨gb203, 0, none⟩) (Kd.V_mono HO207.out (fun k_ hk => (⟨hk, hk⟩ : _ ∧ k_ ≠ gb203))) (fun _ hk => hk.2) (.bool t204)) (fun _ hk => hk.2) (.slice Ao9 t205.length co9)) (fun _ hk => hk.2) (.int .i64 t208)) (fun _ h_ => h_.1)))); (case side2 => exact (Kd.V_reads' HO207.out).2.1); rintro e w10 ⟨rfl, hb⟩; have n0_ := Aside0.mk (Kd.V_below (by (with_reducible repeat (first | apply Kd.V_alloc | apply Kd.V_drewN | apply Kd.V_drew)); exact (Kd.V_mono (Kd.V_far (p := ⟨gb203, 2, none⟩) (Kd.V_far (p := ⟨gb203, 1, none⟩) (Kd.V_far (p := ⟨gb203, 0, none⟩) (Kd.V_mono HO207.out (fun k_ hk => (⟨hk, hk⟩ : _ ∧ k_ ≠ gb203))) (fun _ hk => hk.2) (.bool t204)) (fun _ hk => hk.2) (.slice Ao9 t205.length co9)) (fun _ hk => hk.2) (.int .i64 t208)) (fun _ h_ => h_.1))) hb); have n1_ := Aside0.mk (blk_below (g := gb203) (o := .cells #[.bool t204, .slice Ao9 t205.length co9, .int .i64 t208] 25 (0, 0)) (by (with_reducible repeat (first | refine blk_drewN ?_ _ | refine blk_drew ?_ | refine blk_alloc ?_ _)); refine blk_put (cs := #[.bool t204, .slice Ao9 t205.length co9, .int .i64 a0_2]) ?_ 2 _ rfl; (with_reducible repeat (first | refine blk_drewN ?_ _ | refine blk_drew ?_ | refine blk_alloc ?_ _)); refine blk_put (cs := #[.bool t204, .slice A0_1 l0_1.length c0_1, .int .i64 a0_2]) ?_ 1 _ rfl; (with_reducible repeat (first | refine blk_drewN ?_ _ | refine blk_drew ?_ | refine blk_alloc ?_ _)); refine blk_put (cs := #[.bool a0_0, .slice A0_1 l0_1.length c0_1, .int .i64 a0_2]) ?_ 0 _ rfl; (with_reducible repeat (first | refine blk_drewN ?_ _ | refine blk_drew ?_ | refine blk_alloc ?_ _)); exact BK203.out) hb); have n2_ := Aside0.mk (below_step (by repeat (first | (with_reducible first | exact HB.out | apply below_alloc | apply pw_below_drewN | apply below_drew1 | refine below_set ?_ GE203.out) | exact HB.out)) hb); clear HO207; clear BK203; clear HB; have HO207 := n0_; have BK203 := n1_; have HB := n2_; clear n0_ n1_ n2_; (try clear hb); (try clear hb2); (try clear hk); (try clear hi); have hcz11_0 : w10.cell? ⟨gb203, 0, none⟩ = some (.bool t204) := (blk_cell BK203.out 0).trans rfl; have hcz11_1 : w10.cell? ⟨gb203, 1, none⟩ = some (.slice Ao9 t205.length co9) := (blk_cell BK203.out 1).trans rfl; have hcz11_2 : w10.cell? ⟨gb203, 2, none⟩ = some (.int .i64 t208) := (blk_cell BK203.out 2).trans rfl; have hfz11_0 := blk_frozen BK203.out 0; have hfz11_1 := blk_frozen BK203.out 1; have hfz11_2 := blk_frozen BK203.out 2)))
  (try simp only [Act.put, List.setIfInBounds_toArray, List.set_cons_zero, List.set_cons_succ])
  go_cut [5] (fun v5 wc => ∃ (kq : Nat) (x5_3 : ByteArray), v5 = .string x5_3 ∧ Aside0 (num_Text.j0 kq t209 (wrap64 ((t209.size : Int) + t208)) x5_3 t204 t205 t208 = some r) ∧ Aside0 (kq ≤ k) ∧ Aside0 (Kd.V (Kd.int .u32) 40 wc w.heap.size (fun k_ => k_ ≠ gb203) (.slice Ao9 t205.length co9) t205) ∧ Aside0 (wc.heap[gb203]? = some (.cells #[.bool t204, (.slice Ao9 t205.length co9), .int .i64 t208] 25 (0, 0))) ∧ Aside0 (Below w.heap.size w wc))
  case first =>
    have H := HC4.out
    clear HC4
    by_cases c12 : t204 = true
    · subst c12
      have H1 : (num_Text.j0 k t209 (wrap64 ((t209.size : Int) + t208)) (⟨#[45]⟩ : ByteArray) true t205 t208) = some r := by rw [if_pos rfl] at H; exact H
      clear H
      have H := H1
      clear H1
      have H' := Aside0.mk H
      clear H
      go_wp2
      try (any_goals (with_reducible refine halt_absurd ?_; (try simp only [ByteArray.size_extract, ByteArray.size_append, ba_size_mk, List.size_toArray, List.length_cons, List.length_nil] at *) <;> omega))
      repeat (go_quiet (fail); try go_wp2)
      go_meet
      case rel => exact ⟨_, ((⟨#[45]⟩ : ByteArray)), (by first | rfl | (simp; done) | (simp [*]; done)), H', ⟨by first | omega | exact Nat.le_refl _⟩, ⟨by (with_reducible repeat (first | apply Kd.V_alloc | apply Kd.V_drewN | apply Kd.V_drew)); exact HO207.out⟩, ⟨by (with_reducible repeat (first | refine blk_drewN ?_ _ | refine blk_drew ?_ | refine blk_alloc ?_ _)); exact BK203.out⟩, ⟨by repeat (first | (with_reducible first | exact HB.out | apply below_alloc | apply pw_below_drewN | apply below_drew1 | refine below_set ?_ GE203.out) | exact HB.out)⟩⟩
    · replace c12 := Bool.eq_false_iff.mpr c12
      subst c12
      have H1 : (num_Text.j0 k t209 (wrap64 ((t209.size : Int) + t208)) (⟨#[]⟩ : ByteArray) false t205 t208) = some r := by rw [if_neg (show ¬ (false = true) by decide)] at H; exact H
      clear H
      have H := H1
      clear H1
      have H' := Aside0.mk H
      clear H
      go_wp2
      try (any_goals (with_reducible refine halt_absurd ?_; (try simp only [ByteArray.size_extract, ByteArray.size_append, ba_size_mk, List.size_toArray, List.length_cons, List.length_nil] at *) <;> omega))
      repeat (go_quiet (fail); try go_wp2)
      go_meet
      case rel => exact ⟨_, ((⟨#[]⟩ : ByteArray)), (by first | rfl | (simp; done) | (simp [*]; done)), H', ⟨by first | omega | exact Nat.le_refl _⟩, ⟨by (with_reducible repeat (first | apply Kd.V_alloc | apply Kd.V_drewN | apply Kd.V_drew)); exact HO207.out⟩, ⟨by (with_reducible repeat (first | refine blk_drewN ?_ _ | refine blk_drew ?_ | refine blk_alloc ?_ _)); exact BK203.out⟩, ⟨by repeat (first | (with_reducible first | exact HB.out | apply below_alloc | apply pw_below_drewN | apply below_drew1 | refine below_set ?_ GE203.out) | exact HB.out)⟩⟩
  case rest =>
    clear HC4
    try clear c1
    try clear p2
    try clear p6
    try clear c12
    try clear hcz11_0
    try clear hcz11_1
    try clear hcz11_2
    try clear hcz6_0
    try clear hcz6_1
    try clear hcz6_2
    try clear hcz8_0
    try clear hcz8_1
    try clear hcz8_2
    try clear hfz11_0
    try clear hfz11_1
    try clear hfz11_2
    try clear hfz6_0
    try clear hfz6_1
    try clear hfz6_2
    try clear hfz8_0
    try clear hfz8_1
    try clear hfz8_2
    obtain ⟨kq, x5_3, rfl, HA, HJ3, HO_204001, BK203, HB⟩ := hcut
    cases kq with
    | zero => exact absurd HA.out (by simp [num_Text.j0])
    | succ kj3 =>
      have H := HA.out
      clear HA
      simp only [num_Text.j0] at H
      have HC13 := Aside0.mk H
      clear H
      go_upto_region 7 with (fail)
      repeat (go_quiet (fail); go_upto_region 7 with (fail))
      go_cut [18] (fun v18 wc => ∃ (kq : Nat) (x18_12 : Bool), v18 = .bool x18_12 ∧ Aside0 (num_Text.j1 kq t209 (wrap64 ((t209.size : Int) + t208)) x5_3 x18_12 t204 t205 t208 = some r) ∧ Aside0 (kq ≤ kj3) ∧ Aside0 (Kd.V (Kd.int .u32) 40 wc w.heap.size (fun k_ => k_ ≠ gb203) (.slice Ao9 t205.length co9) t205) ∧ Aside0 (wc.heap[gb203]? = some (.cells #[.bool t204, (.slice Ao9 t205.length co9), .int .i64 t208] 25 (0, 0))) ∧ Aside0 (Below w.heap.size w wc))
      case first =>
        have H := HC13.out
        clear HC13
        by_cases c14 : t208 ≥ 0
        · rw [if_pos c14] at H
          have c14b0 : decide (0 ≤ t208) = true := decide_eq_true c14
          clear c14
          (first | rw [c14b0] | (simp only [i64_w, i32_w]; rw [c14b0]) | skip)
          have H' := Aside0.mk H
          clear H
          have hcz15_0 : wc.cell? ⟨gb203, 0, none⟩ = some (.bool t204) := (blk_cell BK203.out 0).trans rfl
          have hcz15_1 : wc.cell? ⟨gb203, 1, none⟩ = some (.slice Ao9 t205.length co9) := (blk_cell BK203.out 1).trans rfl
          have hcz15_2 : wc.cell? ⟨gb203, 2, none⟩ = some (.int .i64 t208) := (blk_cell BK203.out 2).trans rfl
          have hfz15_0 := blk_frozen BK203.out 0
          have hfz15_1 := blk_frozen BK203.out 1
          have hfz15_2 := blk_frozen BK203.out 2
          go_wp2
          try (any_goals (with_reducible refine halt_absurd ?_; (try simp only [ByteArray.size_extract, ByteArray.size_append, ba_size_mk, List.size_toArray, List.length_cons, List.length_nil] at *) <;> omega))
          repeat (go_quiet (fail); try go_wp2)
          go_meet
          case rel => exact ⟨_, (decide ((wrap64 ((t209.size : Int) + t208)) ≤ 21)), (by first | rfl | (simp; done) | (simp [*]; done)), H', ⟨by have := HJ3.out; first | omega | exact Nat.le_refl _⟩, ⟨by (with_reducible repeat (first | apply Kd.V_alloc | apply Kd.V_drewN | apply Kd.V_drew)); exact HO_204001.out⟩, ⟨by (with_reducible repeat (first | refine blk_drewN ?_ _ | refine blk_drew ?_ | refine blk_alloc ?_ _)); exact BK203.out⟩, ⟨by repeat (first | (with_reducible first | exact HB.out | apply below_alloc | apply pw_below_drewN | apply below_drew1 | refine below_set ?_ GE203.out) | exact HB.out)⟩⟩
        · rw [if_neg c14] at H
          have c14b0 : decide (0 ≤ t208) = false := decide_eq_false c14
          clear c14
          (first | rw [c14b0] | (simp only [i64_w, i32_w]; rw [c14b0]) | skip)
          have H' := Aside0.mk H
          clear H
          have hcz16_0 : wc.cell? ⟨gb203, 0, none⟩ = some (.bool t204) := (blk_cell BK203.out 0).trans rfl
          have hcz16_1 : wc.cell? ⟨gb203, 1, none⟩ = some (.slice Ao9 t205.length co9) := (blk_cell BK203.out 1).trans rfl
          have hcz16_2 : wc.cell? ⟨gb203, 2, none⟩ = some (.int .i64 t208) := (blk_cell BK203.out 2).trans rfl
          have hfz16_0 := blk_frozen BK203.out 0
          have hfz16_1 := blk_frozen BK203.out 1
          have hfz16_2 := blk_frozen BK203.out 2
          go_wp2
          try (any_goals (with_reducible refine halt_absurd ?_; (try simp only [ByteArray.size_extract, ByteArray.size_append, ba_size_mk, List.size_toArray, List.length_cons, List.length_nil] at *) <;> omega))
          repeat (go_quiet (fail); try go_wp2)
          go_meet
          case rel => exact ⟨_, (false), (by first | rfl | (simp; done) | (simp [*]; done)), H', ⟨by have := HJ3.out; first | omega | exact Nat.le_refl _⟩, ⟨by (with_reducible repeat (first | apply Kd.V_alloc | apply Kd.V_drewN | apply Kd.V_drew)); exact HO_204001.out⟩, ⟨by (with_reducible repeat (first | refine blk_drewN ?_ _ | refine blk_drew ?_ | refine blk_alloc ?_ _)); exact BK203.out⟩, ⟨by repeat (first | (with_reducible first | exact HB.out | apply below_alloc | apply pw_below_drewN | apply below_drew1 | refine below_set ?_ GE203.out) | exact HB.out)⟩⟩
      case rest =>
        clear HC13
        try clear c1
        try clear p2
        try clear p6
        try clear c12
        try clear c14
        try clear c14b0
        try clear hcz11_0
        try clear hcz11_1
        try clear hcz11_2
        try clear hcz15_0
        try clear hcz15_1
        try clear hcz15_2
        try clear hcz16_0
        try clear hcz16_1
        try clear hcz16_2
        try clear hcz6_0
        try clear hcz6_1
        try clear hcz6_2
        try clear hcz8_0
        try clear hcz8_1
        try clear hcz8_2
        try clear hfz11_0
        try clear hfz11_1
        try clear hfz11_2
        try clear hfz15_0
        try clear hfz15_1
        try clear hfz15_2
        try clear hfz16_0
        try clear hfz16_1
        try clear hfz16_2
        try clear hfz6_0
        try clear hfz6_1
        try clear hfz6_2
        try clear hfz8_0
        try clear hfz8_1
        try clear hfz8_2
        try clear p2
        try clear p6
        obtain ⟨kq, x18_12, rfl, HA, HJ12, HO_204001, BK203, HB⟩ := hcut
        cases kq with
        | zero => exact absurd HA.out (by simp [num_Text.j1])
        | succ kj12 =>
          have H := HA.out
          clear HA
          simp only [num_Text.j1] at H
          by_cases c17 : x18_12 = true
          · subst c17
            have H1 : (if x5_3.size + t209.size ≤ 9223372036854775807 then ((strings_Repeat.f (⟨#[48]⟩ : ByteArray) t208).bind fun t210 => (if (x5_3 ++ t209).size + t210.size ≤ 9223372036854775807 then (some ((x5_3 ++ t209) ++ t210)) else (none))) else (none)) = some r := by rw [if_pos rfl] at H; exact H
            clear H
            have H := H1
            clear H1
            by_cases c18 : x5_3.size + t209.size ≤ 9223372036854775807
            · rw [if_pos c18] at H
              have c18b0 := eq_true c18
              have c18b1 : decide (x5_3.size + t209.size ≤ 9223372036854775807) = true := decide_eq_true c18
              try have c18b2 : (9223372036854775807 < x5_3.size + t209.size) = False := eq_false (Nat.not_lt.2 c18)
              replace H := Option.bind_eq_some_iff.mp H
              obtain ⟨t210, A190, H⟩ := H
              replace H : (if (x5_3 ++ t209).size + t210.size ≤ 9223372036854775807 then (some ((x5_3 ++ t209) ++ t210)) else (none)) = some r := H
              have A19 := Aside0.mk A190
              clear A190
              by_cases c20 : (x5_3 ++ t209).size + t210.size ≤ 9223372036854775807
              · rw [if_pos c20] at H
                have c20b0 := eq_true c20
                have c20b1 : decide ((x5_3 ++ t209).size + t210.size ≤ 9223372036854775807) = true := decide_eq_true c20
                try have c20b2 : (9223372036854775807 < (x5_3 ++ t209).size + t210.size) = False := eq_false (Nat.not_lt.2 c20)
                obtain rfl := Option.some.inj H
                have hcz21_0 : wc.cell? ⟨gb203, 0, none⟩ = some (.bool t204) := (blk_cell BK203.out 0).trans rfl
                have hcz21_1 : wc.cell? ⟨gb203, 1, none⟩ = some (.slice Ao9 t205.length co9) := (blk_cell BK203.out 1).trans rfl
                have hcz21_2 : wc.cell? ⟨gb203, 2, none⟩ = some (.int .i64 t208) := (blk_cell BK203.out 2).trans rfl
                have hfz21_0 := blk_frozen BK203.out 0
                have hfz21_1 := blk_frozen BK203.out 1
                have hfz21_2 := blk_frozen BK203.out 2
                go_wp2_with (first | (go_at_call 35; (with_reducible refine (strings_Repeat.calls (⟨#[48]⟩ : ByteArray) t208 t210 _ A19.out).mono ?_); rintro e w22 ⟨rfl, hb⟩; have n0_ := Aside0.mk (Kd.V_below (by (with_reducible repeat (first | apply Kd.V_alloc | apply Kd.V_drewN | apply Kd.V_drew)); exact HO_204001.out) hb); have n1_ := Aside0.mk (blk_below (g := gb203) (o := .cells #[.bool t204, .slice Ao9 t205.length co9, .int .i64 t208] 25 (0, 0)) (by (with_reducible repeat (first | refine blk_drewN ?_ _ | refine blk_drew ?_ | refine blk_alloc ?_ _)); exact BK203.out) hb); have n2_ := Aside0.mk (below_step (by repeat (first | (with_reducible first | exact HB.out | apply below_alloc | apply pw_below_drewN | apply below_drew1 | refine below_set ?_ GE203.out) | exact HB.out)) hb); clear HO_204001; clear BK203; clear HB; have HO_204001 := n0_; have BK203 := n1_; have HB := n2_; clear n0_ n1_ n2_; (try clear hb); (try clear hb2); (try clear hk); (try clear hi)))
                try (any_goals (with_reducible refine halt_absurd ?_; (try simp only [ByteArray.size_extract, ByteArray.size_append, ba_size_mk, List.size_toArray, List.length_cons, List.length_nil] at *) <;> omega))
                repeat (go_quiet (first | (go_at_call 35; (with_reducible refine (strings_Repeat.calls (⟨#[48]⟩ : ByteArray) t208 t210 _ A19.out).mono ?_); rintro e w22 ⟨rfl, hb⟩; have n0_ := Aside0.mk (Kd.V_below (by (with_reducible repeat (first | apply Kd.V_alloc | apply Kd.V_drewN | apply Kd.V_drew)); exact HO_204001.out) hb); have n1_ := Aside0.mk (blk_below (g := gb203) (o := .cells #[.bool t204, .slice Ao9 t205.length co9, .int .i64 t208] 25 (0, 0)) (by (with_reducible repeat (first | refine blk_drewN ?_ _ | refine blk_drew ?_ | refine blk_alloc ?_ _)); exact BK203.out) hb); have n2_ := Aside0.mk (below_step (by repeat (first | (with_reducible first | exact HB.out | apply below_alloc | apply pw_below_drewN | apply below_drew1 | refine below_set ?_ GE203.out) | exact HB.out)) hb); clear HO_204001; clear BK203; clear HB; have HO_204001 := n0_; have BK203 := n1_; have HB := n2_; clear n0_ n1_ n2_; (try clear hb); (try clear hb2); (try clear hk); (try clear hi))); try go_wp2_with (first | (go_at_call 35; (with_reducible refine (strings_Repeat.calls (⟨#[48]⟩ : ByteArray) t208 t210 _ A19.out).mono ?_); rintro e w22 ⟨rfl, hb⟩; have n0_ := Aside0.mk (Kd.V_below (by (with_reducible repeat (first | apply Kd.V_alloc | apply Kd.V_drewN | apply Kd.V_drew)); exact HO_204001.out) hb); have n1_ := Aside0.mk (blk_below (g := gb203) (o := .cells #[.bool t204, .slice Ao9 t205.length co9, .int .i64 t208] 25 (0, 0)) (by (with_reducible repeat (first | refine blk_drewN ?_ _ | refine blk_drew ?_ | refine blk_alloc ?_ _)); exact BK203.out) hb); have n2_ := Aside0.mk (below_step (by repeat (first | (with_reducible first | exact HB.out | apply below_alloc | apply pw_below_drewN | apply below_drew1 | refine below_set ?_ GE203.out) | exact HB.out)) hb); clear HO_204001; clear BK203; clear HB; have HO_204001 := n0_; have BK203 := n1_; have HB := n2_; clear n0_ n1_ n2_; (try clear hb); (try clear hb2); (try clear hk); (try clear hi))))
                go_ret
                exact ⟨by first | rfl | (simp [errW_none, errW_some] <;> rfl) | (simp [*, errW_none, errW_some] <;> rfl), by repeat (first | (with_reducible first | exact HB.out | apply below_alloc | apply pw_below_drewN | apply below_drew1 | refine below_set ?_ GE203.out) | exact HB.out)⟩
              · rw [if_neg c20] at H
                exact absurd H (by simp)
            · rw [if_neg c18] at H
              exact absurd H (by simp)
          · replace c17 := Bool.eq_false_iff.mpr c17
            subst c17
            have H1 : (if t208 < 0 then (if (wrap64 ((t209.size : Int) + t208)) ≥ 1 then (num_Text.j2 kj12 t209 (wrap64 ((t209.size : Int) + t208)) x5_3 (decide ((wrap64 ((t209.size : Int) + t208)) ≤ 21))) else (num_Text.j2 kj12 t209 (wrap64 ((t209.size : Int) + t208)) x5_3 false)) else (num_Text.j2 kj12 t209 (wrap64 ((t209.size : Int) + t208)) x5_3 false)) = some r := by rw [if_neg (show ¬ (false = true) by decide)] at H; exact H
            clear H
            have H := H1
            clear H1
            have HC23 := Aside0.mk H
            clear H
            go_upto_region 9 with (fail)
            repeat (go_quiet (fail); go_upto_region 9 with (fail))
            go_cut [33] (fun v33 wc => ∃ (kq : Nat) (x33_22 : Bool), v33 = .bool x33_22 ∧ Aside0 (num_Text.j2 kq t209 (wrap64 ((t209.size : Int) + t208)) x5_3 x33_22 = some r) ∧ Aside0 (kq ≤ kj12) ∧ Aside0 (Kd.V (Kd.int .u32) 40 wc w.heap.size (fun k_ => k_ ≠ gb203) (.slice Ao9 t205.length co9) t205) ∧ Aside0 (wc.heap[gb203]? = some (.cells #[.bool t204, (.slice Ao9 t205.length co9), .int .i64 t208] 25 (0, 0))) ∧ Aside0 (Below w.heap.size w wc))
            case first =>
              have H := HC23.out
              clear HC23
              by_cases c24 : t208 < 0
              · rw [if_pos c24] at H
                have c24b0 : decide (t208 < 0) = true := decide_eq_true c24
                clear c24
                (first | rw [c24b0] | (simp only [i64_w, i32_w]; rw [c24b0]) | skip)
                by_cases c25 : (wrap64 ((t209.size : Int) + t208)) ≥ 1
                · rw [if_pos c25] at H
                  have c25b0 : decide (1 ≤ (wrap64 ((t209.size : Int) + t208))) = true := decide_eq_true c25
                  clear c25
                  have H' := Aside0.mk H
                  clear H
                  have hcz26_0 : wc.cell? ⟨gb203, 0, none⟩ = some (.bool t204) := (blk_cell BK203.out 0).trans rfl
                  have hcz26_1 : wc.cell? ⟨gb203, 1, none⟩ = some (.slice Ao9 t205.length co9) := (blk_cell BK203.out 1).trans rfl
                  have hcz26_2 : wc.cell? ⟨gb203, 2, none⟩ = some (.int .i64 t208) := (blk_cell BK203.out 2).trans rfl
                  have hfz26_0 := blk_frozen BK203.out 0
                  have hfz26_1 := blk_frozen BK203.out 1
                  have hfz26_2 := blk_frozen BK203.out 2
                  go_wp2
                  try (any_goals (with_reducible refine halt_absurd ?_; (try simp only [ByteArray.size_extract, ByteArray.size_append, ba_size_mk, List.size_toArray, List.length_cons, List.length_nil] at *) <;> omega))
                  repeat (go_quiet (fail); try go_wp2)
                  go_meet
                  case rel => exact ⟨_, (decide ((wrap64 ((t209.size : Int) + t208)) ≤ 21)), (by first | rfl | (simp; done) | (simp [*]; done)), H', ⟨by have := HJ3.out; have := HJ12.out; first | omega | exact Nat.le_refl _⟩, ⟨by (with_reducible repeat (first | apply Kd.V_alloc | apply Kd.V_drewN | apply Kd.V_drew)); exact HO_204001.out⟩, ⟨by (with_reducible repeat (first | refine blk_drewN ?_ _ | refine blk_drew ?_ | refine blk_alloc ?_ _)); exact BK203.out⟩, ⟨by repeat (first | (with_reducible first | exact HB.out | apply below_alloc | apply pw_below_drewN | apply below_drew1 | refine below_set ?_ GE203.out) | exact HB.out)⟩⟩
                · rw [if_neg c25] at H
                  have c25b0 : decide (1 ≤ (wrap64 ((t209.size : Int) + t208))) = false := decide_eq_false c25
                  clear c25
                  have H' := Aside0.mk H
                  clear H
                  have hcz27_0 : wc.cell? ⟨gb203, 0, none⟩ = some (.bool t204) := (blk_cell BK203.out 0).trans rfl
                  have hcz27_1 : wc.cell? ⟨gb203, 1, none⟩ = some (.slice Ao9 t205.length co9) := (blk_cell BK203.out 1).trans rfl
                  have hcz27_2 : wc.cell? ⟨gb203, 2, none⟩ = some (.int .i64 t208) := (blk_cell BK203.out 2).trans rfl
                  have hfz27_0 := blk_frozen BK203.out 0
                  have hfz27_1 := blk_frozen BK203.out 1
                  have hfz27_2 := blk_frozen BK203.out 2
                  go_wp2
                  try (any_goals (with_reducible refine halt_absurd ?_; (try simp only [ByteArray.size_extract, ByteArray.size_append, ba_size_mk, List.size_toArray, List.length_cons, List.length_nil] at *) <;> omega))
                  repeat (go_quiet (fail); try go_wp2)
                  go_meet
                  case rel => exact ⟨_, (false), (by first | rfl | (simp; done) | (simp [*]; done)), H', ⟨by have := HJ3.out; have := HJ12.out; first | omega | exact Nat.le_refl _⟩, ⟨by (with_reducible repeat (first | apply Kd.V_alloc | apply Kd.V_drewN | apply Kd.V_drew)); exact HO_204001.out⟩, ⟨by (with_reducible repeat (first | refine blk_drewN ?_ _ | refine blk_drew ?_ | refine blk_alloc ?_ _)); exact BK203.out⟩, ⟨by repeat (first | (with_reducible first | exact HB.out | apply below_alloc | apply pw_below_drewN | apply below_drew1 | refine below_set ?_ GE203.out) | exact HB.out)⟩⟩
              · rw [if_neg c24] at H
                have c24b0 : decide (t208 < 0) = false := decide_eq_false c24
                clear c24
                (first | rw [c24b0] | (simp only [i64_w, i32_w]; rw [c24b0]) | skip)
                have H' := Aside0.mk H
                clear H
                have hcz28_0 : wc.cell? ⟨gb203, 0, none⟩ = some (.bool t204) := (blk_cell BK203.out 0).trans rfl
                have hcz28_1 : wc.cell? ⟨gb203, 1, none⟩ = some (.slice Ao9 t205.length co9) := (blk_cell BK203.out 1).trans rfl
                have hcz28_2 : wc.cell? ⟨gb203, 2, none⟩ = some (.int .i64 t208) := (blk_cell BK203.out 2).trans rfl
                have hfz28_0 := blk_frozen BK203.out 0
                have hfz28_1 := blk_frozen BK203.out 1
                have hfz28_2 := blk_frozen BK203.out 2
                go_wp2
                try (any_goals (with_reducible refine halt_absurd ?_; (try simp only [ByteArray.size_extract, ByteArray.size_append, ba_size_mk, List.size_toArray, List.length_cons, List.length_nil] at *) <;> omega))
                repeat (go_quiet (fail); try go_wp2)
                go_meet
                case rel => exact ⟨_, (false), (by first | rfl | (simp; done) | (simp [*]; done)), H', ⟨by have := HJ3.out; have := HJ12.out; first | omega | exact Nat.le_refl _⟩, ⟨by (with_reducible repeat (first | apply Kd.V_alloc | apply Kd.V_drewN | apply Kd.V_drew)); exact HO_204001.out⟩, ⟨by (with_reducible repeat (first | refine blk_drewN ?_ _ | refine blk_drew ?_ | refine blk_alloc ?_ _)); exact BK203.out⟩, ⟨by repeat (first | (with_reducible first | exact HB.out | apply below_alloc | apply pw_below_drewN | apply below_drew1 | refine below_set ?_ GE203.out) | exact HB.out)⟩⟩
            case rest =>
              clear HC23
              try clear c1
              try clear c2
              try clear p2
              try clear p6
              try clear c12
              try clear c14
              try clear c14b0
              try clear c17
              try clear c18
              try clear c18b0
              try clear c18b1
              try clear c18b2
              try clear c20
              try clear c20b0
              try clear c20b1
              try clear c20b2
              try clear c24
              try clear c24b0
              try clear c25
              try clear c25b0
              try clear hcz11_0
              try clear hcz11_1
              try clear hcz11_2
              try clear hcz15_0
              try clear hcz15_1
              try clear hcz15_2
              try clear hcz16_0
              try clear hcz16_1
              try clear hcz16_2
              try clear hcz21_0
              try clear hcz21_1
              try clear hcz21_2
              try clear hcz26_0
              try clear hcz26_1
              try clear hcz26_2
              try clear hcz27_0
              try clear hcz27_1
              try clear hcz27_2
              try clear hcz28_0
              try clear hcz28_1
              try clear hcz28_2
              try clear hcz6_0
              try clear hcz6_1
              try clear hcz6_2
              try clear hcz8_0
              try clear hcz8_1
              try clear hcz8_2
              try clear hfz11_0
              try clear hfz11_1
              try clear hfz11_2
              try clear hfz15_0
              try clear hfz15_1
              try clear hfz15_2
              try clear hfz16_0
              try clear hfz16_1
              try clear hfz16_2
              try clear hfz21_0
              try clear hfz21_1
              try clear hfz21_2
              try clear hfz26_0
              try clear hfz26_1
              try clear hfz26_2
              try clear hfz27_0
              try clear hfz27_1
              try clear hfz27_2
              try clear hfz28_0
              try clear hfz28_1
              try clear hfz28_2
              try clear hfz6_0
              try clear hfz6_1
              try clear hfz6_2
              try clear hfz8_0
              try clear hfz8_1
              try clear hfz8_2
              try clear p2
              try clear p6
              obtain ⟨kq, x33_22, rfl, HA, HJ22, HO_204001, BK203, HB⟩ := hcut
              cases kq with
              | zero => exact absurd HA.out (by simp [num_Text.j2])
              | succ kj22 =>
                have H := HA.out
                clear HA
                simp only [num_Text.j2] at H
                by_cases c29 : x33_22 = true
                · subst c29
                  have H1 : (if 0 ≤ (wrap64 ((t209.size : Int) + t208)) then (if (wrap64 ((t209.size : Int) + t208)) ≤ (t209.size : Int) then (if x5_3.size + (t209.extract 0 ((wrap64 ((t209.size : Int) + t208)) : Int).toNat).size ≤ 9223372036854775807 then (if (x5_3 ++ (t209.extract 0 ((wrap64 ((t209.size : Int) + t208)) : Int).toNat)).size + 1 ≤ 9223372036854775807 then (if ((x5_3 ++ (t209.extract 0 ((wrap64 ((t209.size : Int) + t208)) : Int).toNat)) ++ (⟨#[46]⟩ : ByteArray)).size + (t209.extract ((wrap64 ((t209.size : Int) + t208)) : Int).toNat t209.size).size ≤ 9223372036854775807 then (some (((x5_3 ++ (t209.extract 0 ((wrap64 ((t209.size : Int) + t208)) : Int).toNat)) ++ (⟨#[46]⟩ : ByteArray)) ++ (t209.extract ((wrap64 ((t209.size : Int) + t208)) : Int).toNat t209.size))) else (none)) else (none)) else (none)) else (none)) else (none)) = some r := by rw [if_pos rfl] at H; exact H
                  clear H
                  have H := H1
                  clear H1
                  obtain ⟨ji30, hji30⟩ : ∃ j_ : Int, (wrap64 ((t209.size : Int) + t208)) = j_ := ⟨_, rfl⟩
                  replace H : (if 0 ≤ (ji30) then (if (ji30) ≤ (t209.size : Int) then (if x5_3.size + (t209.extract 0 ((ji30) : Int).toNat).size ≤ 9223372036854775807 then (if (x5_3 ++ (t209.extract 0 ((ji30) : Int).toNat)).size + 1 ≤ 9223372036854775807 then (if ((x5_3 ++ (t209.extract 0 ((ji30) : Int).toNat)) ++ (⟨#[46]⟩ : ByteArray)).size + (t209.extract ((ji30) : Int).toNat t209.size).size ≤ 9223372036854775807 then (some (((x5_3 ++ (t209.extract 0 ((ji30) : Int).toNat)) ++ (⟨#[46]⟩ : ByteArray)) ++ (t209.extract ((ji30) : Int).toNat t209.size))) else (none)) else (none)) else (none)) else (none)) else (none)) = some r := by first | (rw [hji30] at H; exact H) | (simp only [hji30] at H ⊢; exact H)
                  have hji30w : (IntKind.i64.wrap ((t209.size : Int) + t208)) = ji30 := (i64_w _).trans hji30
                  by_cases c31 : 0 ≤ (ji30)
                  · rw [if_pos c31] at H
                    have c31b0 := eq_true c31
                    have c31b1 : decide (0 ≤ (ji30)) = true := decide_eq_true c31
                    clear c31
                    by_cases c32 : (ji30) ≤ (t209.size : Int)
                    · rw [if_pos c32] at H
                      have c32b0 := eq_true c32
                      have c32b1 : decide ((ji30) ≤ (t209.size : Int)) = true := decide_eq_true c32
                      clear c32
                      by_cases c33 : x5_3.size + (t209.extract 0 ((ji30) : Int).toNat).size ≤ 9223372036854775807
                      · rw [if_pos c33] at H
                        have c33b0 := eq_true c33
                        have c33b1 : decide (x5_3.size + (t209.extract 0 ((ji30) : Int).toNat).size ≤ 9223372036854775807) = true := decide_eq_true c33
                        try have c33b2 : (9223372036854775807 < x5_3.size + (t209.extract 0 ((ji30) : Int).toNat).size) = False := eq_false (Nat.not_lt.2 c33)
                        by_cases c34 : (x5_3 ++ (t209.extract 0 ((ji30) : Int).toNat)).size + 1 ≤ 9223372036854775807
                        · rw [if_pos c34] at H
                          have c34b0 := eq_true c34
                          have c34b1 : decide ((x5_3 ++ (t209.extract 0 ((ji30) : Int).toNat)).size + 1 ≤ 9223372036854775807) = true := decide_eq_true c34
                          try have c34b2 : (9223372036854775807 < (x5_3 ++ (t209.extract 0 ((ji30) : Int).toNat)).size + 1) = False := eq_false (Nat.not_lt.2 c34)
                          have c35b0 := eq_true (of_decide_eq_true (by first | (with_reducible assumption) | assumption) : 0 ≤ (ji30))
                          have c36b0 := eq_true (of_decide_eq_true (by first | (with_reducible assumption) | assumption) : (ji30) ≤ (t209.size : Int))
                          by_cases c37 : ((x5_3 ++ (t209.extract 0 ((ji30) : Int).toNat)) ++ (⟨#[46]⟩ : ByteArray)).size + (t209.extract ((ji30) : Int).toNat t209.size).size ≤ 9223372036854775807
                          · rw [if_pos c37] at H
                            have c37b0 := eq_true c37
                            have c37b1 : decide (((x5_3 ++ (t209.extract 0 ((ji30) : Int).toNat)) ++ (⟨#[46]⟩ : ByteArray)).size + (t209.extract ((ji30) : Int).toNat t209.size).size ≤ 9223372036854775807) = true := decide_eq_true c37
                            try have c37b2 : (9223372036854775807 < ((x5_3 ++ (t209.extract 0 ((ji30) : Int).toNat)) ++ (⟨#[46]⟩ : ByteArray)).size + (t209.extract ((ji30) : Int).toNat t209.size).size) = False := eq_false (Nat.not_lt.2 c37)
                            obtain rfl := Option.some.inj H
                            go_wp2
                            try (any_goals (with_reducible refine halt_absurd ?_; (try simp only [ByteArray.size_extract, ByteArray.size_append, ba_size_mk, List.size_toArray, List.length_cons, List.length_nil] at *) <;> omega))
                            have z0 : ji30 ≤ (t209.size : Int) := of_decide_eq_true (by assumption)
                            have z00 : 0 ≤ ji30 := of_decide_eq_true (by assumption)
                            have z1 : (t209.extract 0 ji30.toNat).size = ji30.toNat := by rw [ByteArray.size_extract]; omega
                            have z2 : (t209.extract ji30.toNat t209.size).size = t209.size - ji30.toNat := by rw [ByteArray.size_extract]; omega
                            have z3 : (ByteArray.mk #[46]).size = 1 := rfl
                            have c37n := c37
                            simp only [ByteArray.size_append, z1, z2, z3] at c37n
                            have c34n := c34
                            simp only [ByteArray.size_append, z1, z2, z3] at c34n
                            have c33n := c33
                            simp only [ByteArray.size_append, z1, z2, z3] at c33n
                            clear z1 z2
                            repeat (go_quiet (fail); try go_wp2)
                            go_ret
                            exact ⟨by first | rfl | (simp [errW_none, errW_some] <;> rfl) | (simp only [← hji30]; first | rfl | (simp [errW_none, errW_some] <;> rfl)) | (simp [*, errW_none, errW_some] <;> rfl), by repeat (first | (with_reducible first | exact HB.out | apply below_alloc | apply pw_below_drewN | apply below_drew1 | refine below_set ?_ GE203.out) | exact HB.out)⟩
                          · rw [if_neg c37] at H
                            exact absurd H (by simp)
                        · rw [if_neg c34] at H
                          exact absurd H (by simp)
                      · rw [if_neg c33] at H
                        exact absurd H (by simp)
                    · rw [if_neg c32] at H
                      exact absurd H (by simp)
                  · rw [if_neg c31] at H
                    exact absurd H (by simp)
                · replace c29 := Bool.eq_false_iff.mpr c29
                  subst c29
                  have H1 : (if (wrap64 ((t209.size : Int) + t208)) ≥ (-5) then (num_Text.j3 kj22 t209 (wrap64 ((t209.size : Int) + t208)) x5_3 (decide ((wrap64 ((t209.size : Int) + t208)) ≤ 0))) else (num_Text.j3 kj22 t209 (wrap64 ((t209.size : Int) + t208)) x5_3 false)) = some r := by rw [if_neg (show ¬ (false = true) by decide)] at H; exact H
                  clear H
                  have H := H1
                  clear H1
                  have HC38 := Aside0.mk H
                  clear H
                  go_upto_region 11 with (fail)
                  repeat (go_quiet (fail); go_upto_region 11 with (fail))
                  go_cut [55] (fun v55 wc => ∃ (kq : Nat) (x55_37 : Bool), v55 = .bool x55_37 ∧ Aside0 (num_Text.j3 kq t209 (wrap64 ((t209.size : Int) + t208)) x5_3 x55_37 = some r) ∧ Aside0 (kq ≤ kj22) ∧ Aside0 (Kd.V (Kd.int .u32) 40 wc w.heap.size (fun k_ => k_ ≠ gb203) (.slice Ao9 t205.length co9) t205) ∧ Aside0 (wc.heap[gb203]? = some (.cells #[.bool t204, (.slice Ao9 t205.length co9), .int .i64 t208] 25 (0, 0))) ∧ Aside0 (Below w.heap.size w wc))
                  case first =>
                    have H := HC38.out
                    clear HC38
                    by_cases c39 : (wrap64 ((t209.size : Int) + t208)) ≥ (-5)
                    · rw [if_pos c39] at H
                      have c39b0 : decide ((-5) ≤ (wrap64 ((t209.size : Int) + t208))) = true := decide_eq_true c39
                      clear c39
                      (first | rw [c39b0] | (simp only [i64_w, i32_w]; rw [c39b0]) | skip)
                      have H' := Aside0.mk H
                      clear H
                      go_wp2
                      try (any_goals (with_reducible refine halt_absurd ?_; (try simp only [ByteArray.size_extract, ByteArray.size_append, ba_size_mk, List.size_toArray, List.length_cons, List.length_nil] at *) <;> omega))
                      repeat (go_quiet (fail); try go_wp2)
                      go_meet
                      case rel => exact ⟨_, (decide ((wrap64 ((t209.size : Int) + t208)) ≤ 0)), (by first | rfl | (simp; done) | (simp [*]; done)), H', ⟨by have := HJ3.out; have := HJ12.out; have := HJ22.out; first | omega | exact Nat.le_refl _⟩, ⟨by (with_reducible repeat (first | apply Kd.V_alloc | apply Kd.V_drewN | apply Kd.V_drew)); exact HO_204001.out⟩, ⟨by (with_reducible repeat (first | refine blk_drewN ?_ _ | refine blk_drew ?_ | refine blk_alloc ?_ _)); exact BK203.out⟩, ⟨by repeat (first | (with_reducible first | exact HB.out | apply below_alloc | apply pw_below_drewN | apply below_drew1 | refine below_set ?_ GE203.out) | exact HB.out)⟩⟩
                    · rw [if_neg c39] at H
                      have c39b0 : decide ((-5) ≤ (wrap64 ((t209.size : Int) + t208))) = false := decide_eq_false c39
                      clear c39
                      (first | rw [c39b0] | (simp only [i64_w, i32_w]; rw [c39b0]) | skip)
                      have H' := Aside0.mk H
                      clear H
                      go_wp2
                      try (any_goals (with_reducible refine halt_absurd ?_; (try simp only [ByteArray.size_extract, ByteArray.size_append, ba_size_mk, List.size_toArray, List.length_cons, List.length_nil] at *) <;> omega))
                      repeat (go_quiet (fail); try go_wp2)
                      go_meet
                      case rel => exact ⟨_, (false), (by first | rfl | (simp; done) | (simp [*]; done)), H', ⟨by have := HJ3.out; have := HJ12.out; have := HJ22.out; first | omega | exact Nat.le_refl _⟩, ⟨by (with_reducible repeat (first | apply Kd.V_alloc | apply Kd.V_drewN | apply Kd.V_drew)); exact HO_204001.out⟩, ⟨by (with_reducible repeat (first | refine blk_drewN ?_ _ | refine blk_drew ?_ | refine blk_alloc ?_ _)); exact BK203.out⟩, ⟨by repeat (first | (with_reducible first | exact HB.out | apply below_alloc | apply pw_below_drewN | apply below_drew1 | refine below_set ?_ GE203.out) | exact HB.out)⟩⟩
                  case rest =>
                    clear HC38
                    try clear c1
                    try clear c2
                    try clear p2
                    try clear c3
                    try clear p6
                    try clear c12
                    try clear c14
                    try clear c14b0
                    try clear c17
                    try clear c18
                    try clear c18b0
                    try clear c18b1
                    try clear c18b2
                    try clear c20
                    try clear c20b0
                    try clear c20b1
                    try clear c20b2
                    try clear c24
                    try clear c24b0
                    try clear c25
                    try clear c25b0
                    try clear c29
                    try clear c31
                    try clear c31b0
                    try clear c31b1
                    try clear c32
                    try clear c32b0
                    try clear c32b1
                    try clear c33
                    try clear c33b0
                    try clear c33b1
                    try clear c33b2
                    try clear c34
                    try clear c34b0
                    try clear c34b1
                    try clear c34b2
                    try clear c35
                    try clear c35b0
                    try clear c36
                    try clear c36b0
                    try clear c37
                    try clear c37b0
                    try clear c37b1
                    try clear c37b2
                    try clear c39
                    try clear c39b0
                    try clear hcz11_0
                    try clear hcz11_1
                    try clear hcz11_2
                    try clear hcz15_0
                    try clear hcz15_1
                    try clear hcz15_2
                    try clear hcz16_0
                    try clear hcz16_1
                    try clear hcz16_2
                    try clear hcz21_0
                    try clear hcz21_1
                    try clear hcz21_2
                    try clear hcz26_0
                    try clear hcz26_1
                    try clear hcz26_2
                    try clear hcz27_0
                    try clear hcz27_1
                    try clear hcz27_2
                    try clear hcz28_0
                    try clear hcz28_1
                    try clear hcz28_2
                    try clear hcz6_0
                    try clear hcz6_1
                    try clear hcz6_2
                    try clear hcz8_0
                    try clear hcz8_1
                    try clear hcz8_2
                    try clear hfz11_0
                    try clear hfz11_1
                    try clear hfz11_2
                    try clear hfz15_0
                    try clear hfz15_1
                    try clear hfz15_2
                    try clear hfz16_0
                    try clear hfz16_1
                    try clear hfz16_2
                    try clear hfz21_0
                    try clear hfz21_1
                    try clear hfz21_2
                    try clear hfz26_0
                    try clear hfz26_1
                    try clear hfz26_2
                    try clear hfz27_0
                    try clear hfz27_1
                    try clear hfz27_2
                    try clear hfz28_0
                    try clear hfz28_1
                    try clear hfz28_2
                    try clear hfz6_0
                    try clear hfz6_1
                    try clear hfz6_2
                    try clear hfz8_0
                    try clear hfz8_1
                    try clear hfz8_2
                    try clear p2
                    try clear p6
                    obtain ⟨kq, x55_37, rfl, HA, HJ37, HO_204001, BK203, HB⟩ := hcut
                    cases kq with
                    | zero => exact absurd HA.out (by simp [num_Text.j3])
                    | succ kj37 =>
                      have H := HA.out
                      clear HA
                      simp only [num_Text.j3] at H
                      by_cases c40 : x55_37 = true
                      · subst c40
                        have H1 : (if x5_3.size + 2 ≤ 9223372036854775807 then ((strings_Repeat.f (⟨#[48]⟩ : ByteArray) (wrap64 (-(wrap64 ((t209.size : Int) + t208))))).bind fun t211 => (if (x5_3 ++ (⟨#[48, 46]⟩ : ByteArray)).size + t211.size ≤ 9223372036854775807 then (if ((x5_3 ++ (⟨#[48, 46]⟩ : ByteArray)) ++ t211).size + t209.size ≤ 9223372036854775807 then (some (((x5_3 ++ (⟨#[48, 46]⟩ : ByteArray)) ++ t211) ++ t209)) else (none)) else (none))) else (none)) = some r := by rw [if_pos rfl] at H; exact H
                        clear H
                        have H := H1
                        clear H1
                        by_cases c41 : x5_3.size + 2 ≤ 9223372036854775807
                        · rw [if_pos c41] at H
                          have c41b0 := eq_true c41
                          have c41b1 : decide (x5_3.size + 2 ≤ 9223372036854775807) = true := decide_eq_true c41
                          try have c41b2 : (9223372036854775807 < x5_3.size + 2) = False := eq_false (Nat.not_lt.2 c41)
                          replace H := Option.bind_eq_some_iff.mp H
                          obtain ⟨t211, A420, H⟩ := H
                          replace H : (if (x5_3 ++ (⟨#[48, 46]⟩ : ByteArray)).size + t211.size ≤ 9223372036854775807 then (if ((x5_3 ++ (⟨#[48, 46]⟩ : ByteArray)) ++ t211).size + t209.size ≤ 9223372036854775807 then (some (((x5_3 ++ (⟨#[48, 46]⟩ : ByteArray)) ++ t211) ++ t209)) else (none)) else (none)) = some r := H
                          have A42 := Aside0.mk A420
                          clear A420
                          by_cases c43 : (x5_3 ++ (⟨#[48, 46]⟩ : ByteArray)).size + t211.size ≤ 9223372036854775807
                          · rw [if_pos c43] at H
                            have c43b0 := eq_true c43
                            have c43b1 : decide ((x5_3 ++ (⟨#[48, 46]⟩ : ByteArray)).size + t211.size ≤ 9223372036854775807) = true := decide_eq_true c43
                            try have c43b2 : (9223372036854775807 < (x5_3 ++ (⟨#[48, 46]⟩ : ByteArray)).size + t211.size) = False := eq_false (Nat.not_lt.2 c43)
                            by_cases c44 : ((x5_3 ++ (⟨#[48, 46]⟩ : ByteArray)) ++ t211).size + t209.size ≤ 9223372036854775807
                            · rw [if_pos c44] at H
                              have c44b0 := eq_true c44
                              have c44b1 : decide (((x5_3 ++ (⟨#[48, 46]⟩ : ByteArray)) ++ t211).size + t209.size ≤ 9223372036854775807) = true := decide_eq_true c44
                              try have c44b2 : (9223372036854775807 < ((x5_3 ++ (⟨#[48, 46]⟩ : ByteArray)) ++ t211).size + t209.size) = False := eq_false (Nat.not_lt.2 c44)
                              obtain rfl := Option.some.inj H
                              go_wp2_with (first | (go_at_call 35; (with_reducible refine (strings_Repeat.calls (⟨#[48]⟩ : ByteArray) (wrap64 (-(wrap64 ((t209.size : Int) + t208)))) t211 _ A42.out).mono ?_); rintro e w45 ⟨rfl, hb⟩; have n0_ := Aside0.mk (Kd.V_below (by (with_reducible repeat (first | apply Kd.V_alloc | apply Kd.V_drewN | apply Kd.V_drew)); exact HO_204001.out) hb); have n1_ := Aside0.mk (blk_below (g := gb203) (o := .cells #[.bool t204, .slice Ao9 t205.length co9, .int .i64 t208] 25 (0, 0)) (by (with_reducible repeat (first | refine blk_drewN ?_ _ | refine blk_drew ?_ | refine blk_alloc ?_ _)); exact BK203.out) hb); have n2_ := Aside0.mk (below_step (by repeat (first | (with_reducible first | exact HB.out | apply below_alloc | apply pw_below_drewN | apply below_drew1 | refine below_set ?_ GE203.out) | exact HB.out)) hb); clear HO_204001; clear BK203; clear HB; have HO_204001 := n0_; have BK203 := n1_; have HB := n2_; clear n0_ n1_ n2_; (try clear hb); (try clear hb2); (try clear hk); (try clear hi)))
                              try (any_goals (with_reducible refine halt_absurd ?_; (try simp only [ByteArray.size_extract, ByteArray.size_append, ba_size_mk, List.size_toArray, List.length_cons, List.length_nil] at *) <;> omega))
                              repeat (go_quiet (first | (go_at_call 35; (with_reducible refine (strings_Repeat.calls (⟨#[48]⟩ : ByteArray) (wrap64 (-(wrap64 ((t209.size : Int) + t208)))) t211 _ A42.out).mono ?_); rintro e w45 ⟨rfl, hb⟩; have n0_ := Aside0.mk (Kd.V_below (by (with_reducible repeat (first | apply Kd.V_alloc | apply Kd.V_drewN | apply Kd.V_drew)); exact HO_204001.out) hb); have n1_ := Aside0.mk (blk_below (g := gb203) (o := .cells #[.bool t204, .slice Ao9 t205.length co9, .int .i64 t208] 25 (0, 0)) (by (with_reducible repeat (first | refine blk_drewN ?_ _ | refine blk_drew ?_ | refine blk_alloc ?_ _)); exact BK203.out) hb); have n2_ := Aside0.mk (below_step (by repeat (first | (with_reducible first | exact HB.out | apply below_alloc | apply pw_below_drewN | apply below_drew1 | refine below_set ?_ GE203.out) | exact HB.out)) hb); clear HO_204001; clear BK203; clear HB; have HO_204001 := n0_; have BK203 := n1_; have HB := n2_; clear n0_ n1_ n2_; (try clear hb); (try clear hb2); (try clear hk); (try clear hi))); try go_wp2_with (first | (go_at_call 35; (with_reducible refine (strings_Repeat.calls (⟨#[48]⟩ : ByteArray) (wrap64 (-(wrap64 ((t209.size : Int) + t208)))) t211 _ A42.out).mono ?_); rintro e w45 ⟨rfl, hb⟩; have n0_ := Aside0.mk (Kd.V_below (by (with_reducible repeat (first | apply Kd.V_alloc | apply Kd.V_drewN | apply Kd.V_drew)); exact HO_204001.out) hb); have n1_ := Aside0.mk (blk_below (g := gb203) (o := .cells #[.bool t204, .slice Ao9 t205.length co9, .int .i64 t208] 25 (0, 0)) (by (with_reducible repeat (first | refine blk_drewN ?_ _ | refine blk_drew ?_ | refine blk_alloc ?_ _)); exact BK203.out) hb); have n2_ := Aside0.mk (below_step (by repeat (first | (with_reducible first | exact HB.out | apply below_alloc | apply pw_below_drewN | apply below_drew1 | refine below_set ?_ GE203.out) | exact HB.out)) hb); clear HO_204001; clear BK203; clear HB; have HO_204001 := n0_; have BK203 := n1_; have HB := n2_; clear n0_ n1_ n2_; (try clear hb); (try clear hb2); (try clear hk); (try clear hi))))
                              go_ret
                              exact ⟨by first | rfl | (simp [errW_none, errW_some] <;> rfl) | (simp [*, errW_none, errW_some] <;> rfl), by repeat (first | (with_reducible first | exact HB.out | apply below_alloc | apply pw_below_drewN | apply below_drew1 | refine below_set ?_ GE203.out) | exact HB.out)⟩
                            · rw [if_neg c44] at H
                              exact absurd H (by simp)
                          · rw [if_neg c43] at H
                            exact absurd H (by simp)
                        · rw [if_neg c41] at H
                          exact absurd H (by simp)
                      · replace c40 := Bool.eq_false_iff.mpr c40
                        subst c40
                        have H1 : ((num_science.f kj37 t209 (wrap64 ((t209.size : Int) + t208))).bind fun t212 => (if x5_3.size + t212.size ≤ 9223372036854775807 then (some (x5_3 ++ t212)) else (none))) = some r := by rw [if_neg (show ¬ (false = true) by decide)] at H; exact H
                        clear H
                        have H := H1
                        clear H1
                        replace H := Option.bind_eq_some_iff.mp H
                        obtain ⟨t212, A460, H⟩ := H
                        replace H : (if x5_3.size + t212.size ≤ 9223372036854775807 then (some (x5_3 ++ t212)) else (none)) = some r := H
                        have A46 := Aside0.mk A460
                        clear A460
                        by_cases c47 : x5_3.size + t212.size ≤ 9223372036854775807
                        · rw [if_pos c47] at H
                          have c47b0 := eq_true c47
                          have c47b1 : decide (x5_3.size + t212.size ≤ 9223372036854775807) = true := decide_eq_true c47
                          try have c47b2 : (9223372036854775807 < x5_3.size + t212.size) = False := eq_false (Nat.not_lt.2 c47)
                          obtain rfl := Option.some.inj H
                          go_wp2_with (first | (go_at_call 36; (with_reducible refine (num_science.calls kj37 t209 (wrap64 ((t209.size : Int) + t208)) t212 _ ?side1 A46.out).mono ?_); (case side1 => first | exact hL.out | exact hL.out.drewN _ | exact hL.out.drew | exact hL.out.below (by repeat (first | (with_reducible first | exact HB.out | apply below_alloc | apply pw_below_drewN | apply below_drew1 | refine below_set ?_ GE203.out) | exact HB.out))); rintro e w48 ⟨rfl, hb⟩; have n0_ := Aside0.mk (Kd.V_below (by (with_reducible repeat (first | apply Kd.V_alloc | apply Kd.V_drewN | apply Kd.V_drew)); exact HO_204001.out) hb); have n1_ := Aside0.mk (blk_below (g := gb203) (o := .cells #[.bool t204, .slice Ao9 t205.length co9, .int .i64 t208] 25 (0, 0)) (by (with_reducible repeat (first | refine blk_drewN ?_ _ | refine blk_drew ?_ | refine blk_alloc ?_ _)); exact BK203.out) hb); have n2_ := Aside0.mk (below_step (by repeat (first | (with_reducible first | exact HB.out | apply below_alloc | apply pw_below_drewN | apply below_drew1 | refine below_set ?_ GE203.out) | exact HB.out)) hb); clear HO_204001; clear BK203; clear HB; have HO_204001 := n0_; have BK203 := n1_; have HB := n2_; clear n0_ n1_ n2_; (try clear hb); (try clear hb2); (try clear hk); (try clear hi)))
                          try (any_goals (with_reducible refine halt_absurd ?_; (try simp only [ByteArray.size_extract, ByteArray.size_append, ba_size_mk, List.size_toArray, List.length_cons, List.length_nil] at *) <;> omega))
                          repeat (go_quiet (first | (go_at_call 36; (with_reducible refine (num_science.calls kj37 t209 (wrap64 ((t209.size : Int) + t208)) t212 _ ?side1 A46.out).mono ?_); (case side1 => first | exact hL.out | exact hL.out.drewN _ | exact hL.out.drew | exact hL.out.below (by repeat (first | (with_reducible first | exact HB.out | apply below_alloc | apply pw_below_drewN | apply below_drew1 | refine below_set ?_ GE203.out) | exact HB.out))); rintro e w48 ⟨rfl, hb⟩; have n0_ := Aside0.mk (Kd.V_below (by (with_reducible repeat (first | apply Kd.V_alloc | apply Kd.V_drewN | apply Kd.V_drew)); exact HO_204001.out) hb); have n1_ := Aside0.mk (blk_below (g := gb203) (o := .cells #[.bool t204, .slice Ao9 t205.length co9, .int .i64 t208] 25 (0, 0)) (by (with_reducible repeat (first | refine blk_drewN ?_ _ | refine blk_drew ?_ | refine blk_alloc ?_ _)); exact BK203.out) hb); have n2_ := Aside0.mk (below_step (by repeat (first | (with_reducible first | exact HB.out | apply below_alloc | apply pw_below_drewN | apply below_drew1 | refine below_set ?_ GE203.out) | exact HB.out)) hb); clear HO_204001; clear BK203; clear HB; have HO_204001 := n0_; have BK203 := n1_; have HB := n2_; clear n0_ n1_ n2_; (try clear hb); (try clear hb2); (try clear hk); (try clear hi))); try go_wp2_with (first | (go_at_call 36; (with_reducible refine (num_science.calls kj37 t209 (wrap64 ((t209.size : Int) + t208)) t212 _ ?side1 A46.out).mono ?_); (case side1 => first | exact hL.out | exact hL.out.drewN _ | exact hL.out.drew | exact hL.out.below (by repeat (first | (with_reducible first | exact HB.out | apply below_alloc | apply pw_below_drewN | apply below_drew1 | refine below_set ?_ GE203.out) | exact HB.out))); rintro e w48 ⟨rfl, hb⟩; have n0_ := Aside0.mk (Kd.V_below (by (with_reducible repeat (first | apply Kd.V_alloc | apply Kd.V_drewN | apply Kd.V_drew)); exact HO_204001.out) hb); have n1_ := Aside0.mk (blk_below (g := gb203) (o := .cells #[.bool t204, .slice Ao9 t205.length co9, .int .i64 t208] 25 (0, 0)) (by (with_reducible repeat (first | refine blk_drewN ?_ _ | refine blk_drew ?_ | refine blk_alloc ?_ _)); exact BK203.out) hb); have n2_ := Aside0.mk (below_step (by repeat (first | (with_reducible first | exact HB.out | apply below_alloc | apply pw_below_drewN | apply below_drew1 | refine below_set ?_ GE203.out) | exact HB.out)) hb); clear HO_204001; clear BK203; clear HB; have HO_204001 := n0_; have BK203 := n1_; have HB := n2_; clear n0_ n1_ n2_; (try clear hb); (try clear hb2); (try clear hk); (try clear hi))))
                          go_ret
                          exact ⟨by first | rfl | (simp [errW_none, errW_some] <;> rfl) | (simp [*, errW_none, errW_some] <;> rfl), by repeat (first | (with_reducible first | exact HB.out | apply below_alloc | apply pw_below_drewN | apply below_drew1 | refine below_set ?_ GE203.out) | exact HB.out)⟩
                        · rw [if_neg c47] at H
                          exact absurd H (by simp)

end Go.Proofs.YtmkdcokdilllcaaDoor.X
/- The code's text of a number. -/
namespace Go.Proofs.YtmkdcokdilllcaaDoor.X
open Go.RowKit Go.Proofs.YtmkdcokdilllcaaDoorW.PrintWords Go.Proofs.YtmkdcokdilllcaaDoorW.PrintMore
set_option linter.unusedVariables false
set_option linter.unusedSimpArgs false
theorem Ev.succN {α : Type} {g : Nat → Option α} {r : α} (h : Ev (fun k => g (k + 1)) r) : Ev g r := Ev.step (fun _ => rfl) h
theorem ba_ext {x y : ByteArray} (h : x.data.toList = y.data.toList) : x = y := ByteArray.ext (Array.toList_inj.1 h)
theorem ba_mk (l : List UInt8) : (ByteArray.mk l.toArray).data.toList = l := rfl
theorem ba_len (l : List UInt8) : (ByteArray.mk l.toArray).size = l.length := by rw [← dlen]
theorem itoa_of {v : Int} (h0 : 0 ≤ v) (h1 : v ≤ 1000000) : strconv_Itoa_62.f v = some ⟨(Lib.decDigits v.toNat).toArray⟩ := by
  unfold strconv_Itoa_62.f
  rw [if_pos ⟨by omega, by omega⟩]
  have := Lib.itoa_nonneg v.toNat
  rw [show ((v.toNat : Nat) : Int) = v by omega] at this
  rw [this]
theorem digits_short {v : Int} (h0 : 0 ≤ v) (h1 : v ≤ 100000) : (Lib.decDigits v.toNat).length ≤ 6 := digits_len_le (by decide) (by omega)
/-- A number's text with an exponent. -/
theorem science_of (l : List UInt8) (p : Int) (h0 : l ≠ []) (hl : l.length ≤ 900) (hp0 : -2000 ≤ p) (hp1 : p ≤ 2500) : Ev (fun k => num_science.f k ⟨l.toArray⟩ p)
    ⟨(l.take 1 ++ (frac (if 1 < l.length then some (l.drop 1) else none) ++ expo (some (101, decide (p ≤ 0), true, Lib.decDigits (if 0 < p then (p - 1).toNat else (1 - p).toNat))))).toArray⟩ := by
  have hpos : 0 < l.length := List.length_pos_iff.2 h0
  have hj : ∀ (x : List UInt8), x.length ≤ 2000 → Ev (fun k => num_science.j0 k p ⟨x.toArray⟩) ⟨(x ++ expo (some (101, decide (p ≤ 0), true, Lib.decDigits (if 0 < p then (p - 1).toNat else (1 - p).toNat)))).toArray⟩ := by
    intro x hx
    refine Ev.succN (Ev.congr (fun k => ?_) (Ev.now _))
    have e2 : (ByteArray.mk #[101, 43]).size = 2 := rfl
    have e3 : (ByteArray.mk #[101, 45]).size = 2 := rfl
    by_cases h : 0 < p
    · have c0 : p > 0 := h
      have c1 : ¬ p ≤ 0 := by omega
      have hw : wrap64 (p - 1) = p - 1 := wrap64_ok (by omega) (by omega)
      have hi := itoa_of (v := p - 1) (by omega) (by omega)
      have hs := digits_short (v := p - 1) (by omega) (by omega)
      simp only [num_science.j0, c0, if_true, hw, hi, Option.bind_some, ba_len, ByteArray.size_append, e2]
      rw [if_pos (by omega), if_pos (by omega)]
      congr 1
      refine ba_ext ?_
      simp only [append_list, ba_mk, expo, c1, decide_false, Bool.false_eq_true, if_false, if_true, h]
      simp
    · have c0 : ¬ p > 0 := h
      have c1 : p ≤ 0 := by omega
      have hw : wrap64 (1 - p) = 1 - p := wrap64_ok (by omega) (by omega)
      have hi := itoa_of (v := 1 - p) (by omega) (by omega)
      have hs := digits_short (v := 1 - p) (by omega) (by omega)
      simp only [num_science.j0, c0, if_false, hw, hi, Option.bind_some, ba_len, ByteArray.size_append, e3]
      rw [if_pos (by omega), if_pos (by omega)]
      congr 1
      refine ba_ext ?_
      simp only [append_list, ba_mk, expo, c1, decide_true, if_true, if_false, h]
      simp
  unfold num_science.f
  have c0 : (0 : Int) ≤ 1 := by decide
  have c1 : (1 : Int) ≤ ((ByteArray.mk l.toArray).size : Int) := by rw [ba_len]; omega
  have x1 : (ByteArray.mk l.toArray).extract 0 1 = ⟨(l.take 1).toArray⟩ := ba_ext (by rw [extract_list, ba_mk, ba_mk]; simp)
  have x2 : (ByteArray.mk l.toArray).extract 1 (ByteArray.mk l.toArray).size = ⟨(l.drop 1).toArray⟩ := ba_ext (by
    rw [extract_list, ba_mk, ba_mk, ba_len, List.take_of_length_le]
    rw [List.length_drop]; omega)
  simp only [c0, c1, if_true, x1, x2]
  by_cases h : 1 < l.length
  · have c2 : ((ByteArray.mk l.toArray).size : Int) > 1 := by rw [ba_len]; omega
    have e1 : (ByteArray.mk #[46]).size = 1 := rfl
    have s1 : (l.drop 1).length = l.length - 1 := List.length_drop
    have s2 : (l.take 1).length = 1 := by rw [List.length_take]; omega
    have k1 : 1 + (ByteArray.mk (l.drop 1).toArray).size ≤ 9223372036854775807 := by rw [ba_len]; omega
    have k2 : (ByteArray.mk (l.take 1).toArray).size + (ByteArray.mk #[46] ++ ByteArray.mk (l.drop 1).toArray).size ≤ 9223372036854775807 := by rw [ByteArray.size_append, e1, ba_len, ba_len]; omega
    simp only [c2, k1, k2, if_true]
    have e : (ByteArray.mk (l.take 1).toArray ++ (ByteArray.mk #[46] ++ ByteArray.mk (l.drop 1).toArray)) = ⟨(l.take 1 ++ (46 :: l.drop 1)).toArray⟩ := ba_ext (by simp only [append_list, ba_mk]; rfl)
    rw [e]
    have := hj (l.take 1 ++ (46 :: l.drop 1)) (by rw [List.length_append, List.length_cons]; omega)
    simp only [h, if_true, frac]
    rw [List.append_assoc] at this
    exact this
  · have c2 : ¬ ((ByteArray.mk l.toArray).size : Int) > 1 := by rw [ba_len]; omega
    simp only [c2, if_false, h, frac, List.nil_append]
    exact hj (l.take 1) (by rw [List.length_take]; omega)
theorem expo_len (c : UInt8) (less plus : Bool) (d : List UInt8) : (expo (some (c, less, plus, d))).length ≤ d.length + 2 := by
  cases less <;> cases plus <;> simp [expo]
set_option maxHeartbeats 2000000 in
theorem num_text_good {g : Bool} {n : Nat} {E : Int} (h : GoodNum g n E) : Ev (fun k => num_Text.f k g (lim n) E) ⟨(textS g n E).toArray⟩ := by
  have e1 := h.lo
  have e2 := h.hi
  have l1 := nDigits_le h.limbs
  have l0 := Lib.nDigits_pos n
  have o1 := num_of_eq (lim_ok n) (by have := h.limbs; omega) g E
  rw [of_good h] at o1
  have hd := Lib.decDigits_length n
  have hne := digits_ne n
  have hsz := size_digits n
  have hw : wrap64 ((Lib.nDigits n : Int) + E) = (Lib.nDigits n : Int) + E := wrap64_ok (by omega) (by omega)
  have hs1 : (sgn g).length ≤ 1 := by cases g <;> decide
  have key : Ev (fun k => num_Text.j0 k ⟨(Lib.decDigits n).toArray⟩ ((Lib.nDigits n : Int) + E) ⟨(sgn g).toArray⟩ g (lim n) E) ⟨(textS g n E).toArray⟩ := by
    unfold textS
    rw [hd]
    generalize Lib.decDigits n = d at *
    generalize Lib.nDigits n = D at *
    have hdot : (ByteArray.mk #[46]).size = 1 := rfl
    have hzd : (ByteArray.mk #[48, 46]).size = 2 := rfl
    by_cases cA : 0 ≤ E ∧ (D : Int) + E ≤ 21
    · have a0 : E ≥ 0 := cA.1
      have a1 : (D : Int) + E ≤ 21 := cA.2
      rw [if_pos cA]
      refine Ev.succN (Ev.succN (Ev.congr (fun k => ?_) (Ev.now _)))
      simp only [num_Text.j0, num_Text.j1, a0, a1, decide_true, if_true, repeat_zeros cA.1 (show E ≤ 1099511627776 by omega), Option.bind_some, ba_len, ByteArray.size_append, List.length_replicate]
      rw [if_pos (by omega), if_pos (by omega)]
      congr 1
      refine ba_ext ?_
      simp only [append_list, ba_mk, partsL, frac, expo]
      simp
    · rw [if_neg cA]
      have hj1 : ∀ X : ByteArray, Ev (fun k => num_Text.j1 k ⟨d.toArray⟩ ((D : Int) + E) ⟨(sgn g).toArray⟩ false g (lim n) E) X → Ev (fun k => num_Text.j0 k ⟨d.toArray⟩ ((D : Int) + E) ⟨(sgn g).toArray⟩ g (lim n) E) X := by
        intro X hX
        refine Ev.succN ?_
        by_cases a0 : E ≥ 0
        · have a1 : ¬ (D : Int) + E ≤ 21 := fun h => cA ⟨a0, h⟩
          simp only [num_Text.j0, a0, a1, if_true, decide_false]
          exact hX
        · simp only [num_Text.j0, a0, if_false]
          exact hX
      refine hj1 _ (Ev.succN ?_)
      by_cases cB : E < 0 ∧ 1 ≤ (D : Int) + E ∧ (D : Int) + E ≤ 21
      · rw [if_pos cB]
        obtain ⟨b0, b1, b2⟩ := cB
        have b1' : (D : Int) + E ≥ 1 := b1
        simp only [num_Text.j1, Bool.false_eq_true, if_false, b0, b1', b2, if_true, decide_true]
        refine Ev.succN (Ev.congr (fun k => ?_) (Ev.now _))
        have b3 : (0 : Int) ≤ (D : Int) + E := by omega
        have b4 : (D : Int) + E ≤ (d.length : Int) := by omega
        have x1 : (ByteArray.mk d.toArray).extract 0 ((D : Int) + E).toNat = ⟨(d.take ((D : Int) + E).toNat).toArray⟩ := ba_ext (by rw [extract_list, ba_mk, ba_mk]; simp)
        have x2 : (ByteArray.mk d.toArray).extract ((D : Int) + E).toNat d.length = ⟨(d.drop ((D : Int) + E).toNat).toArray⟩ := ba_ext (by
          rw [extract_list, ba_mk, ba_mk, List.take_of_length_le]
          rw [List.length_drop]; omega)
        simp only [num_Text.j2, if_true, b3, b4, x1, x2, ba_len, ByteArray.size_append, List.length_take, List.length_drop, hdot]
        rw [if_pos (by omega), if_pos (by omega), if_pos (by omega)]
        congr 1
        refine ba_ext ?_
        simp only [append_list, ba_mk, partsL, frac, expo]
        simp
      · rw [if_neg cB]
        have hj2 : ∀ X : ByteArray, Ev (fun k => num_Text.j2 k ⟨d.toArray⟩ ((D : Int) + E) ⟨(sgn g).toArray⟩ false) X → Ev (fun k => num_Text.j1 (k + 1) ⟨d.toArray⟩ ((D : Int) + E) ⟨(sgn g).toArray⟩ false g (lim n) E) X := by
          intro X hX
          by_cases a0 : E < 0
          · by_cases a1 : (D : Int) + E ≥ 1
            · have a2 : ¬ (D : Int) + E ≤ 21 := fun h => cB ⟨a0, a1, h⟩
              simp only [num_Text.j1, Bool.false_eq_true, a0, a1, a2, if_true, if_false, decide_false]
              exact hX
            · simp only [num_Text.j1, Bool.false_eq_true, a0, a1, if_true, if_false]
              exact hX
          · simp only [num_Text.j1, Bool.false_eq_true, a0, if_false]
            exact hX
        refine hj2 _ (Ev.succN ?_)
        by_cases cC : -5 ≤ (D : Int) + E ∧ (D : Int) + E ≤ 0
        · rw [if_pos cC]
          have b0 : (D : Int) + E ≥ -5 := cC.1
          have b1 : (D : Int) + E ≤ 0 := cC.2
          have b2 : wrap64 (-((D : Int) + E)) = -((D : Int) + E) := wrap64_ok (by omega) (by omega)
          simp only [num_Text.j2, Bool.false_eq_true, if_false, b0, b1, if_true, decide_true]
          refine Ev.succN (Ev.congr (fun k => ?_) (Ev.now _))
          simp only [num_Text.j3, if_true, b2, repeat_zeros (show 0 ≤ -((D : Int) + E) by omega) (show -((D : Int) + E) ≤ 1099511627776 by omega), Option.bind_some, ba_len, ByteArray.size_append, List.length_replicate, hzd]
          rw [if_pos (by omega), if_pos (by omega), if_pos (by omega)]
          congr 1
          refine ba_ext ?_
          simp only [append_list, ba_mk, partsL, frac, expo]
          simp
        · rw [if_neg cC]
          have hj3 : ∀ X : ByteArray, Ev (fun k => num_Text.j3 k ⟨d.toArray⟩ ((D : Int) + E) ⟨(sgn g).toArray⟩ false) X → Ev (fun k => num_Text.j2 (k + 1) ⟨d.toArray⟩ ((D : Int) + E) ⟨(sgn g).toArray⟩ false) X := by
            intro X hX
            by_cases a0 : (D : Int) + E ≥ -5
            · have a1 : ¬ (D : Int) + E ≤ 0 := fun h => cC ⟨a0, h⟩
              simp only [num_Text.j2, Bool.false_eq_true, a0, a1, if_true, if_false, decide_false]
              exact hX
            · simp only [num_Text.j2, Bool.false_eq_true, a0, if_false]
              exact hX
          refine hj3 _ (Ev.succN ?_)
          simp only [num_Text.j3, Bool.false_eq_true, if_false]
          refine Ev.bind (science_of d ((D : Int) + E) hne (by omega) (by omega) (by omega)) ?_
          have hx : (expo (some (101, decide ((D : Int) + E ≤ 0), true, Lib.decDigits (if 0 < (D : Int) + E then ((D : Int) + E - 1).toNat else (1 - ((D : Int) + E)).toNat)))).length ≤ 10 := by
            have hk : (Lib.decDigits (if 0 < (D : Int) + E then ((D : Int) + E - 1).toNat else (1 - ((D : Int) + E)).toNat)).length ≤ 6 := by
              split
              · exact digits_short (v := (D : Int) + E - 1) (by omega) (by omega)
              · exact digits_short (v := 1 - ((D : Int) + E)) (by omega) (by omega)
            have ha := expo_len 101 (decide ((D : Int) + E ≤ 0)) true (Lib.decDigits (if 0 < (D : Int) + E then ((D : Int) + E - 1).toNat else (1 - ((D : Int) + E)).toNat))
            omega
          have hf : (frac (if 1 < d.length then some (d.drop 1) else none)).length ≤ 901 := by
            split
            · simp only [frac, List.length_cons, List.length_drop]; omega
            · exact Nat.zero_le _
          have hlen : (ByteArray.mk (sgn g).toArray).size + (ByteArray.mk (d.take 1 ++ (frac (if 1 < d.length then some (d.drop 1) else none) ++ expo (some (101, decide ((D : Int) + E ≤ 0), true, Lib.decDigits (if 0 < (D : Int) + E then ((D : Int) + E - 1).toNat else (1 - ((D : Int) + E)).toNat))))).toArray).size ≤ 9223372036854775807 := by
            rw [ba_len, ba_len, List.length_append, List.length_append, List.length_take]
            omega
          simp only [hlen, if_true]
          refine Ev.congr (fun k => ?_) (Ev.now _)
          congr 1
          refine ba_ext ?_
          rw [hd]
          simp only [append_list, ba_mk, partsL, List.append_nil]
  refine Ev.congr (fun k => rfl) (Ev.bind o1 ?_)
  simp only [digits_of h.limbs, Option.bind_some, hsz, hw]
  cases g
  · simp only [Bool.false_eq_true, if_false]
    exact key
  · simp only [if_true]
    exact key
end Go.Proofs.YtmkdcokdilllcaaDoor.X
-- A walk, written by a program of this session (xp.py).
namespace Go.Proofs.YtmkdcokdilllcaaDoor.X
open Go.RowKit Go.Proofs.YtmkdcokdilllcaaDoorW.PrintWords Go.Proofs.YtmkdcokdilllcaaDoorW.PrintLast Go.Proofs.YtmkdcokdilllcaaDoorW.PrintMore
attribute [local go_sem] max2_int min2_int max_two min_two max_three min_three max_four min_four
set_option linter.unusedVariables false
set_option linter.unusedSimpArgs false

/-! ### erratumlaw00_Place: function 15 -/
def erratumlaw00_Place.f (a0 : Int) (a1 : Int) : Option (Int) := if a1 = 0 then (none) else (if (Int.tmod a0 a1) < 0 then (some (wrap64 ((Int.tmod a0 a1) + a1))) else (some (Int.tmod a0 a1)))
set_option maxHeartbeats 8000000 in
set_option maxRecDepth 100000 in
theorem erratumlaw00_Place.calls (a0 : Int) (a1 : Int) (r : Int) (w : World) (h : erratumlaw00_Place.f a0 a1 = some r) :
    Calls Tryd.prog 15 #[.int .i64 a0, .int .i64 a1] w fun e w' => e = .returned (.int .i64 r) ∧ Drawn0 w w' := by
  have H : (if a1 = 0 then (none) else (if (Int.tmod a0 a1) < 0 then (some (wrap64 ((Int.tmod a0 a1) + a1))) else (some (Int.tmod a0 a1)))) = some r := h
  clear h
  by_cases c3 : a1 = 0
  · rw [if_pos c3] at H
    exact absurd H (by simp)
  · rw [if_neg c3] at H
    have c3b0 : (a1 == 0) = false := beq_eq_false_iff_ne.mpr c3
    have c3b1 : (a1 != 0) = true := bne_iff_ne.mpr c3
    by_cases c4 : (Int.tmod a0 a1) < 0
    · rw [if_pos c4] at H
      have c4b0 : decide ((Int.tmod a0 a1) < 0) = true := decide_eq_true c4
      clear c4
      obtain rfl := Option.some.inj H
      go_enter Tryd.func15, Tryd.ntmps15
      go_wp2
      go_ret
      exact ⟨by first | rfl | (simp; done) | (simp [*]; done), by repeat (first | exact Drawn0.refl _ | apply Drawn0.step)⟩
    · rw [if_neg c4] at H
      have c4b0 : decide ((Int.tmod a0 a1) < 0) = false := decide_eq_false c4
      clear c4
      obtain rfl := Option.some.inj H
      go_enter Tryd.func15, Tryd.ntmps15
      go_wp2
      go_ret
      exact ⟨by first | rfl | (simp; done) | (simp [*]; done), by repeat (first | exact Drawn0.refl _ | apply Drawn0.step)⟩

end Go.Proofs.YtmkdcokdilllcaaDoor.X
/- Places; a text of a number is read as it. -/
namespace Go.Proofs.YtmkdcokdilllcaaDoor.X
open Go.RowKit Go.Proofs.YtmkdcokdilllcaaDoorW.PrintWords Go.Proofs.YtmkdcokdilllcaaDoorW.PrintMore
set_option linter.unusedVariables false
set_option linter.unusedSimpArgs false
theorem place_of {v n : Int} (h0 : 0 < n) (h1 : n ≤ 1000000000000) : ∃ p, erratumlaw00_Place.f v n = some p ∧ 0 ≤ p ∧ p < n := by
  have ht1 := Int.tmod_lt_of_pos v h0
  have ht0 : -n < Int.tmod v n := by
    have h := Int.tmod_lt_of_pos (-v) h0
    rw [Int.neg_tmod] at h
    omega
  unfold erratumlaw00_Place.f
  rw [if_neg (by omega)]
  generalize Int.tmod v n = t at *
  by_cases hc : t < 0
  · rw [if_pos hc, wrap64_ok (by omega) (by omega)]
    exact ⟨_, rfl, by omega, by omega⟩
  · rw [if_neg hc]
    exact ⟨_, rfl, by omega, by omega⟩
theorem lim_small {n : Nat} (h0 : n ≠ 0) (h : n < 4294967296) : lim n = [(n : Int)] := by
  rw [lim_pos h0, Nat.mod_eq_of_lt h, Nat.div_eq_of_lt h, lim_zero]
/-- The text of a number that may be is read as it. -/
theorem parse_text {g : Bool} {n : Nat} {E : Int} (h : GoodNum g n E) : Ev (fun k => num_Parse.f k ⟨(textS g n E).toArray⟩) (g, lim n, E, 0) := by
  have hd : (Lib.decDigits n).length ≤ 900 := by rw [Lib.decDigits_length]; exact nDigits_le h.limbs
  have hl := text_len h hd
  have := num_text ⟨(textS g n E).toArray⟩ (by rw [ba_len]; omega)
  rw [ba_mk, text_back h hd] at this
  exact this
end Go.Proofs.YtmkdcokdilllcaaDoor.X
