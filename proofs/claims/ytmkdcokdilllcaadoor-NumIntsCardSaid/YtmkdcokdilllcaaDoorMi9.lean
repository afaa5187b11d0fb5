/- Whole numbers of Go are made, compared and told as they are: the law NumInts; no condition. -/
import Derived.Test.YtmkdcokdilllcaaDoorMi2
import Derived.Test.YtmkdcokdilllcaaDoorMi8
import Derived.Test.YtmkdcokdilllcaaDoorMi5
import Derived.Test.YtmkdcokdilllcaaDoorMi6
import Derived.Laws.BitsLemmas
-- A walk, written by a program of this session (xp.py).
namespace Go.Proofs.YtmkdcokdilllcaaDoor.X
open Go.RowKit Go.Proofs.YtmkdcokdilllcaaDoorW.PrintWords Go.Proofs.YtmkdcokdilllcaaDoorW.PrintLast Go.Proofs.YtmkdcokdilllcaaDoorW.PrintMore
attribute [local go_sem] max2_int min2_int max_two min_two max_three min_three max_four min_four
set_option linter.unusedVariables false
set_option linter.unusedSimpArgs false

/-! ### erratumlaw02_NumInts: function 8 -/
mutual
def erratumlaw02_NumInts.l0 : Nat → Int → Int → Bool → List Int → Bool → Int → Int → Bool → List Int → Int → Bool → List Int → Int → Option (Bool)
  | 0, _, _, _, _, _, _, _, _, _, _, _, _, _ => none
  | k + 1, x0, x1, x7, x8, x9, x10, x11, x599000, x599001, x599002, x600000, x600001, x600002 => if x11 ≥ 0 then (if x11 < (x8.length : Int) then (erratumlaw02_NumInts.l0 k x0 x1 x7 x8 x9 (IntKind.u64.wrap ((IntKind.u64.wrap (x10 * 4294967296)) + (IntKind.u64.wrap (rd x8 x11)))) (wrap64 (x11 - 1)) x599000 x599001 x599002 x600000 x600001 x600002) else (none)) else (if x0 < 0 then (erratumlaw02_NumInts.j1 k x0 x1 x7 x8 x9 x10 (IntKind.u64.wrap (-(IntKind.u64.wrap (x0)))) x599000 x599001 x599002 x600000 x600001 x600002) else (erratumlaw02_NumInts.j1 k x0 x1 x7 x8 x9 x10 (IntKind.u64.wrap (x0)) x599000 x599001 x599002 x600000 x600001 x600002))
def erratumlaw02_NumInts.j1 : Nat → Int → Int → Bool → List Int → Bool → Int → Int → Bool → List Int → Int → Bool → List Int → Int → Option (Bool)
  | 0, _, _, _, _, _, _, _, _, _, _, _, _, _ => none
  | k + 1, x0, x1, x7, x8, x9, x10, x12, x599000, x599001, x599002, x600000, x600001, x600002 => if x0 < x1 then (erratumlaw02_NumInts.j2 k x0 x1 x7 x8 x9 x10 x12 (-1) x599000 x599001 x599002 x600000 x600001 x600002) else (erratumlaw02_NumInts.j2 k x0 x1 x7 x8 x9 x10 x12 0 x599000 x599001 x599002 x600000 x600001 x600002)
def erratumlaw02_NumInts.j2 : Nat → Int → Int → Bool → List Int → Bool → Int → Int → Int → Bool → List Int → Int → Bool → List Int → Int → Option (Bool)
  | 0, _, _, _, _, _, _, _, _, _, _, _, _, _, _ => none
  | k + 1, x0, x1, x7, x8, x9, x10, x12, x13, x599000, x599001, x599002, x600000, x600001, x600002 => if x0 > x1 then (erratumlaw02_NumInts.j3 k x0 x1 x7 x8 x9 x10 x12 1 x599000 x599001 x599002 x600000 x600001 x600002) else (erratumlaw02_NumInts.j3 k x0 x1 x7 x8 x9 x10 x12 x13 x599000 x599001 x599002 x600000 x600001 x600002)
def erratumlaw02_NumInts.j3 : Nat → Int → Int → Bool → List Int → Bool → Int → Int → Int → Bool → List Int → Int → Bool → List Int → Int → Option (Bool)
  | 0, _, _, _, _, _, _, _, _, _, _, _, _, _, _ => none
  | k + 1, x0, x1, x7, x8, x9, x10, x12, x13, x599000, x599001, x599002, x600000, x600001, x600002 => if x9 = true then (if (x7 == (decide (x0 < 0))) = true then (if x10 = x12 then (if (x8.length : Int) ≤ 2 then ((num_Cmp.f k x599000 x599001 x599002 x600000 x600001 x600002).bind fun t606 => (if t606 = x13 then ((num_Same.f k x599000 x599001 x599002 x600000 x600001 x600002).bind fun t607 => (if (t607 == (x0 == x1)) = true then ((num_Check.f k x599000 x599001 x599002).bind fun t608 => (if t608 = true then ((erratumlaw02_awake.f k).bind fun t609 => (some t609)) else (some false))) else (some false))) else (some false))) else (some false)) else (some false)) else (some false)) else (some false)
end
def erratumlaw02_NumInts.f (k : Nat) (a0 : Int) (a1 : Int) : Option (Bool) := (num_Of.f k a0).bind fun bt588 => ((num_Of.f k a1).bind fun bt593 => ((num_Int.f k bt588.1 bt588.2.1 bt588.2.2).bind fun bt600 => (erratumlaw02_NumInts.l0 k a0 a1 bt600.1 bt600.2.1 bt600.2.2 0 (wrap64 ((bt600.2.1.length : Int) - 1)) bt588.1 bt588.2.1 bt588.2.2 bt593.1 bt593.2.1 bt593.2.2)))
set_option maxHeartbeats 8000000 in
set_option maxRecDepth 100000 in
theorem erratumlaw02_NumInts.calls (k : Nat) (a0 : Int) (a1 : Int) (r : Bool) (w : World) (hL : Laid w) (h : erratumlaw02_NumInts.f k a0 a1 = some r) :
    Calls Tryd.prog 8 #[.int .i64 a0, .int .i64 a1] w fun e w' => e = .returned (.bool r) ∧ Below w.heap.size w w' := by
  replace hL := Aside0.mk hL
  have hu25 := Tryd.underlying25
  have HB := Aside0.mk (Below.refl w.heap.size w)
  have H : ((num_Of.f k a0).bind fun bt588 => ((num_Of.f k a1).bind fun bt593 => ((num_Int.f k bt588.1 bt588.2.1 bt588.2.2).bind fun bt600 => (erratumlaw02_NumInts.l0 k a0 a1 bt600.1 bt600.2.1 bt600.2.2 0 (wrap64 ((bt600.2.1.length : Int) - 1)) bt588.1 bt588.2.1 bt588.2.2 bt593.1 bt593.2.1 bt593.2.2)))) = some r := h
  clear h
  replace H := Option.bind_eq_some_iff.mp H
  obtain ⟨⟨t588, t589, t592⟩, A30, H⟩ := H
  replace H : ((num_Of.f k a1).bind fun bt593 => ((num_Int.f k t588 t589 t592).bind fun bt600 => (erratumlaw02_NumInts.l0 k a0 a1 bt600.1 bt600.2.1 bt600.2.2 0 (wrap64 ((bt600.2.1.length : Int) - 1)) t588 t589 t592 bt593.1 bt593.2.1 bt593.2.2))) = some r := H
  have A3 := Aside0.mk A30
  clear A30
  replace H := Option.bind_eq_some_iff.mp H
  obtain ⟨⟨t593, t594, t597⟩, A40, H⟩ := H
  replace H : ((num_Int.f k t588 t589 t592).bind fun bt600 => (erratumlaw02_NumInts.l0 k a0 a1 bt600.1 bt600.2.1 bt600.2.2 0 (wrap64 ((bt600.2.1.length : Int) - 1)) t588 t589 t592 t593 t594 t597)) = some r := H
  have A4 := Aside0.mk A40
  clear A40
  replace H := Option.bind_eq_some_iff.mp H
  obtain ⟨⟨t600, t601, t604⟩, A50, H⟩ := H
  replace H : (erratumlaw02_NumInts.l0 k a0 a1 t600 t601 t604 0 (wrap64 ((t601.length : Int) - 1)) t588 t589 t592 t593 t594 t597) = some r := H
  have A5 := Aside0.mk A50
  clear A50
  have H' := Aside0.mk H
  clear H
  go_enter Tryd.func8, Tryd.ntmps8
  go_wp2_with (first | ((with_reducible refine gate_callee (f := 23) rfl ?_); refine goesL_ (some 15) rfl rfl Tryd.func23 (by kernel_rfl) rfl #[.int .i64 a0] rfl (by (try simp only [List.map_toArray, List.map_cons, List.map_nil]); first | done | rfl | (simp only [List.length_drop, List.length_take]; rfl)) ?_; (with_reducible refine (num_Of.calls k a0 t588 t589 t592 _ A3.out).mono ?_); rintro e w6 ⟨v590, rfl, ho0, hb⟩; refine ⟨_, rfl, ?_⟩; have n0_ := Aside0.mk (Kd.R_lower ho0 (below_size (by repeat (first | (with_reducible first | exact HB.out | apply below_alloc | apply pw_below_drewN | apply below_drew1) | exact HB.out)))); have n1_ := Aside0.mk (below_step (by repeat (first | (with_reducible first | exact HB.out | apply below_alloc | apply pw_below_drewN | apply below_drew1) | exact HB.out)) hb); clear HB; have HO591 := n0_; have HB := n1_; clear n0_ n1_; (try clear hb); (try clear hb2); (try clear hk); (try clear hi); (try clear ho0)) | ((with_reducible refine gate_callee (f := 23) rfl ?_); refine goesL_ (some 17) rfl rfl Tryd.func23 (by kernel_rfl) rfl #[.int .i64 a1] rfl (by (try simp only [List.map_toArray, List.map_cons, List.map_nil]); first | done | rfl | (simp only [List.length_drop, List.length_take]; rfl)) ?_; (with_reducible refine (num_Of.calls k a1 t593 t594 t597 _ A4.out).mono ?_); rintro e w7 ⟨v595, rfl, ho0, hb⟩; refine ⟨_, rfl, ?_⟩; have n0_ := Aside0.mk (Kd.R_elder' (by (with_reducible repeat (first | apply Kd.R_alloc | apply Kd.R_drewN | apply Kd.R_drew)); exact HO591.out) (Kd.R_base ho0) hb); have n1_ := Aside0.mk (Kd.R_lower (Kd.R_new' ho0 (Kd.R_lt (by (with_reducible repeat (first | apply Kd.R_alloc | apply Kd.R_drewN | apply Kd.R_drew)); exact HO591.out))) (below_size (by repeat (first | (with_reducible first | exact HB.out | apply below_alloc | apply pw_below_drewN | apply below_drew1) | exact HB.out)))); have n2_ := Aside0.mk (below_step (by repeat (first | (with_reducible first | exact HB.out | apply below_alloc | apply pw_below_drewN | apply below_drew1) | exact HB.out)) hb); clear HO591; clear HB; have HO591 := n0_; have HO596 := n1_; have HB := n2_; clear n0_ n1_ n2_; (try clear hb); (try clear hb2); (try clear hk); (try clear hi); (try clear ho0)) | ((with_reducible refine gate_dst (N := 5) rfl ?_); (try (refine gate_guard (by rfl) ?_; dsimp only)); refine box_event ?hg (N := 5) ?hd (cs := #[.bool false, .slice none 0 0, .int .i64 0]) (t := 25) ?hr ?_; (case hd => rfl); (case hg => rfl); (case hr => first | (go_simp; done) | (go_simp; rfl) | (go_simp; simp only [x_u32u8, x_u8, x_u32, x_u64, x_mm]; first | done | rfl)); intro gb598 hg w8 hbox hb; have n0_ := Aside0.mk (Kd.R_below (by (with_reducible repeat (first | apply Kd.R_alloc | apply Kd.R_drewN | apply Kd.R_drew)); exact HO591.out) hb); have n1_ := Aside0.mk (Kd.R_below (by (with_reducible repeat (first | apply Kd.R_alloc | apply Kd.R_drewN | apply Kd.R_drew)); exact HO596.out) hb); have n2_ := Aside0.mk (below_step (by repeat (first | (with_reducible first | exact HB.out | apply below_alloc | apply pw_below_drewN | apply below_drew1) | exact HB.out)) hb); have n3_ := Aside0.mk (hbox); have n4_ := Aside0.mk ((by rw [hg]; exact (below_size (by repeat (first | (with_reducible first | exact HB.out | apply below_alloc | apply pw_below_drewN | apply below_drew1) | exact HB.out))) : w.heap.size ≤ gb598)); have n5_ := Aside0.mk ((by rw [hg]; exact (below_size (by repeat (first | (with_reducible first | exact HB.out | apply below_alloc | apply pw_below_drewN | apply below_drew1) | exact HB.out))) : w.heap.size ≤ gb598)); clear HO591; clear HO596; clear HB; have HO591 := n0_; have HO596 := n1_; have HB := n2_; have BK598 := n3_; have GW598 := n4_; have GE598 := n5_; clear n0_ n1_ n2_ n3_ n4_ n5_; clear hb hbox hg) | ((with_reducible refine gate_dst (N := 6) rfl ?_); (try (refine gate_guard (by rfl) ?_; dsimp only)); refine box_event ?hg (N := 6) ?hd (cs := #[.bool false, .slice none 0 0, .int .i64 0]) (t := 25) ?hr ?_; (case hd => rfl); (case hg => rfl); (case hr => first | (go_simp; done) | (go_simp; rfl) | (go_simp; simp only [x_u32u8, x_u8, x_u32, x_u64, x_mm]; first | done | rfl)); intro gb599 hg w9 hbox hb; have n0_ := Aside0.mk (Kd.R_below (by (with_reducible repeat (first | apply Kd.R_alloc | apply Kd.R_drewN | apply Kd.R_drew)); exact HO591.out) hb); have n1_ := Aside0.mk (Kd.R_below (by (with_reducible repeat (first | apply Kd.R_alloc | apply Kd.R_drewN | apply Kd.R_drew)); exact HO596.out) hb); have n2_ := Aside0.mk (blk_below (g := gb598) (o := .cells #[.bool false, .slice none 0 0, .int .i64 0] 25 (0, 0)) (by (with_reducible repeat (first | refine blk_drewN ?_ _ | refine blk_drew ?_ | refine blk_alloc ?_ _)); exact BK598.out) hb); have n3_ := Aside0.mk (below_step (by repeat (first | (with_reducible first | exact HB.out | apply below_alloc | apply pw_below_drewN | apply below_drew1 | refine below_set ?_ GE598.out) | exact HB.out)) hb); have n4_ := Aside0.mk (hbox); have n5_ := Aside0.mk ((by rw [hg]; exact (below_size (by repeat (first | (with_reducible first | exact HB.out | apply below_alloc | apply pw_below_drewN | apply below_drew1 | refine below_set ?_ GE598.out) | exact HB.out))) : w.heap.size ≤ gb599)); have n6_ := Aside0.mk ((by rw [hg]; exact (below_size (by repeat (first | (with_reducible first | exact HB.out | apply below_alloc | apply pw_below_drewN | apply below_drew1 | refine below_set ?_ GE598.out) | exact HB.out))) : w.heap.size ≤ gb599)); have n7_ := Aside0.mk ((by rw [hg]; exact Nat.ne_of_lt (blk_lt (g := gb598) (o := .cells #[.bool false, .slice none 0 0, .int .i64 0] 25 (0, 0)) (by (with_reducible repeat (first | refine blk_drewN ?_ _ | refine blk_drew ?_ | refine blk_alloc ?_ _)); exact BK598.out)) : gb598 ≠ gb599)); have n8_ := Aside0.mk ((by rw [hg]; exact Nat.ne_of_gt (blk_lt (g := gb598) (o := .cells #[.bool false, .slice none 0 0, .int .i64 0] 25 (0, 0)) (by (with_reducible repeat (first | refine blk_drewN ?_ _ | refine blk_drew ?_ | refine blk_alloc ?_ _)); exact BK598.out)) : gb599 ≠ gb598)); clear HO591; clear HO596; clear BK598; clear HB; have HO591 := n0_; have HO596 := n1_; have BK598 := n2_; have HB := n3_; have BK599 := n4_; have GW599 := n5_; have GE599 := n6_; have NB598_599 := n7_; have NB599_598 := n8_; clear n0_ n1_ n2_ n3_ n4_ n5_ n6_ n7_ n8_; clear hb hbox hg; have hnb10 := NB598_599.out; have hnc10 := NB599_598.out; have hcz11_0 : w9.cell? ⟨gb598, 0, none⟩ = some (.bool false) := (blk_cell BK598.out 0).trans rfl; have hcz11_1 : w9.cell? ⟨gb598, 1, none⟩ = some (.slice none 0 0) := (blk_cell BK598.out 1).trans rfl; have hcz11_2 : w9.cell? ⟨gb598, 2, none⟩ = some (.int .i64 0) := (blk_cell BK598.out 2).trans rfl; have hfz11_0 := blk_frozen BK598.out 0; have hfz11_1 := blk_frozen BK598.out 1; have hfz11_2 := blk_frozen BK598.out 2; obtain ⟨Ao12, co12, eo12⟩ := Kd.R_slice HO591.out; subst eo12; have hcz13_0 : w9.cell? ⟨gb599, 0, none⟩ = some (.bool false) := (blk_cell BK599.out 0).trans rfl; have hcz13_1 : w9.cell? ⟨gb599, 1, none⟩ = some (.slice none 0 0) := (blk_cell BK599.out 1).trans rfl; have hcz13_2 : w9.cell? ⟨gb599, 2, none⟩ = some (.int .i64 0) := (blk_cell BK599.out 2).trans rfl; have hfz13_0 := blk_frozen BK599.out 0; have hfz13_1 := blk_frozen BK599.out 1; have hfz13_2 := blk_frozen BK599.out 2; obtain ⟨Ao14, co14, eo14⟩ := Kd.R_slice HO596.out; subst eo14) | ((with_reducible refine gate_callee (f := 24) rfl ?_); refine goesL_ (some 20) rfl rfl Tryd.func24 (by kernel_rfl) rfl #[.agg #[.bool t588, .slice Ao12 t589.length co12, .int .i64 t592]] rfl (by (try simp only [List.map_toArray, List.map_cons, List.map_nil]); first | done | rfl | (simp only [List.length_drop, List.length_take]; rfl)) ?_; (with_reducible refine (num_Int.calls k t588 _ _ t589 t592 t600 t601 t604 _ ?side1 ?side2 A5.out).mono ?_); (case side1 => refine (Kd.R_reads' (e := 40) (base := w.heap.size) (ok := fun k_ => (True ∧ some k_ ≠ (.slice Ao14 t594.length co14 : Value).ownBlock)) (n := t589.length) (c := co12) ?_).2.2; exact (by (with_reducible repeat (first | apply Kd.R_alloc | apply Kd.R_drewN | apply Kd.R_drew)); exact (Kd.R_mono (Kd.R_mono (Kd.R_far (p := ⟨gb599, 2, none⟩) (Kd.R_far (p := ⟨gb599, 1, none⟩) (Kd.R_far (p := ⟨gb599, 0, none⟩) (Kd.R_far (p := ⟨gb598, 2, none⟩) (Kd.R_far (p := ⟨gb598, 1, none⟩) (Kd.R_far (p := ⟨gb598, 0, none⟩) (Kd.R_types (Kd.R_types HO591.out BK598.out (by decide)) BK599.out (by decide)) (fun _ hk => hk.1.2) (.bool t588)) (fun _ hk => hk.1.2) (.slice Ao12 t589.length co12)) (fun _ hk => hk.1.2) (.int .i64 t592)) (fun _ hk => hk.2) (.bool t593)) (fun _ hk => hk.2) (.slice Ao14 t594.length co14)) (fun _ hk => hk.2) (.int .i64 t597)) (fun _ h_ => h_.1)) (fun _ h_ => h_.1)))); (case side2 => exact (Kd.R_reads' HO591.out).2.1); rintro e w15 ⟨v602, rfl, ho0, hb⟩; refine ⟨_, rfl, ?_⟩; have n0_ := Aside0.mk (Kd.R_elder' (by (with_reducible repeat (first | apply Kd.R_alloc | apply Kd.R_drewN | apply Kd.R_drew)); exact (Kd.R_mono (Kd.R_mono (Kd.R_far (p := ⟨gb599, 2, none⟩) (Kd.R_far (p := ⟨gb599, 1, none⟩) (Kd.R_far (p := ⟨gb599, 0, none⟩) (Kd.R_far (p := ⟨gb598, 2, none⟩) (Kd.R_far (p := ⟨gb598, 1, none⟩) (Kd.R_far (p := ⟨gb598, 0, none⟩) (Kd.R_types (Kd.R_types HO591.out BK598.out (by decide)) BK599.out (by decide)) (fun _ hk => hk.1.2) (.bool t588)) (fun _ hk => hk.1.2) (.slice Ao12 t589.length co12)) (fun _ hk => hk.1.2) (.int .i64 t592)) (fun _ hk => hk.2) (.bool t593)) (fun _ hk => hk.2) (.slice Ao14 t594.length co14)) (fun _ hk => hk.2) (.int .i64 t597)) (fun _ h_ => h_.1)) (fun _ h_ => h_.1))) (Kd.R_base ho0) hb); have n1_ := Aside0.mk (Kd.R_elder' (by (with_reducible repeat (first | apply Kd.R_alloc | apply Kd.R_drewN | apply Kd.R_drew)); exact (Kd.R_mono (Kd.R_mono (Kd.R_far (p := ⟨gb599, 2, none⟩) (Kd.R_far (p := ⟨gb599, 1, none⟩) (Kd.R_far (p := ⟨gb599, 0, none⟩) (Kd.R_far (p := ⟨gb598, 2, none⟩) (Kd.R_far (p := ⟨gb598, 1, none⟩) (Kd.R_far (p := ⟨gb598, 0, none⟩) (Kd.R_types (Kd.R_types HO596.out BK598.out (by decide)) BK599.out (by decide)) (fun _ hk => hk.1.2) (.bool t588)) (fun _ hk => hk.1.2) (.slice Ao12 t589.length co12)) (fun _ hk => hk.1.2) (.int .i64 t592)) (fun _ hk => hk.2) (.bool t593)) (fun _ hk => hk.2) (.slice Ao14 t594.length co14)) (fun _ hk => hk.2) (.int .i64 t597)) (fun _ h_ => h_.1)) (fun _ h_ => h_.1))) (Kd.R_base ho0) hb); have n2_ := Aside0.mk (Kd.R_lower (Kd.R_new' (Kd.R_new' ho0 (Kd.R_lt (by (with_reducible repeat (first | apply Kd.R_alloc | apply Kd.R_drewN | apply Kd.R_drew)); exact (Kd.R_mono (Kd.R_mono (Kd.R_far (p := ⟨gb599, 2, none⟩) (Kd.R_far (p := ⟨gb599, 1, none⟩) (Kd.R_far (p := ⟨gb599, 0, none⟩) (Kd.R_far (p := ⟨gb598, 2, none⟩) (Kd.R_far (p := ⟨gb598, 1, none⟩) (Kd.R_far (p := ⟨gb598, 0, none⟩) (Kd.R_types (Kd.R_types HO591.out BK598.out (by decide)) BK599.out (by decide)) (fun _ hk => hk.1.2) (.bool t588)) (fun _ hk => hk.1.2) (.slice Ao12 t589.length co12)) (fun _ hk => hk.1.2) (.int .i64 t592)) (fun _ hk => hk.2) (.bool t593)) (fun _ hk => hk.2) (.slice Ao14 t594.length co14)) (fun _ hk => hk.2) (.int .i64 t597)) (fun _ h_ => h_.1)) (fun _ h_ => h_.1))))) (Kd.R_lt (by (with_reducible repeat (first | apply Kd.R_alloc | apply Kd.R_drewN | apply Kd.R_drew)); exact (Kd.R_mono (Kd.R_mono (Kd.R_far (p := ⟨gb599, 2, none⟩) (Kd.R_far (p := ⟨gb599, 1, none⟩) (Kd.R_far (p := ⟨gb599, 0, none⟩) (Kd.R_far (p := ⟨gb598, 2, none⟩) (Kd.R_far (p := ⟨gb598, 1, none⟩) (Kd.R_far (p := ⟨gb598, 0, none⟩) (Kd.R_types (Kd.R_types HO596.out BK598.out (by decide)) BK599.out (by decide)) (fun _ hk => hk.1.2) (.bool t588)) (fun _ hk => hk.1.2) (.slice Ao12 t589.length co12)) (fun _ hk => hk.1.2) (.int .i64 t592)) (fun _ hk => hk.2) (.bool t593)) (fun _ hk => hk.2) (.slice Ao14 t594.length co14)) (fun _ hk => hk.2) (.int .i64 t597)) (fun _ h_ => h_.1)) (fun _ h_ => h_.1))))) (below_size (by repeat (first | (with_reducible first | exact HB.out | apply below_alloc | apply pw_below_drewN | apply below_drew1 | refine below_set ?_ GE598.out | refine below_set ?_ GE599.out) | exact HB.out)))); have n3_ := Aside0.mk (blk_below (g := gb598) (o := .cells #[.bool t588, .slice Ao12 t589.length co12, .int .i64 t592] 25 (0, 0)) (by (with_reducible repeat (first | refine blk_drewN ?_ _ | refine blk_drew ?_ | refine blk_alloc ?_ _)); refine blk_far ?_ NB598_599.out _; (with_reducible repeat (first | refine blk_drewN ?_ _ | refine blk_drew ?_ | refine blk_alloc ?_ _)); refine blk_far ?_ NB598_599.out _; (with_reducible repeat (first | refine blk_drewN ?_ _ | refine blk_drew ?_ | refine blk_alloc ?_ _)); refine blk_far ?_ NB598_599.out _; (with_reducible repeat (first | refine blk_drewN ?_ _ | refine blk_drew ?_ | refine blk_alloc ?_ _)); refine blk_put (cs := #[.bool t588, .slice Ao12 t589.length co12, .int .i64 0]) ?_ 2 _ rfl; (with_reducible repeat (first | refine blk_drewN ?_ _ | refine blk_drew ?_ | refine blk_alloc ?_ _)); refine blk_put (cs := #[.bool t588, .slice none 0 0, .int .i64 0]) ?_ 1 _ rfl; (with_reducible repeat (first | refine blk_drewN ?_ _ | refine blk_drew ?_ | refine blk_alloc ?_ _)); refine blk_put (cs := #[.bool false, .slice none 0 0, .int .i64 0]) ?_ 0 _ rfl; (with_reducible repeat (first | refine blk_drewN ?_ _ | refine blk_drew ?_ | refine blk_alloc ?_ _)); exact BK598.out) hb); have n4_ := Aside0.mk (blk_below (g := gb599) (o := .cells #[.bool t593, .slice Ao14 t594.length co14, .int .i64 t597] 25 (0, 0)) (by (with_reducible repeat (first | refine blk_drewN ?_ _ | refine blk_drew ?_ | refine blk_alloc ?_ _)); refine blk_put (cs := #[.bool t593, .slice Ao14 t594.length co14, .int .i64 0]) ?_ 2 _ rfl; (with_reducible repeat (first | refine blk_drewN ?_ _ | refine blk_drew ?_ | refine blk_alloc ?_ _)); refine blk_put (cs := #[.bool t593, .slice none 0 0, .int .i64 0]) ?_ 1 _ rfl; (with_reducible repeat (first | refine blk_drewN ?_ _ | refine blk_drew ?_ | refine blk_alloc ?_ _)); refine blk_put (cs := #[.bool false, .slice none 0 0, .int .i64 0]) ?_ 0 _ rfl; (with_reducible repeat (first | refine blk_drewN ?_ _ | refine blk_drew ?_ | refine blk_alloc ?_ _)); refine blk_far ?_ NB599_598.out _; (with_reducible repeat (first | refine blk_drewN ?_ _ | refine blk_drew ?_ | refine blk_alloc ?_ _)); refine blk_far ?_ NB599_598.out _; (with_reducible repeat (first | refine blk_drewN ?_ _ | refine blk_drew ?_ | refine blk_alloc ?_ _)); refine blk_far ?_ NB599_598.out _; (with_reducible repeat (first | refine blk_drewN ?_ _ | refine blk_drew ?_ | refine blk_alloc ?_ _)); exact BK599.out) hb); have n5_ := Aside0.mk (below_step (by repeat (first | (with_reducible first | exact HB.out | apply below_alloc | apply pw_below_drewN | apply below_drew1 | refine below_set ?_ GE598.out | refine below_set ?_ GE599.out) | exact HB.out)) hb); clear HO591; clear HO596; clear BK598; clear BK599; clear HB; have HO591 := n0_; have HO596 := n1_; have HO603 := n2_; have BK598 := n3_; have BK599 := n4_; have HB := n5_; clear n0_ n1_ n2_ n3_ n4_ n5_; (try clear hb); (try clear hb2); (try clear hk); (try clear hi); (try clear ho0); obtain ⟨Ao16, co16, eo16⟩ := Kd.R_slice HO603.out; subst eo16))
  go_loopg [10, 11] k (fun kq v10 v11 w' => ∃ (x10_1 : Int) (x11_1 : Int), v10 = .int .u64 x10_1 ∧ v11 = .int .i64 x11_1 ∧ Aside0 (erratumlaw02_NumInts.l0 kq a0 a1 t600 t601 t604 x10_1 x11_1 t588 t589 t592 t593 t594 t597 = some r) ∧ Aside0 (kq ≤ k) ∧ Aside0 (Kd.R (Kd.int .u32) 40 w' w.heap.size (fun k_ => some k_ ≠ ((.slice Ao12 t589.length co12) : Value).ownBlock ∧ some k_ ≠ ((.slice Ao14 t594.length co14) : Value).ownBlock) (.slice Ao16 t601.length co16) t601) ∧ Aside0 (Kd.R (Kd.int .u32) 40 w' w.heap.size (fun k_ => some k_ ≠ ((.slice Ao16 t601.length co16) : Value).ownBlock ∧ some k_ ≠ ((.slice Ao14 t594.length co14) : Value).ownBlock) (.slice Ao12 t589.length co12) t589) ∧ Aside0 (Kd.R (Kd.int .u32) 40 w' w.heap.size (fun k_ => some k_ ≠ ((.slice Ao16 t601.length co16) : Value).ownBlock ∧ some k_ ≠ ((.slice Ao12 t589.length co12) : Value).ownBlock) (.slice Ao14 t594.length co14) t594) ∧ Aside0 (w'.heap[gb598]? = some (.cells #[.bool t588, (.slice Ao12 t589.length co12), .int .i64 t592] 25 (0, 0))) ∧ Aside0 (w'.heap[gb599]? = some (.cells #[.bool t593, (.slice Ao14 t594.length co14), .int .i64 t597] 25 (0, 0))) ∧ Aside0 (Below w.heap.size w w'))
  case atStart => exact ⟨(0), (wrap64 ((t601.length : Int) - 1)), (by first | rfl | (simp; done) | (simp [*]; done)), (by first | rfl | (simp; done) | (simp [*]; done)), H', ⟨Nat.le_refl _⟩, ⟨by (with_reducible repeat (first | apply Kd.R_alloc | apply Kd.R_drewN | apply Kd.R_drew)); exact Kd.R_mono HO603.out (fun _ hk => ⟨hk.1.2, hk.2⟩)⟩, ⟨by (with_reducible repeat (first | apply Kd.R_alloc | apply Kd.R_drewN | apply Kd.R_drew)); exact Kd.R_mono HO591.out (fun _ hk => ⟨hk.2, hk.1.2⟩)⟩, ⟨by (with_reducible repeat (first | apply Kd.R_alloc | apply Kd.R_drewN | apply Kd.R_drew)); exact Kd.R_mono HO596.out (fun _ hk => ⟨hk.2, hk.1.2⟩)⟩, ⟨by (with_reducible repeat (first | refine blk_drewN ?_ _ | refine blk_drew ?_ | refine blk_alloc ?_ _)); exact BK598.out⟩, ⟨by (with_reducible repeat (first | refine blk_drewN ?_ _ | refine blk_drew ?_ | refine blk_alloc ?_ _)); exact BK599.out⟩, ⟨by repeat (first | (with_reducible first | exact HB.out | apply below_alloc | apply pw_below_drewN | apply below_drew1 | refine below_set ?_ GE598.out | refine below_set ?_ GE599.out) | exact HB.out)⟩⟩
  case round =>
    clear H'
    try clear c1
    try clear c2
    try clear p2
    try clear p6
    try clear c8
    try clear c10
    try clear hcz11_0
    try clear hcz11_1
    try clear hcz11_2
    try clear hcz13_0
    try clear hcz13_1
    try clear hcz13_2
    try clear hfz11_0
    try clear hfz11_1
    try clear hfz11_2
    try clear hfz13_0
    try clear hfz13_1
    try clear hfz13_2
    obtain ⟨x10_1, x11_1, rfl, rfl, HA, HK1, HO_8, HO_599001, HO_600001, BK598, BK599, HB⟩ := hrel
    cases gk with
    | zero => exact absurd HA.out (by simp [erratumlaw02_NumInts.l0])
    | succ k1 =>
      have H := HA.out
      clear HA
      simp only [erratumlaw02_NumInts.l0] at H
      by_cases c17 : x11_1 ≥ 0
      · rw [if_pos c17] at H
        have c17b0 : decide (0 ≤ x11_1) = true := decide_eq_true c17
        clear c17
        by_cases c18 : x11_1 < (t601.length : Int)
        · rw [if_pos c18] at H
          have c18b0 : decide (x11_1 < (t601.length : Int)) = true := decide_eq_true c18
          clear c18
          have H' := Aside0.mk H
          clear H
          have p605 : 0 ≤ (x11_1 : Int) := of_decide_eq_true (by first | (with_reducible assumption) | assumption)
          have q605 : x11_1 < (t601.length : Int) := of_decide_eq_true (by first | (with_reducible assumption) | assumption)
          obtain ⟨ad605, e605, hx605_0⟩ := Kd.at_int (Kd.R_reads' HO_8.out).2.2 x11_1 p605 q605
          cases e605
          replace p605 := eq_true p605
          replace q605 := eq_true q605
          go_wp2
          go_roundg k1
          case measure => have := HK1.out; omega
          case rel => exact ⟨(IntKind.u64.wrap ((IntKind.u64.wrap (x10_1 * 4294967296)) + (IntKind.u64.wrap (rd t601 x11_1)))), (wrap64 (x11_1 - 1)), (by first | rfl | (simp; done) | (simp [*]; done)), (by first | rfl | (simp; done) | (simp [*]; done)), H', ⟨by have := HK1.out; omega⟩, ⟨by (with_reducible repeat (first | apply Kd.R_alloc | apply Kd.R_drewN | apply Kd.R_drew)); exact HO_8.out⟩, ⟨by (with_reducible repeat (first | apply Kd.R_alloc | apply Kd.R_drewN | apply Kd.R_drew)); exact HO_599001.out⟩, ⟨by (with_reducible repeat (first | apply Kd.R_alloc | apply Kd.R_drewN | apply Kd.R_drew)); exact HO_600001.out⟩, ⟨by (with_reducible repeat (first | refine blk_drewN ?_ _ | refine blk_drew ?_ | refine blk_alloc ?_ _)); exact BK598.out⟩, ⟨by (with_reducible repeat (first | refine blk_drewN ?_ _ | refine blk_drew ?_ | refine blk_alloc ?_ _)); exact BK599.out⟩, ⟨by repeat (first | (with_reducible first | exact HB.out | apply below_alloc | apply pw_below_drewN | apply below_drew1 | refine below_set ?_ GE598.out | refine below_set ?_ GE599.out) | exact HB.out)⟩⟩
        · rw [if_neg c18] at H
          exact absurd H (by simp)
      · rw [if_neg c17] at H
        have c17b0 : decide (0 ≤ x11_1) = false := decide_eq_false c17
        clear c17
        have HC19 := Aside0.mk H
        clear H
        go_upto_if 42 with (fail)
        go_cut [12] (fun v12 wc => ∃ (kq : Nat) (x12_18 : Int), v12 = .int .u64 x12_18 ∧ Aside0 (erratumlaw02_NumInts.j1 kq a0 a1 t600 t601 t604 x10_1 x12_18 t588 t589 t592 t593 t594 t597 = some r) ∧ Aside0 (kq ≤ k1) ∧ Aside0 (Kd.R (Kd.int .u32) 40 wc w.heap.size (fun k_ => some k_ ≠ ((.slice Ao12 t589.length co12) : Value).ownBlock ∧ some k_ ≠ ((.slice Ao14 t594.length co14) : Value).ownBlock) (.slice Ao16 t601.length co16) t601) ∧ Aside0 (Kd.R (Kd.int .u32) 40 wc w.heap.size (fun k_ => some k_ ≠ ((.slice Ao16 t601.length co16) : Value).ownBlock ∧ some k_ ≠ ((.slice Ao14 t594.length co14) : Value).ownBlock) (.slice Ao12 t589.length co12) t589) ∧ Aside0 (Kd.R (Kd.int .u32) 40 wc w.heap.size (fun k_ => some k_ ≠ ((.slice Ao16 t601.length co16) : Value).ownBlock ∧ some k_ ≠ ((.slice Ao12 t589.length co12) : Value).ownBlock) (.slice Ao14 t594.length co14) t594) ∧ Aside0 (wc.heap[gb598]? = some (.cells #[.bool t588, (.slice Ao12 t589.length co12), .int .i64 t592] 25 (0, 0))) ∧ Aside0 (wc.heap[gb599]? = some (.cells #[.bool t593, (.slice Ao14 t594.length co14), .int .i64 t597] 25 (0, 0))) ∧ Aside0 (Below w.heap.size w wc))
        case first =>
          have H := HC19.out
          clear HC19
          by_cases c20 : a0 < 0
          · rw [if_pos c20] at H
            have c20b0 : decide (a0 < 0) = true := decide_eq_true c20
            clear c20
            (first | rw [c20b0] | (simp only [i64_w, i32_w]; rw [c20b0]) | skip)
            have H' := Aside0.mk H
            clear H
            go_wp2
            go_meet
            case rel => exact ⟨_, (IntKind.u64.wrap (-(IntKind.u64.wrap (a0)))), (by first | rfl | (simp; done) | (simp [*]; done)), H', ⟨by have := HK1.out; first | omega | exact Nat.le_refl _⟩, ⟨by (with_reducible repeat (first | apply Kd.R_alloc | apply Kd.R_drewN | apply Kd.R_drew)); exact HO_8.out⟩, ⟨by (with_reducible repeat (first | apply Kd.R_alloc | apply Kd.R_drewN | apply Kd.R_drew)); exact HO_599001.out⟩, ⟨by (with_reducible repeat (first | apply Kd.R_alloc | apply Kd.R_drewN | apply Kd.R_drew)); exact HO_600001.out⟩, ⟨by (with_reducible repeat (first | refine blk_drewN ?_ _ | refine blk_drew ?_ | refine blk_alloc ?_ _)); exact BK598.out⟩, ⟨by (with_reducible repeat (first | refine blk_drewN ?_ _ | refine blk_drew ?_ | refine blk_alloc ?_ _)); exact BK599.out⟩, ⟨by repeat (first | (with_reducible first | exact HB.out | apply below_alloc | apply pw_below_drewN | apply below_drew1 | refine below_set ?_ GE598.out | refine below_set ?_ GE599.out) | exact HB.out)⟩⟩
          · rw [if_neg c20] at H
            have c20b0 : decide (a0 < 0) = false := decide_eq_false c20
            clear c20
            (first | rw [c20b0] | (simp only [i64_w, i32_w]; rw [c20b0]) | skip)
            have H' := Aside0.mk H
            clear H
            go_wp2
            go_meet
            case rel => exact ⟨_, (IntKind.u64.wrap (a0)), (by first | rfl | (simp; done) | (simp [*]; done)), H', ⟨by have := HK1.out; first | omega | exact Nat.le_refl _⟩, ⟨by (with_reducible repeat (first | apply Kd.R_alloc | apply Kd.R_drewN | apply Kd.R_drew)); exact HO_8.out⟩, ⟨by (with_reducible repeat (first | apply Kd.R_alloc | apply Kd.R_drewN | apply Kd.R_drew)); exact HO_599001.out⟩, ⟨by (with_reducible repeat (first | apply Kd.R_alloc | apply Kd.R_drewN | apply Kd.R_drew)); exact HO_600001.out⟩, ⟨by (with_reducible repeat (first | refine blk_drewN ?_ _ | refine blk_drew ?_ | refine blk_alloc ?_ _)); exact BK598.out⟩, ⟨by (with_reducible repeat (first | refine blk_drewN ?_ _ | refine blk_drew ?_ | refine blk_alloc ?_ _)); exact BK599.out⟩, ⟨by repeat (first | (with_reducible first | exact HB.out | apply below_alloc | apply pw_below_drewN | apply below_drew1 | refine below_set ?_ GE598.out | refine below_set ?_ GE599.out) | exact HB.out)⟩⟩
        case rest =>
          clear HC19
          try clear c1
          try clear c2
          try clear p2
          try clear p6
          try clear q6
          try clear hx6
          try clear c8
          try clear c10
          try clear c17
          try clear c17b0
          try clear c18
          try clear c18b0
          try clear c20
          try clear c20b0
          try clear hcz11_0
          try clear hcz11_1
          try clear hcz11_2
          try clear hcz13_0
          try clear hcz13_1
          try clear hcz13_2
          try clear hfz11_0
          try clear hfz11_1
          try clear hfz11_2
          try clear hfz13_0
          try clear hfz13_1
          try clear hfz13_2
          try clear hx605_0
          try clear p2
          try clear p6
          try clear p605
          try clear q605
          obtain ⟨kq, x12_18, rfl, HA, HJ18, HO_8, HO_599001, HO_600001, BK598, BK599, HB⟩ := hcut
          cases kq with
          | zero => exact absurd HA.out (by simp [erratumlaw02_NumInts.j1])
          | succ kj18 =>
            have H := HA.out
            clear HA
            simp only [erratumlaw02_NumInts.j1] at H
            have HC21 := Aside0.mk H
            clear H
            go_upto_if 47 with (fail)
            go_cut [13] (fun v13 wc => ∃ (kq : Nat) (x13_20 : Int), v13 = .int .i64 x13_20 ∧ Aside0 (erratumlaw02_NumInts.j2 kq a0 a1 t600 t601 t604 x10_1 x12_18 x13_20 t588 t589 t592 t593 t594 t597 = some r) ∧ Aside0 (kq ≤ kj18) ∧ Aside0 (Kd.R (Kd.int .u32) 40 wc w.heap.size (fun k_ => some k_ ≠ ((.slice Ao12 t589.length co12) : Value).ownBlock ∧ some k_ ≠ ((.slice Ao14 t594.length co14) : Value).ownBlock) (.slice Ao16 t601.length co16) t601) ∧ Aside0 (Kd.R (Kd.int .u32) 40 wc w.heap.size (fun k_ => some k_ ≠ ((.slice Ao16 t601.length co16) : Value).ownBlock ∧ some k_ ≠ ((.slice Ao14 t594.length co14) : Value).ownBlock) (.slice Ao12 t589.length co12) t589) ∧ Aside0 (Kd.R (Kd.int .u32) 40 wc w.heap.size (fun k_ => some k_ ≠ ((.slice Ao16 t601.length co16) : Value).ownBlock ∧ some k_ ≠ ((.slice Ao12 t589.length co12) : Value).ownBlock) (.slice Ao14 t594.length co14) t594) ∧ Aside0 (wc.heap[gb598]? = some (.cells #[.bool t588, (.slice Ao12 t589.length co12), .int .i64 t592] 25 (0, 0))) ∧ Aside0 (wc.heap[gb599]? = some (.cells #[.bool t593, (.slice Ao14 t594.length co14), .int .i64 t597] 25 (0, 0))) ∧ Aside0 (Below w.heap.size w wc))
            case first =>
              have H := HC21.out
              clear HC21
              by_cases c22 : a0 < a1
              · rw [if_pos c22] at H
                have c22b0 : decide (a0 < a1) = true := decide_eq_true c22
                clear c22
                (first | rw [c22b0] | (simp only [i64_w, i32_w]; rw [c22b0]) | skip)
                have H' := Aside0.mk H
                clear H
                go_wp2
                go_meet
                case rel => exact ⟨_, ((-1)), (by first | rfl | (simp; done) | (simp [*]; done)), H', ⟨by have := HK1.out; have := HJ18.out; first | omega | exact Nat.le_refl _⟩, ⟨by (with_reducible repeat (first | apply Kd.R_alloc | apply Kd.R_drewN | apply Kd.R_drew)); exact HO_8.out⟩, ⟨by (with_reducible repeat (first | apply Kd.R_alloc | apply Kd.R_drewN | apply Kd.R_drew)); exact HO_599001.out⟩, ⟨by (with_reducible repeat (first | apply Kd.R_alloc | apply Kd.R_drewN | apply Kd.R_drew)); exact HO_600001.out⟩, ⟨by (with_reducible repeat (first | refine blk_drewN ?_ _ | refine blk_drew ?_ | refine blk_alloc ?_ _)); exact BK598.out⟩, ⟨by (with_reducible repeat (first | refine blk_drewN ?_ _ | refine blk_drew ?_ | refine blk_alloc ?_ _)); exact BK599.out⟩, ⟨by repeat (first | (with_reducible first | exact HB.out | apply below_alloc | apply pw_below_drewN | apply below_drew1 | refine below_set ?_ GE598.out | refine below_set ?_ GE599.out) | exact HB.out)⟩⟩
              · rw [if_neg c22] at H
                have c22b0 : decide (a0 < a1) = false := decide_eq_false c22
                clear c22
                (first | rw [c22b0] | (simp only [i64_w, i32_w]; rw [c22b0]) | skip)
                have H' := Aside0.mk H
                clear H
                go_wp2
                go_meet
                case rel => exact ⟨_, (0), (by first | rfl | (simp; done) | (simp [*]; done)), H', ⟨by have := HK1.out; have := HJ18.out; first | omega | exact Nat.le_refl _⟩, ⟨by (with_reducible repeat (first | apply Kd.R_alloc | apply Kd.R_drewN | apply Kd.R_drew)); exact HO_8.out⟩, ⟨by (with_reducible repeat (first | apply Kd.R_alloc | apply Kd.R_drewN | apply Kd.R_drew)); exact HO_599001.out⟩, ⟨by (with_reducible repeat (first | apply Kd.R_alloc | apply Kd.R_drewN | apply Kd.R_drew)); exact HO_600001.out⟩, ⟨by (with_reducible repeat (first | refine blk_drewN ?_ _ | refine blk_drew ?_ | refine blk_alloc ?_ _)); exact BK598.out⟩, ⟨by (with_reducible repeat (first | refine blk_drewN ?_ _ | refine blk_drew ?_ | refine blk_alloc ?_ _)); exact BK599.out⟩, ⟨by repeat (first | (with_reducible first | exact HB.out | apply below_alloc | apply pw_below_drewN | apply below_drew1 | refine below_set ?_ GE598.out | refine below_set ?_ GE599.out) | exact HB.out)⟩⟩
            case rest =>
              clear HC21
              try clear c1
              try clear c2
              try clear p2
              try clear p6
              try clear q6
              try clear hx6
              try clear c8
              try clear c10
              try clear c17
              try clear c17b0
              try clear c18
              try clear c18b0
              try clear c20
              try clear c20b0
              try clear c22
              try clear c22b0
              try clear hcz11_0
              try clear hcz11_1
              try clear hcz11_2
              try clear hcz13_0
              try clear hcz13_1
              try clear hcz13_2
              try clear hfz11_0
              try clear hfz11_1
              try clear hfz11_2
              try clear hfz13_0
              try clear hfz13_1
              try clear hfz13_2
              try clear hx605_0
              try clear p2
              try clear p6
              try clear p605
              try clear q6
              try clear q605
              obtain ⟨kq, x13_20, rfl, HA, HJ20, HO_8, HO_599001, HO_600001, BK598, BK599, HB⟩ := hcut
              cases kq with
              | zero => exact absurd HA.out (by simp [erratumlaw02_NumInts.j2])
              | succ kj20 =>
                have H := HA.out
                clear HA
                simp only [erratumlaw02_NumInts.j2] at H
                have HC23 := Aside0.mk H
                clear H
                go_upto_if 50 with (fail)
                go_cut [13] (fun v13 wc => ∃ (kq : Nat) (x13_22 : Int), v13 = .int .i64 x13_22 ∧ Aside0 (erratumlaw02_NumInts.j3 kq a0 a1 t600 t601 t604 x10_1 x12_18 x13_22 t588 t589 t592 t593 t594 t597 = some r) ∧ Aside0 (kq ≤ kj20) ∧ Aside0 (Kd.R (Kd.int .u32) 40 wc w.heap.size (fun k_ => some k_ ≠ ((.slice Ao12 t589.length co12) : Value).ownBlock ∧ some k_ ≠ ((.slice Ao14 t594.length co14) : Value).ownBlock) (.slice Ao16 t601.length co16) t601) ∧ Aside0 (Kd.R (Kd.int .u32) 40 wc w.heap.size (fun k_ => some k_ ≠ ((.slice Ao16 t601.length co16) : Value).ownBlock ∧ some k_ ≠ ((.slice Ao14 t594.length co14) : Value).ownBlock) (.slice Ao12 t589.length co12) t589) ∧ Aside0 (Kd.R (Kd.int .u32) 40 wc w.heap.size (fun k_ => some k_ ≠ ((.slice Ao16 t601.length co16) : Value).ownBlock ∧ some k_ ≠ ((.slice Ao12 t589.length co12) : Value).ownBlock) (.slice Ao14 t594.length co14) t594) ∧ Aside0 (wc.heap[gb598]? = some (.cells #[.bool t588, (.slice Ao12 t589.length co12), .int .i64 t592] 25 (0, 0))) ∧ Aside0 (wc.heap[gb599]? = some (.cells #[.bool t593, (.slice Ao14 t594.length co14), .int .i64 t597] 25 (0, 0))) ∧ Aside0 (Below w.heap.size w wc))
                case first =>
                  have H := HC23.out
                  clear HC23
                  by_cases c24 : a0 > a1
                  · rw [if_pos c24] at H
                    have c24b0 : decide (a1 < a0) = true := decide_eq_true c24
                    clear c24
                    (first | rw [c24b0] | (simp only [i64_w, i32_w]; rw [c24b0]) | skip)
                    have H' := Aside0.mk H
                    clear H
                    go_wp2
                    go_meet
                    case rel => exact ⟨_, (1), (by first | rfl | (simp; done) | (simp [*]; done)), H', ⟨by have := HK1.out; have := HJ18.out; have := HJ20.out; first | omega | exact Nat.le_refl _⟩, ⟨by (with_reducible repeat (first | apply Kd.R_alloc | apply Kd.R_drewN | apply Kd.R_drew)); exact HO_8.out⟩, ⟨by (with_reducible repeat (first | apply Kd.R_alloc | apply Kd.R_drewN | apply Kd.R_drew)); exact HO_599001.out⟩, ⟨by (with_reducible repeat (first | apply Kd.R_alloc | apply Kd.R_drewN | apply Kd.R_drew)); exact HO_600001.out⟩, ⟨by (with_reducible repeat (first | refine blk_drewN ?_ _ | refine blk_drew ?_ | refine blk_alloc ?_ _)); exact BK598.out⟩, ⟨by (with_reducible repeat (first | refine blk_drewN ?_ _ | refine blk_drew ?_ | refine blk_alloc ?_ _)); exact BK599.out⟩, ⟨by repeat (first | (with_reducible first | exact HB.out | apply below_alloc | apply pw_below_drewN | apply below_drew1 | refine below_set ?_ GE598.out | refine below_set ?_ GE599.out) | exact HB.out)⟩⟩
                  · rw [if_neg c24] at H
                    have c24b0 : decide (a1 < a0) = false := decide_eq_false c24
                    clear c24
                    (first | rw [c24b0] | (simp only [i64_w, i32_w]; rw [c24b0]) | skip)
                    have H' := Aside0.mk H
                    clear H
                    go_wp2
                    go_meet
                    case rel => exact ⟨_, (x13_20), (by first | rfl | (simp; done) | (simp [*]; done)), H', ⟨by have := HK1.out; have := HJ18.out; have := HJ20.out; first | omega | exact Nat.le_refl _⟩, ⟨by (with_reducible repeat (first | apply Kd.R_alloc | apply Kd.R_drewN | apply Kd.R_drew)); exact HO_8.out⟩, ⟨by (with_reducible repeat (first | apply Kd.R_alloc | apply Kd.R_drewN | apply Kd.R_drew)); exact HO_599001.out⟩, ⟨by (with_reducible repeat (first | apply Kd.R_alloc | apply Kd.R_drewN | apply Kd.R_drew)); exact HO_600001.out⟩, ⟨by (with_reducible repeat (first | refine blk_drewN ?_ _ | refine blk_drew ?_ | refine blk_alloc ?_ _)); exact BK598.out⟩, ⟨by (with_reducible repeat (first | refine blk_drewN ?_ _ | refine blk_drew ?_ | refine blk_alloc ?_ _)); exact BK599.out⟩, ⟨by repeat (first | (with_reducible first | exact HB.out | apply below_alloc | apply pw_below_drewN | apply below_drew1 | refine below_set ?_ GE598.out | refine below_set ?_ GE599.out) | exact HB.out)⟩⟩
                case rest =>
                  clear HC23
                  try clear c1
                  try clear c2
                  try clear p2
                  try clear p6
                  try clear q6
                  try clear hx6
                  try clear c8
                  try clear c10
                  try clear c17
                  try clear c17b0
                  try clear c18
                  try clear c18b0
                  try clear c20
                  try clear c20b0
                  try clear c22
                  try clear c22b0
                  try clear c23
                  try clear c24
                  try clear c24b0
                  try clear hcz11_0
                  try clear hcz11_1
                  try clear hcz11_2
                  try clear hcz13_0
                  try clear hcz13_1
                  try clear hcz13_2
                  try clear hfz11_0
                  try clear hfz11_1
                  try clear hfz11_2
                  try clear hfz13_0
                  try clear hfz13_1
                  try clear hfz13_2
                  try clear hx605_0
                  try clear p2
                  try clear p6
                  try clear p605
                  try clear q6
                  try clear q605
                  obtain ⟨kq, x13_22, rfl, HA, HJ22, HO_8, HO_599001, HO_600001, BK598, BK599, HB⟩ := hcut
                  cases kq with
                  | zero => exact absurd HA.out (by simp [erratumlaw02_NumInts.j3])
                  | succ kj22 =>
                    have H := HA.out
                    clear HA
                    simp only [erratumlaw02_NumInts.j3] at H
                    by_cases c25 : t604 = true
                    · subst c25
                      have H1 : (if (t600 == (decide (a0 < 0))) = true then (if x10_1 = x12_18 then (if (t601.length : Int) ≤ 2 then ((num_Cmp.f kj22 t588 t589 t592 t593 t594 t597).bind fun t606 => (if t606 = x13_22 then ((num_Same.f kj22 t588 t589 t592 t593 t594 t597).bind fun t607 => (if (t607 == (a0 == a1)) = true then ((num_Check.f kj22 t588 t589 t592).bind fun t608 => (if t608 = true then ((erratumlaw02_awake.f kj22).bind fun t609 => (some t609)) else (some false))) else (some false))) else (some false))) else (some false)) else (some false)) else (some false)) = some r := by rw [if_pos rfl] at H; exact H
                      clear H
                      have H := H1
                      clear H1
                      by_cases c26 : (t600 == (decide (a0 < 0))) = true
                      · rw [if_pos c26] at H
                        have c26b0 : (t600 == (decide (a0 < 0))) = true := c26
                        (try (have c26b1 : decide (t600 = (decide (a0 < 0))) = true := by simpa using c26))
                        (try (have c26b2 : (t600 == (decide (a0 < 0))) = true := by simpa using c26))
                        clear c26
                        by_cases c27 : x10_1 = x12_18
                        · rw [if_pos c27] at H
                          have c27b0 : (x10_1 == x12_18) = true := beq_iff_eq.mpr c27
                          have c27b1 : (x10_1 != x12_18) = false := bne_eq_false_iff_eq.mpr c27
                          clear c27
                          by_cases c28 : (t601.length : Int) ≤ 2
                          · rw [if_pos c28] at H
                            have c28b0 : decide ((t601.length : Int) ≤ 2) = true := decide_eq_true c28
                            have c28b1 : decide (t601.length ≤ 2) = true := decide_eq_true (by omega)
                            clear c28
                            replace H := Option.bind_eq_some_iff.mp H
                            obtain ⟨t606, A290, H⟩ := H
                            replace H : (if t606 = x13_22 then ((num_Same.f kj22 t588 t589 t592 t593 t594 t597).bind fun t607 => (if (t607 == (a0 == a1)) = true then ((num_Check.f kj22 t588 t589 t592).bind fun t608 => (if t608 = true then ((erratumlaw02_awake.f kj22).bind fun t609 => (some t609)) else (some false))) else (some false))) else (some false)) = some r := H
                            have A29 := Aside0.mk A290
                            clear A290
                            by_cases c30 : t606 = x13_22
                            · rw [if_pos c30] at H
                              have c30b0 : (t606 == x13_22) = true := beq_iff_eq.mpr c30
                              have c30b1 : (t606 != x13_22) = false := bne_eq_false_iff_eq.mpr c30
                              clear c30
                              replace H := Option.bind_eq_some_iff.mp H
                              obtain ⟨t607, A310, H⟩ := H
                              replace H : (if (t607 == (a0 == a1)) = true then ((num_Check.f kj22 t588 t589 t592).bind fun t608 => (if t608 = true then ((erratumlaw02_awake.f kj22).bind fun t609 => (some t609)) else (some false))) else (some false)) = some r := H
                              have A31 := Aside0.mk A310
                              clear A310
                              by_cases c32 : (t607 == (a0 == a1)) = true
                              · rw [if_pos c32] at H
                                have c32b0 : (t607 == (a0 == a1)) = true := c32
                                (try (have c32b1 : decide (t607 = (a0 == a1)) = true := by simpa using c32))
                                (try (have c32b2 : (t607 == (a0 == a1)) = true := by simpa using c32))
                                clear c32
                                replace H := Option.bind_eq_some_iff.mp H
                                obtain ⟨t608, A330, H⟩ := H
                                replace H : (if t608 = true then ((erratumlaw02_awake.f kj22).bind fun t609 => (some t609)) else (some false)) = some r := H
                                have A33 := Aside0.mk A330
                                clear A330
                                by_cases c34 : t608 = true
                                · subst c34
                                  have H1 : ((erratumlaw02_awake.f kj22).bind fun t609 => (some t609)) = some r := by rw [if_pos rfl] at H; exact H
                                  clear H
                                  have H := H1
                                  clear H1
                                  replace H := Option.bind_eq_some_iff.mp H
                                  obtain ⟨t609, A350, H⟩ := H
                                  replace H : (some t609) = some r := H
                                  have A35 := Aside0.mk A350
                                  clear A350
                                  obtain rfl := Option.some.inj H
                                  have hnb36 := NB598_599.out
                                  have hnc36 := NB599_598.out
                                  have hcz37_0 : wc.cell? ⟨gb598, 0, none⟩ = some (.bool t588) := (blk_cell BK598.out 0).trans rfl
                                  have hcz37_1 : wc.cell? ⟨gb598, 1, none⟩ = some (.slice Ao12 t589.length co12) := (blk_cell BK598.out 1).trans rfl
                                  have hcz37_2 : wc.cell? ⟨gb598, 2, none⟩ = some (.int .i64 t592) := (blk_cell BK598.out 2).trans rfl
                                  have hfz37_0 := blk_frozen BK598.out 0
                                  have hfz37_1 := blk_frozen BK598.out 1
                                  have hfz37_2 := blk_frozen BK598.out 2
                                  have hcz38_0 : wc.cell? ⟨gb599, 0, none⟩ = some (.bool t593) := (blk_cell BK599.out 0).trans rfl
                                  have hcz38_1 : wc.cell? ⟨gb599, 1, none⟩ = some (.slice Ao14 t594.length co14) := (blk_cell BK599.out 1).trans rfl
                                  have hcz38_2 : wc.cell? ⟨gb599, 2, none⟩ = some (.int .i64 t597) := (blk_cell BK599.out 2).trans rfl
                                  have hfz38_0 := blk_frozen BK599.out 0
                                  have hfz38_1 := blk_frozen BK599.out 1
                                  have hfz38_2 := blk_frozen BK599.out 2
                                  go_wp2_with (first | (go_at_call 21; (with_reducible refine (num_Cmp.calls kj22 t588 _ _ t589 t592 t593 _ _ t594 t597 t606 _ ?side1 ?side2 ?side3 ?side4 A29.out).mono ?_); (case side1 => repeat (first | exact (Kd.R_reads' HO_599001.out).2.2 | (with_reducible refine Kd.C_alloc ?_ _) | (with_reducible refine Kd.C_drewN ?_ _) | (with_reducible refine Kd.C_drew ?_))); (case side2 => exact (Kd.R_reads' HO_599001.out).2.1); (case side3 => repeat (first | exact (Kd.R_reads' HO_600001.out).2.2 | (with_reducible refine Kd.C_alloc ?_ _) | (with_reducible refine Kd.C_drewN ?_ _) | (with_reducible refine Kd.C_drew ?_))); (case side4 => exact (Kd.R_reads' HO_600001.out).2.1); rintro e w39 ⟨rfl, hb⟩; have n0_ := Aside0.mk (Kd.R_below (by (with_reducible repeat (first | apply Kd.R_alloc | apply Kd.R_drewN | apply Kd.R_drew)); exact HO_8.out) hb); have n1_ := Aside0.mk (Kd.R_below (by (with_reducible repeat (first | apply Kd.R_alloc | apply Kd.R_drewN | apply Kd.R_drew)); exact HO_599001.out) hb); have n2_ := Aside0.mk (Kd.R_below (by (with_reducible repeat (first | apply Kd.R_alloc | apply Kd.R_drewN | apply Kd.R_drew)); exact HO_600001.out) hb); have n3_ := Aside0.mk (blk_below (g := gb598) (o := .cells #[.bool t588, .slice Ao12 t589.length co12, .int .i64 t592] 25 (0, 0)) (by (with_reducible repeat (first | refine blk_drewN ?_ _ | refine blk_drew ?_ | refine blk_alloc ?_ _)); exact BK598.out) hb); have n4_ := Aside0.mk (blk_below (g := gb599) (o := .cells #[.bool t593, .slice Ao14 t594.length co14, .int .i64 t597] 25 (0, 0)) (by (with_reducible repeat (first | refine blk_drewN ?_ _ | refine blk_drew ?_ | refine blk_alloc ?_ _)); exact BK599.out) hb); have n5_ := Aside0.mk (below_step (by repeat (first | (with_reducible first | exact HB.out | apply below_alloc | apply pw_below_drewN | apply below_drew1 | refine below_set ?_ GE598.out | refine below_set ?_ GE599.out) | exact HB.out)) hb); clear HO_8; clear HO_599001; clear HO_600001; clear BK598; clear BK599; clear HB; have HO_8 := n0_; have HO_599001 := n1_; have HO_600001 := n2_; have BK598 := n3_; have BK599 := n4_; have HB := n5_; clear n0_ n1_ n2_ n3_ n4_ n5_; (try clear hb); (try clear hb2); (try clear hk); (try clear hi); have hcz40_0 : w39.cell? ⟨gb598, 0, none⟩ = some (.bool t588) := (blk_cell BK598.out 0).trans rfl; have hcz40_1 : w39.cell? ⟨gb598, 1, none⟩ = some (.slice Ao12 t589.length co12) := (blk_cell BK598.out 1).trans rfl; have hcz40_2 : w39.cell? ⟨gb598, 2, none⟩ = some (.int .i64 t592) := (blk_cell BK598.out 2).trans rfl; have hfz40_0 := blk_frozen BK598.out 0; have hfz40_1 := blk_frozen BK598.out 1; have hfz40_2 := blk_frozen BK598.out 2; have hcz41_0 : w39.cell? ⟨gb599, 0, none⟩ = some (.bool t593) := (blk_cell BK599.out 0).trans rfl; have hcz41_1 : w39.cell? ⟨gb599, 1, none⟩ = some (.slice Ao14 t594.length co14) := (blk_cell BK599.out 1).trans rfl; have hcz41_2 : w39.cell? ⟨gb599, 2, none⟩ = some (.int .i64 t597) := (blk_cell BK599.out 2).trans rfl; have hfz41_0 := blk_frozen BK599.out 0; have hfz41_1 := blk_frozen BK599.out 1; have hfz41_2 := blk_frozen BK599.out 2) | (go_at_call 22; (with_reducible refine (num_Same.calls kj22 t588 _ _ t589 t592 t593 _ _ t594 t597 t607 _ ?side1 ?side2 ?side3 ?side4 A31.out).mono ?_); (case side1 => repeat (first | exact (Kd.R_reads' HO_599001.out).2.2 | (with_reducible refine Kd.C_alloc ?_ _) | (with_reducible refine Kd.C_drewN ?_ _) | (with_reducible refine Kd.C_drew ?_))); (case side2 => exact (Kd.R_reads' HO_599001.out).2.1); (case side3 => repeat (first | exact (Kd.R_reads' HO_600001.out).2.2 | (with_reducible refine Kd.C_alloc ?_ _) | (with_reducible refine Kd.C_drewN ?_ _) | (with_reducible refine Kd.C_drew ?_))); (case side4 => exact (Kd.R_reads' HO_600001.out).2.1); rintro e w42 ⟨rfl, hb⟩; have n0_ := Aside0.mk (Kd.R_below (by (with_reducible repeat (first | apply Kd.R_alloc | apply Kd.R_drewN | apply Kd.R_drew)); exact HO_8.out) hb); have n1_ := Aside0.mk (Kd.R_below (by (with_reducible repeat (first | apply Kd.R_alloc | apply Kd.R_drewN | apply Kd.R_drew)); exact HO_599001.out) hb); have n2_ := Aside0.mk (Kd.R_below (by (with_reducible repeat (first | apply Kd.R_alloc | apply Kd.R_drewN | apply Kd.R_drew)); exact HO_600001.out) hb); have n3_ := Aside0.mk (blk_below (g := gb598) (o := .cells #[.bool t588, .slice Ao12 t589.length co12, .int .i64 t592] 25 (0, 0)) (by (with_reducible repeat (first | refine blk_drewN ?_ _ | refine blk_drew ?_ | refine blk_alloc ?_ _)); exact BK598.out) hb); have n4_ := Aside0.mk (blk_below (g := gb599) (o := .cells #[.bool t593, .slice Ao14 t594.length co14, .int .i64 t597] 25 (0, 0)) (by (with_reducible repeat (first | refine blk_drewN ?_ _ | refine blk_drew ?_ | refine blk_alloc ?_ _)); exact BK599.out) hb); have n5_ := Aside0.mk (below_step (by repeat (first | (with_reducible first | exact HB.out | apply below_alloc | apply pw_below_drewN | apply below_drew1 | refine below_set ?_ GE598.out | refine below_set ?_ GE599.out) | exact HB.out)) hb); clear HO_8; clear HO_599001; clear HO_600001; clear BK598; clear BK599; clear HB; have HO_8 := n0_; have HO_599001 := n1_; have HO_600001 := n2_; have BK598 := n3_; have BK599 := n4_; have HB := n5_; clear n0_ n1_ n2_ n3_ n4_ n5_; (try clear hb); (try clear hb2); (try clear hk); (try clear hi); have hcz43_0 : w42.cell? ⟨gb598, 0, none⟩ = some (.bool t588) := (blk_cell BK598.out 0).trans rfl; have hcz43_1 : w42.cell? ⟨gb598, 1, none⟩ = some (.slice Ao12 t589.length co12) := (blk_cell BK598.out 1).trans rfl; have hcz43_2 : w42.cell? ⟨gb598, 2, none⟩ = some (.int .i64 t592) := (blk_cell BK598.out 2).trans rfl; have hfz43_0 := blk_frozen BK598.out 0; have hfz43_1 := blk_frozen BK598.out 1; have hfz43_2 := blk_frozen BK598.out 2) | (go_at_call 19; (with_reducible refine (num_Check.calls kj22 t588 _ _ t589 t592 true _ ?side1 ?side2 A33.out).mono ?_); (case side1 => repeat (first | exact (Kd.R_reads' HO_599001.out).2.2 | (with_reducible refine Kd.C_alloc ?_ _) | (with_reducible refine Kd.C_drewN ?_ _) | (with_reducible refine Kd.C_drew ?_))); (case side2 => exact (Kd.R_reads' HO_599001.out).2.1); rintro e w44 ⟨rfl, hb⟩; have n0_ := Aside0.mk (Kd.R_below (by (with_reducible repeat (first | apply Kd.R_alloc | apply Kd.R_drewN | apply Kd.R_drew)); exact HO_8.out) hb); have n1_ := Aside0.mk (Kd.R_below (by (with_reducible repeat (first | apply Kd.R_alloc | apply Kd.R_drewN | apply Kd.R_drew)); exact HO_599001.out) hb); have n2_ := Aside0.mk (Kd.R_below (by (with_reducible repeat (first | apply Kd.R_alloc | apply Kd.R_drewN | apply Kd.R_drew)); exact HO_600001.out) hb); have n3_ := Aside0.mk (blk_below (g := gb598) (o := .cells #[.bool t588, .slice Ao12 t589.length co12, .int .i64 t592] 25 (0, 0)) (by (with_reducible repeat (first | refine blk_drewN ?_ _ | refine blk_drew ?_ | refine blk_alloc ?_ _)); exact BK598.out) hb); have n4_ := Aside0.mk (blk_below (g := gb599) (o := .cells #[.bool t593, .slice Ao14 t594.length co14, .int .i64 t597] 25 (0, 0)) (by (with_reducible repeat (first | refine blk_drewN ?_ _ | refine blk_drew ?_ | refine blk_alloc ?_ _)); exact BK599.out) hb); have n5_ := Aside0.mk (below_step (by repeat (first | (with_reducible first | exact HB.out | apply below_alloc | apply pw_below_drewN | apply below_drew1 | refine below_set ?_ GE598.out | refine below_set ?_ GE599.out) | exact HB.out)) hb); clear HO_8; clear HO_599001; clear HO_600001; clear BK598; clear BK599; clear HB; have HO_8 := n0_; have HO_599001 := n1_; have HO_600001 := n2_; have BK598 := n3_; have BK599 := n4_; have HB := n5_; clear n0_ n1_ n2_ n3_ n4_ n5_; (try clear hb); (try clear hb2); (try clear hk); (try clear hi)) | (go_at_call 9; (with_reducible refine (erratumlaw02_awake.calls kj22  t609 _ ?side1 A35.out).mono ?_); (case side1 => first | exact hL.out | exact hL.out.drewN _ | exact hL.out.drew | exact hL.out.below (by repeat (first | (with_reducible first | exact HB.out | apply below_alloc | apply pw_below_drewN | apply below_drew1 | refine below_set ?_ GE598.out | refine below_set ?_ GE599.out) | exact HB.out))); rintro e w45 ⟨rfl, hb⟩; have n0_ := Aside0.mk (Kd.R_below (by (with_reducible repeat (first | apply Kd.R_alloc | apply Kd.R_drewN | apply Kd.R_drew)); exact HO_8.out) hb); have n1_ := Aside0.mk (Kd.R_below (by (with_reducible repeat (first | apply Kd.R_alloc | apply Kd.R_drewN | apply Kd.R_drew)); exact HO_599001.out) hb); have n2_ := Aside0.mk (Kd.R_below (by (with_reducible repeat (first | apply Kd.R_alloc | apply Kd.R_drewN | apply Kd.R_drew)); exact HO_600001.out) hb); have n3_ := Aside0.mk (blk_below (g := gb598) (o := .cells #[.bool t588, .slice Ao12 t589.length co12, .int .i64 t592] 25 (0, 0)) (by (with_reducible repeat (first | refine blk_drewN ?_ _ | refine blk_drew ?_ | refine blk_alloc ?_ _)); exact BK598.out) hb); have n4_ := Aside0.mk (blk_below (g := gb599) (o := .cells #[.bool t593, .slice Ao14 t594.length co14, .int .i64 t597] 25 (0, 0)) (by (with_reducible repeat (first | refine blk_drewN ?_ _ | refine blk_drew ?_ | refine blk_alloc ?_ _)); exact BK599.out) hb); have n5_ := Aside0.mk (below_step (by repeat (first | (with_reducible first | exact HB.out | apply below_alloc | apply pw_below_drewN | apply below_drew1 | refine below_set ?_ GE598.out | refine below_set ?_ GE599.out) | exact HB.out)) hb); clear HO_8; clear HO_599001; clear HO_600001; clear BK598; clear BK599; clear HB; have HO_8 := n0_; have HO_599001 := n1_; have HO_600001 := n2_; have BK598 := n3_; have BK599 := n4_; have HB := n5_; clear n0_ n1_ n2_ n3_ n4_ n5_; (try clear hb); (try clear hb2); (try clear hk); (try clear hi)))
                                  go_ret
                                  exact ⟨by first | rfl | (simp [errW_none, errW_some] <;> rfl) | (simp [*, errW_none, errW_some] <;> rfl), by repeat (first | (with_reducible first | exact HB.out | apply below_alloc | apply pw_below_drewN | apply below_drew1 | refine below_set ?_ GE598.out | refine below_set ?_ GE599.out) | exact HB.out)⟩
                                · replace c34 := Bool.eq_false_iff.mpr c34
                                  subst c34
                                  have H1 : (some false) = some r := by rw [if_neg (show ¬ (false = true) by decide)] at H; exact H
                                  clear H
                                  have H := H1
                                  clear H1
                                  obtain rfl := Option.some.inj H
                                  have hnb46 := NB598_599.out
                                  have hnc46 := NB599_598.out
                                  have hcz47_0 : wc.cell? ⟨gb598, 0, none⟩ = some (.bool t588) := (blk_cell BK598.out 0).trans rfl
                                  have hcz47_1 : wc.cell? ⟨gb598, 1, none⟩ = some (.slice Ao12 t589.length co12) := (blk_cell BK598.out 1).trans rfl
                                  have hcz47_2 : wc.cell? ⟨gb598, 2, none⟩ = some (.int .i64 t592) := (blk_cell BK598.out 2).trans rfl
                                  have hfz47_0 := blk_frozen BK598.out 0
                                  have hfz47_1 := blk_frozen BK598.out 1
                                  have hfz47_2 := blk_frozen BK598.out 2
                                  have hcz48_0 : wc.cell? ⟨gb599, 0, none⟩ = some (.bool t593) := (blk_cell BK599.out 0).trans rfl
                                  have hcz48_1 : wc.cell? ⟨gb599, 1, none⟩ = some (.slice Ao14 t594.length co14) := (blk_cell BK599.out 1).trans rfl
                                  have hcz48_2 : wc.cell? ⟨gb599, 2, none⟩ = some (.int .i64 t597) := (blk_cell BK599.out 2).trans rfl
                                  have hfz48_0 := blk_frozen BK599.out 0
                                  have hfz48_1 := blk_frozen BK599.out 1
                                  have hfz48_2 := blk_frozen BK599.out 2
                                  go_wp2_with (first | (go_at_call 21; (with_reducible refine (num_Cmp.calls kj22 t588 _ _ t589 t592 t593 _ _ t594 t597 t606 _ ?side1 ?side2 ?side3 ?side4 A29.out).mono ?_); (case side1 => repeat (first | exact (Kd.R_reads' HO_599001.out).2.2 | (with_reducible refine Kd.C_alloc ?_ _) | (with_reducible refine Kd.C_drewN ?_ _) | (with_reducible refine Kd.C_drew ?_))); (case side2 => exact (Kd.R_reads' HO_599001.out).2.1); (case side3 => repeat (first | exact (Kd.R_reads' HO_600001.out).2.2 | (with_reducible refine Kd.C_alloc ?_ _) | (with_reducible refine Kd.C_drewN ?_ _) | (with_reducible refine Kd.C_drew ?_))); (case side4 => exact (Kd.R_reads' HO_600001.out).2.1); rintro e w49 ⟨rfl, hb⟩; have n0_ := Aside0.mk (Kd.R_below (by (with_reducible repeat (first | apply Kd.R_alloc | apply Kd.R_drewN | apply Kd.R_drew)); exact HO_8.out) hb); have n1_ := Aside0.mk (Kd.R_below (by (with_reducible repeat (first | apply Kd.R_alloc | apply Kd.R_drewN | apply Kd.R_drew)); exact HO_599001.out) hb); have n2_ := Aside0.mk (Kd.R_below (by (with_reducible repeat (first | apply Kd.R_alloc | apply Kd.R_drewN | apply Kd.R_drew)); exact HO_600001.out) hb); have n3_ := Aside0.mk (blk_below (g := gb598) (o := .cells #[.bool t588, .slice Ao12 t589.length co12, .int .i64 t592] 25 (0, 0)) (by (with_reducible repeat (first | refine blk_drewN ?_ _ | refine blk_drew ?_ | refine blk_alloc ?_ _)); exact BK598.out) hb); have n4_ := Aside0.mk (blk_below (g := gb599) (o := .cells #[.bool t593, .slice Ao14 t594.length co14, .int .i64 t597] 25 (0, 0)) (by (with_reducible repeat (first | refine blk_drewN ?_ _ | refine blk_drew ?_ | refine blk_alloc ?_ _)); exact BK599.out) hb); have n5_ := Aside0.mk (below_step (by repeat (first | (with_reducible first | exact HB.out | apply below_alloc | apply pw_below_drewN | apply below_drew1 | refine below_set ?_ GE598.out | refine below_set ?_ GE599.out) | exact HB.out)) hb); clear HO_8; clear HO_599001; clear HO_600001; clear BK598; clear BK599; clear HB; have HO_8 := n0_; have HO_599001 := n1_; have HO_600001 := n2_; have BK598 := n3_; have BK599 := n4_; have HB := n5_; clear n0_ n1_ n2_ n3_ n4_ n5_; (try clear hb); (try clear hb2); (try clear hk); (try clear hi); have hcz50_0 : w49.cell? ⟨gb598, 0, none⟩ = some (.bool t588) := (blk_cell BK598.out 0).trans rfl; have hcz50_1 : w49.cell? ⟨gb598, 1, none⟩ = some (.slice Ao12 t589.length co12) := (blk_cell BK598.out 1).trans rfl; have hcz50_2 : w49.cell? ⟨gb598, 2, none⟩ = some (.int .i64 t592) := (blk_cell BK598.out 2).trans rfl; have hfz50_0 := blk_frozen BK598.out 0; have hfz50_1 := blk_frozen BK598.out 1; have hfz50_2 := blk_frozen BK598.out 2; have hcz51_0 : w49.cell? ⟨gb599, 0, none⟩ = some (.bool t593) := (blk_cell BK599.out 0).trans rfl; have hcz51_1 : w49.cell? ⟨gb599, 1, none⟩ = some (.slice Ao14 t594.length co14) := (blk_cell BK599.out 1).trans rfl; have hcz51_2 : w49.cell? ⟨gb599, 2, none⟩ = some (.int .i64 t597) := (blk_cell BK599.out 2).trans rfl; have hfz51_0 := blk_frozen BK599.out 0; have hfz51_1 := blk_frozen BK599.out 1; have hfz51_2 := blk_frozen BK599.out 2) | (go_at_call 22; (with_reducible refine (num_Same.calls kj22 t588 _ _ t589 t592 t593 _ _ t594 t597 t607 _ ?side1 ?side2 ?side3 ?side4 A31.out).mono ?_); (case side1 => repeat (first | exact (Kd.R_reads' HO_599001.out).2.2 | (with_reducible refine Kd.C_alloc ?_ _) | (with_reducible refine Kd.C_drewN ?_ _) | (with_reducible refine Kd.C_drew ?_))); (case side2 => exact (Kd.R_reads' HO_599001.out).2.1); (case side3 => repeat (first | exact (Kd.R_reads' HO_600001.out).2.2 | (with_reducible refine Kd.C_alloc ?_ _) | (with_reducible refine Kd.C_drewN ?_ _) | (with_reducible refine Kd.C_drew ?_))); (case side4 => exact (Kd.R_reads' HO_600001.out).2.1); rintro e w52 ⟨rfl, hb⟩; have n0_ := Aside0.mk (Kd.R_below (by (with_reducible repeat (first | apply Kd.R_alloc | apply Kd.R_drewN | apply Kd.R_drew)); exact HO_8.out) hb); have n1_ := Aside0.mk (Kd.R_below (by (with_reducible repeat (first | apply Kd.R_alloc | apply Kd.R_drewN | apply Kd.R_drew)); exact HO_599001.out) hb); have n2_ := Aside0.mk (Kd.R_below (by (with_reducible repeat (first | apply Kd.R_alloc | apply Kd.R_drewN | apply Kd.R_drew)); exact HO_600001.out) hb); have n3_ := Aside0.mk (blk_below (g := gb598) (o := .cells #[.bool t588, .slice Ao12 t589.length co12, .int .i64 t592] 25 (0, 0)) (by (with_reducible repeat (first | refine blk_drewN ?_ _ | refine blk_drew ?_ | refine blk_alloc ?_ _)); exact BK598.out) hb); have n4_ := Aside0.mk (blk_below (g := gb599) (o := .cells #[.bool t593, .slice Ao14 t594.length co14, .int .i64 t597] 25 (0, 0)) (by (with_reducible repeat (first | refine blk_drewN ?_ _ | refine blk_drew ?_ | refine blk_alloc ?_ _)); exact BK599.out) hb); have n5_ := Aside0.mk (below_step (by repeat (first | (with_reducible first | exact HB.out | apply below_alloc | apply pw_below_drewN | apply below_drew1 | refine below_set ?_ GE598.out | refine below_set ?_ GE599.out) | exact HB.out)) hb); clear HO_8; clear HO_599001; clear HO_600001; clear BK598; clear BK599; clear HB; have HO_8 := n0_; have HO_599001 := n1_; have HO_600001 := n2_; have BK598 := n3_; have BK599 := n4_; have HB := n5_; clear n0_ n1_ n2_ n3_ n4_ n5_; (try clear hb); (try clear hb2); (try clear hk); (try clear hi); have hcz53_0 : w52.cell? ⟨gb598, 0, none⟩ = some (.bool t588) := (blk_cell BK598.out 0).trans rfl; have hcz53_1 : w52.cell? ⟨gb598, 1, none⟩ = some (.slice Ao12 t589.length co12) := (blk_cell BK598.out 1).trans rfl; have hcz53_2 : w52.cell? ⟨gb598, 2, none⟩ = some (.int .i64 t592) := (blk_cell BK598.out 2).trans rfl; have hfz53_0 := blk_frozen BK598.out 0; have hfz53_1 := blk_frozen BK598.out 1; have hfz53_2 := blk_frozen BK598.out 2) | (go_at_call 19; (with_reducible refine (num_Check.calls kj22 t588 _ _ t589 t592 false _ ?side1 ?side2 A33.out).mono ?_); (case side1 => repeat (first | exact (Kd.R_reads' HO_599001.out).2.2 | (with_reducible refine Kd.C_alloc ?_ _) | (with_reducible refine Kd.C_drewN ?_ _) | (with_reducible refine Kd.C_drew ?_))); (case side2 => exact (Kd.R_reads' HO_599001.out).2.1); rintro e w54 ⟨rfl, hb⟩; have n0_ := Aside0.mk (Kd.R_below (by (with_reducible repeat (first | apply Kd.R_alloc | apply Kd.R_drewN | apply Kd.R_drew)); exact HO_8.out) hb); have n1_ := Aside0.mk (Kd.R_below (by (with_reducible repeat (first | apply Kd.R_alloc | apply Kd.R_drewN | apply Kd.R_drew)); exact HO_599001.out) hb); have n2_ := Aside0.mk (Kd.R_below (by (with_reducible repeat (first | apply Kd.R_alloc | apply Kd.R_drewN | apply Kd.R_drew)); exact HO_600001.out) hb); have n3_ := Aside0.mk (blk_below (g := gb598) (o := .cells #[.bool t588, .slice Ao12 t589.length co12, .int .i64 t592] 25 (0, 0)) (by (with_reducible repeat (first | refine blk_drewN ?_ _ | refine blk_drew ?_ | refine blk_alloc ?_ _)); exact BK598.out) hb); have n4_ := Aside0.mk (blk_below (g := gb599) (o := .cells #[.bool t593, .slice Ao14 t594.length co14, .int .i64 t597] 25 (0, 0)) (by (with_reducible repeat (first | refine blk_drewN ?_ _ | refine blk_drew ?_ | refine blk_alloc ?_ _)); exact BK599.out) hb); have n5_ := Aside0.mk (below_step (by repeat (first | (with_reducible first | exact HB.out | apply below_alloc | apply pw_below_drewN | apply below_drew1 | refine below_set ?_ GE598.out | refine below_set ?_ GE599.out) | exact HB.out)) hb); clear HO_8; clear HO_599001; clear HO_600001; clear BK598; clear BK599; clear HB; have HO_8 := n0_; have HO_599001 := n1_; have HO_600001 := n2_; have BK598 := n3_; have BK599 := n4_; have HB := n5_; clear n0_ n1_ n2_ n3_ n4_ n5_; (try clear hb); (try clear hb2); (try clear hk); (try clear hi)))
                                  go_ret
                                  exact ⟨by first | rfl | (simp [errW_none, errW_some] <;> rfl) | (simp [*, errW_none, errW_some] <;> rfl), by repeat (first | (with_reducible first | exact HB.out | apply below_alloc | apply pw_below_drewN | apply below_drew1 | refine below_set ?_ GE598.out | refine below_set ?_ GE599.out) | exact HB.out)⟩
                              · rw [if_neg c32] at H
                                have c32b0 : (t607 == (a0 == a1)) = false := by simpa using c32
                                (try (have c32b1 : decide (t607 = (a0 == a1)) = false := by simpa using c32))
                                (try (have c32b2 : (t607 == (a0 == a1)) = false := by simpa using c32))
                                (try (have c32b3 : ¬ (t607 = (a0 == a1)) := by simpa using c32))
                                clear c32
                                obtain rfl := Option.some.inj H
                                have hnb55 := NB598_599.out
                                have hnc55 := NB599_598.out
                                have hcz56_0 : wc.cell? ⟨gb598, 0, none⟩ = some (.bool t588) := (blk_cell BK598.out 0).trans rfl
                                have hcz56_1 : wc.cell? ⟨gb598, 1, none⟩ = some (.slice Ao12 t589.length co12) := (blk_cell BK598.out 1).trans rfl
                                have hcz56_2 : wc.cell? ⟨gb598, 2, none⟩ = some (.int .i64 t592) := (blk_cell BK598.out 2).trans rfl
                                have hfz56_0 := blk_frozen BK598.out 0
                                have hfz56_1 := blk_frozen BK598.out 1
                                have hfz56_2 := blk_frozen BK598.out 2
                                have hcz57_0 : wc.cell? ⟨gb599, 0, none⟩ = some (.bool t593) := (blk_cell BK599.out 0).trans rfl
                                have hcz57_1 : wc.cell? ⟨gb599, 1, none⟩ = some (.slice Ao14 t594.length co14) := (blk_cell BK599.out 1).trans rfl
                                have hcz57_2 : wc.cell? ⟨gb599, 2, none⟩ = some (.int .i64 t597) := (blk_cell BK599.out 2).trans rfl
                                have hfz57_0 := blk_frozen BK599.out 0
                                have hfz57_1 := blk_frozen BK599.out 1
                                have hfz57_2 := blk_frozen BK599.out 2
                                go_wp2_with (first | (go_at_call 21; (with_reducible refine (num_Cmp.calls kj22 t588 _ _ t589 t592 t593 _ _ t594 t597 t606 _ ?side1 ?side2 ?side3 ?side4 A29.out).mono ?_); (case side1 => repeat (first | exact (Kd.R_reads' HO_599001.out).2.2 | (with_reducible refine Kd.C_alloc ?_ _) | (with_reducible refine Kd.C_drewN ?_ _) | (with_reducible refine Kd.C_drew ?_))); (case side2 => exact (Kd.R_reads' HO_599001.out).2.1); (case side3 => repeat (first | exact (Kd.R_reads' HO_600001.out).2.2 | (with_reducible refine Kd.C_alloc ?_ _) | (with_reducible refine Kd.C_drewN ?_ _) | (with_reducible refine Kd.C_drew ?_))); (case side4 => exact (Kd.R_reads' HO_600001.out).2.1); rintro e w58 ⟨rfl, hb⟩; have n0_ := Aside0.mk (Kd.R_below (by (with_reducible repeat (first | apply Kd.R_alloc | apply Kd.R_drewN | apply Kd.R_drew)); exact HO_8.out) hb); have n1_ := Aside0.mk (Kd.R_below (by (with_reducible repeat (first | apply Kd.R_alloc | apply Kd.R_drewN | apply Kd.R_drew)); exact HO_599001.out) hb); have n2_ := Aside0.mk (Kd.R_below (by (with_reducible repeat (first | apply Kd.R_alloc | apply Kd.R_drewN | apply Kd.R_drew)); exact HO_600001.out) hb); have n3_ := Aside0.mk (blk_below (g := gb598) (o := .cells #[.bool t588, .slice Ao12 t589.length co12, .int .i64 t592] 25 (0, 0)) (by (with_reducible repeat (first | refine blk_drewN ?_ _ | refine blk_drew ?_ | refine blk_alloc ?_ _)); exact BK598.out) hb); have n4_ := Aside0.mk (blk_below (g := gb599) (o := .cells #[.bool t593, .slice Ao14 t594.length co14, .int .i64 t597] 25 (0, 0)) (by (with_reducible repeat (first | refine blk_drewN ?_ _ | refine blk_drew ?_ | refine blk_alloc ?_ _)); exact BK599.out) hb); have n5_ := Aside0.mk (below_step (by repeat (first | (with_reducible first | exact HB.out | apply below_alloc | apply pw_below_drewN | apply below_drew1 | refine below_set ?_ GE598.out | refine below_set ?_ GE599.out) | exact HB.out)) hb); clear HO_8; clear HO_599001; clear HO_600001; clear BK598; clear BK599; clear HB; have HO_8 := n0_; have HO_599001 := n1_; have HO_600001 := n2_; have BK598 := n3_; have BK599 := n4_; have HB := n5_; clear n0_ n1_ n2_ n3_ n4_ n5_; (try clear hb); (try clear hb2); (try clear hk); (try clear hi); have hcz59_0 : w58.cell? ⟨gb598, 0, none⟩ = some (.bool t588) := (blk_cell BK598.out 0).trans rfl; have hcz59_1 : w58.cell? ⟨gb598, 1, none⟩ = some (.slice Ao12 t589.length co12) := (blk_cell BK598.out 1).trans rfl; have hcz59_2 : w58.cell? ⟨gb598, 2, none⟩ = some (.int .i64 t592) := (blk_cell BK598.out 2).trans rfl; have hfz59_0 := blk_frozen BK598.out 0; have hfz59_1 := blk_frozen BK598.out 1; have hfz59_2 := blk_frozen BK598.out 2; have hcz60_0 : w58.cell? ⟨gb599, 0, none⟩ = some (.bool t593) := (blk_cell BK599.out 0).trans rfl; have hcz60_1 : w58.cell? ⟨gb599, 1, none⟩ = some (.slice Ao14 t594.length co14) := (blk_cell BK599.out 1).trans rfl; have hcz60_2 : w58.cell? ⟨gb599, 2, none⟩ = some (.int .i64 t597) := (blk_cell BK599.out 2).trans rfl; have hfz60_0 := blk_frozen BK599.out 0; have hfz60_1 := blk_frozen BK599.out 1; have hfz60_2 := blk_frozen BK599.out 2) | (go_at_call 22; (with_reducible refine (num_Same.calls kj22 t588 _ _ t589 t592 t593 _ _ t594 t597 t607 _ ?side1 ?side2 ?side3 ?side4 A31.out).mono ?_); (case side1 => repeat (first | exact (Kd.R_reads' HO_599001.out).2.2 | (with_reducible refine Kd.C_alloc ?_ _) | (with_reducible refine Kd.C_drewN ?_ _) | (with_reducible refine Kd.C_drew ?_))); (case side2 => exact (Kd.R_reads' HO_599001.out).2.1); (case side3 => repeat (first | exact (Kd.R_reads' HO_600001.out).2.2 | (with_reducible refine Kd.C_alloc ?_ _) | (with_reducible refine Kd.C_drewN ?_ _) | (with_reducible refine Kd.C_drew ?_))); (case side4 => exact (Kd.R_reads' HO_600001.out).2.1); rintro e w61 ⟨rfl, hb⟩; have n0_ := Aside0.mk (Kd.R_below (by (with_reducible repeat (first | apply Kd.R_alloc | apply Kd.R_drewN | apply Kd.R_drew)); exact HO_8.out) hb); have n1_ := Aside0.mk (Kd.R_below (by (with_reducible repeat (first | apply Kd.R_alloc | apply Kd.R_drewN | apply Kd.R_drew)); exact HO_599001.out) hb); have n2_ := Aside0.mk (Kd.R_below (by (with_reducible repeat (first | apply Kd.R_alloc | apply Kd.R_drewN | apply Kd.R_drew)); exact HO_600001.out) hb); have n3_ := Aside0.mk (blk_below (g := gb598) (o := .cells #[.bool t588, .slice Ao12 t589.length co12, .int .i64 t592] 25 (0, 0)) (by (with_reducible repeat (first | refine blk_drewN ?_ _ | refine blk_drew ?_ | refine blk_alloc ?_ _)); exact BK598.out) hb); have n4_ := Aside0.mk (blk_below (g := gb599) (o := .cells #[.bool t593, .slice Ao14 t594.length co14, .int .i64 t597] 25 (0, 0)) (by (with_reducible repeat (first | refine blk_drewN ?_ _ | refine blk_drew ?_ | refine blk_alloc ?_ _)); exact BK599.out) hb); have n5_ := Aside0.mk (below_step (by repeat (first | (with_reducible first | exact HB.out | apply below_alloc | apply pw_below_drewN | apply below_drew1 | refine below_set ?_ GE598.out | refine below_set ?_ GE599.out) | exact HB.out)) hb); clear HO_8; clear HO_599001; clear HO_600001; clear BK598; clear BK599; clear HB; have HO_8 := n0_; have HO_599001 := n1_; have HO_600001 := n2_; have BK598 := n3_; have BK599 := n4_; have HB := n5_; clear n0_ n1_ n2_ n3_ n4_ n5_; (try clear hb); (try clear hb2); (try clear hk); (try clear hi)))
                                go_ret
                                exact ⟨by first | rfl | (simp [errW_none, errW_some] <;> rfl) | (simp [*, errW_none, errW_some] <;> rfl), by repeat (first | (with_reducible first | exact HB.out | apply below_alloc | apply pw_below_drewN | apply below_drew1 | refine below_set ?_ GE598.out | refine below_set ?_ GE599.out) | exact HB.out)⟩
                            · rw [if_neg c30] at H
                              have c30b0 : (t606 == x13_22) = false := beq_eq_false_iff_ne.mpr c30
                              have c30b1 : (t606 != x13_22) = true := bne_iff_ne.mpr c30
                              obtain rfl := Option.some.inj H
                              have hnb62 := NB598_599.out
                              have hnc62 := NB599_598.out
                              have hcz63_0 : wc.cell? ⟨gb598, 0, none⟩ = some (.bool t588) := (blk_cell BK598.out 0).trans rfl
                              have hcz63_1 : wc.cell? ⟨gb598, 1, none⟩ = some (.slice Ao12 t589.length co12) := (blk_cell BK598.out 1).trans rfl
                              have hcz63_2 : wc.cell? ⟨gb598, 2, none⟩ = some (.int .i64 t592) := (blk_cell BK598.out 2).trans rfl
                              have hfz63_0 := blk_frozen BK598.out 0
                              have hfz63_1 := blk_frozen BK598.out 1
                              have hfz63_2 := blk_frozen BK598.out 2
                              have hcz64_0 : wc.cell? ⟨gb599, 0, none⟩ = some (.bool t593) := (blk_cell BK599.out 0).trans rfl
                              have hcz64_1 : wc.cell? ⟨gb599, 1, none⟩ = some (.slice Ao14 t594.length co14) := (blk_cell BK599.out 1).trans rfl
                              have hcz64_2 : wc.cell? ⟨gb599, 2, none⟩ = some (.int .i64 t597) := (blk_cell BK599.out 2).trans rfl
                              have hfz64_0 := blk_frozen BK599.out 0
                              have hfz64_1 := blk_frozen BK599.out 1
                              have hfz64_2 := blk_frozen BK599.out 2
                              go_wp2_with (first | (go_at_call 21; (with_reducible refine (num_Cmp.calls kj22 t588 _ _ t589 t592 t593 _ _ t594 t597 t606 _ ?side1 ?side2 ?side3 ?side4 A29.out).mono ?_); (case side1 => repeat (first | exact (Kd.R_reads' HO_599001.out).2.2 | (with_reducible refine Kd.C_alloc ?_ _) | (with_reducible refine Kd.C_drewN ?_ _) | (with_reducible refine Kd.C_drew ?_))); (case side2 => exact (Kd.R_reads' HO_599001.out).2.1); (case side3 => repeat (first | exact (Kd.R_reads' HO_600001.out).2.2 | (with_reducible refine Kd.C_alloc ?_ _) | (with_reducible refine Kd.C_drewN ?_ _) | (with_reducible refine Kd.C_drew ?_))); (case side4 => exact (Kd.R_reads' HO_600001.out).2.1); rintro e w65 ⟨rfl, hb⟩; have n0_ := Aside0.mk (Kd.R_below (by (with_reducible repeat (first | apply Kd.R_alloc | apply Kd.R_drewN | apply Kd.R_drew)); exact HO_8.out) hb); have n1_ := Aside0.mk (Kd.R_below (by (with_reducible repeat (first | apply Kd.R_alloc | apply Kd.R_drewN | apply Kd.R_drew)); exact HO_599001.out) hb); have n2_ := Aside0.mk (Kd.R_below (by (with_reducible repeat (first | apply Kd.R_alloc | apply Kd.R_drewN | apply Kd.R_drew)); exact HO_600001.out) hb); have n3_ := Aside0.mk (blk_below (g := gb598) (o := .cells #[.bool t588, .slice Ao12 t589.length co12, .int .i64 t592] 25 (0, 0)) (by (with_reducible repeat (first | refine blk_drewN ?_ _ | refine blk_drew ?_ | refine blk_alloc ?_ _)); exact BK598.out) hb); have n4_ := Aside0.mk (blk_below (g := gb599) (o := .cells #[.bool t593, .slice Ao14 t594.length co14, .int .i64 t597] 25 (0, 0)) (by (with_reducible repeat (first | refine blk_drewN ?_ _ | refine blk_drew ?_ | refine blk_alloc ?_ _)); exact BK599.out) hb); have n5_ := Aside0.mk (below_step (by repeat (first | (with_reducible first | exact HB.out | apply below_alloc | apply pw_below_drewN | apply below_drew1 | refine below_set ?_ GE598.out | refine below_set ?_ GE599.out) | exact HB.out)) hb); clear HO_8; clear HO_599001; clear HO_600001; clear BK598; clear BK599; clear HB; have HO_8 := n0_; have HO_599001 := n1_; have HO_600001 := n2_; have BK598 := n3_; have BK599 := n4_; have HB := n5_; clear n0_ n1_ n2_ n3_ n4_ n5_; (try clear hb); (try clear hb2); (try clear hk); (try clear hi)))
                              go_ret
                              exact ⟨by first | rfl | (simp [errW_none, errW_some] <;> rfl) | (simp [*, errW_none, errW_some] <;> rfl), by repeat (first | (with_reducible first | exact HB.out | apply below_alloc | apply pw_below_drewN | apply below_drew1 | refine below_set ?_ GE598.out | refine below_set ?_ GE599.out) | exact HB.out)⟩
                          · rw [if_neg c28] at H
                            have c28b0 : decide ((t601.length : Int) ≤ 2) = false := decide_eq_false c28
                            have c28b1 : decide (t601.length ≤ 2) = false := decide_eq_false (by omega)
                            clear c28
                            obtain rfl := Option.some.inj H
                            go_wp2
                            go_ret
                            exact ⟨by first | rfl | (simp [errW_none, errW_some] <;> rfl) | (simp [*, errW_none, errW_some] <;> rfl), by repeat (first | (with_reducible first | exact HB.out | apply below_alloc | apply pw_below_drewN | apply below_drew1 | refine below_set ?_ GE598.out | refine below_set ?_ GE599.out) | exact HB.out)⟩
                        · rw [if_neg c27] at H
                          have c27b0 : (x10_1 == x12_18) = false := beq_eq_false_iff_ne.mpr c27
                          have c27b1 : (x10_1 != x12_18) = true := bne_iff_ne.mpr c27
                          obtain rfl := Option.some.inj H
                          go_wp2
                          go_ret
                          exact ⟨by first | rfl | (simp [errW_none, errW_some] <;> rfl) | (simp [*, errW_none, errW_some] <;> rfl), by repeat (first | (with_reducible first | exact HB.out | apply below_alloc | apply pw_below_drewN | apply below_drew1 | refine below_set ?_ GE598.out | refine below_set ?_ GE599.out) | exact HB.out)⟩
                      · rw [if_neg c26] at H
                        have c26b0 : (t600 == (decide (a0 < 0))) = false := by simpa using c26
                        (try (have c26b1 : decide (t600 = (decide (a0 < 0))) = false := by simpa using c26))
                        (try (have c26b2 : (t600 == (decide (a0 < 0))) = false := by simpa using c26))
                        (try (have c26b3 : ¬ (t600 = (decide (a0 < 0))) := by simpa using c26))
                        clear c26
                        obtain rfl := Option.some.inj H
                        go_wp2
                        go_ret
                        exact ⟨by first | rfl | (simp [errW_none, errW_some] <;> rfl) | (simp [*, errW_none, errW_some] <;> rfl), by repeat (first | (with_reducible first | exact HB.out | apply below_alloc | apply pw_below_drewN | apply below_drew1 | refine below_set ?_ GE598.out | refine below_set ?_ GE599.out) | exact HB.out)⟩
                    · replace c25 := Bool.eq_false_iff.mpr c25
                      subst c25
                      have H1 : (some false) = some r := by rw [if_neg (show ¬ (false = true) by decide)] at H; exact H
                      clear H
                      have H := H1
                      clear H1
                      obtain rfl := Option.some.inj H
                      go_wp2
                      go_ret
                      exact ⟨by first | rfl | (simp [errW_none, errW_some] <;> rfl) | (simp [*, errW_none, errW_some] <;> rfl), by repeat (first | (with_reducible first | exact HB.out | apply below_alloc | apply pw_below_drewN | apply below_drew1 | refine below_set ?_ GE598.out | refine below_set ?_ GE599.out) | exact HB.out)⟩

end Go.Proofs.YtmkdcokdilllcaaDoor.X
/- Whole numbers: as they are made, and as they are told. -/
namespace Go.Proofs.YtmkdcokdilllcaaDoor.X
open Go.RowKit Go.Proofs.YtmkdcokdilllcaaDoorW.PrintWords Go.Proofs.YtmkdcokdilllcaaDoorW.PrintMore
set_option linter.unusedVariables false
set_option linter.unusedSimpArgs false
theorem and_one {x : Nat} (h : x < 1000000) : Go.bits .and .i64 (x : Int) 1 = ((x % 2 : Nat) : Int) := by
  have hk : ∀ n : Int, 0 ≤ n → n < 2 ^ 63 → IntKind.i64.wrap n = n := fun n h0 h1 => by rw [IntKind.wrap_i64]; omega
  have h1 := bits_mask .i64 63 (by decide) hk 1 (by decide) (x : Int) (by omega) (by omega)
  rw [show ((2 : Int) ^ 1 - 1) = 1 from rfl] at h1
  rw [h1]
  omega
theorem pow_len' {s m : Nat} (h : s < m) : (lim (10 ^ s)).length ≤ m := lim_len_le (Nat.lt_of_lt_of_le (Nat.pow_lt_pow_right (by decide) h) (Nat.pow_le_pow_left (by decide : 10 ≤ 4294967296) _))
theorem pow_len {s : Nat} (h : s ≤ 100000) : (lim (10 ^ s)).length ≤ 100001 := pow_len' (by omega)
theorem prod_len {n e a b : Nat} (hn : (lim n).length ≤ a) (he : e ≤ b) : (lim (n * 10 ^ e)).length ≤ a + b := by
  refine lim_len_le ?_
  have h1 : n < 4294967296 ^ a := by
    have := val_lt (lim_ok n)
    rw [val_lim] at this
    exact Nat.lt_of_lt_of_le this (Nat.pow_le_pow_right (by decide) hn)
  have h2 : 10 ^ e ≤ 4294967296 ^ b := Nat.le_trans (Nat.pow_le_pow_left (by decide) _) (Nat.pow_le_pow_right (by decide) he)
  rw [Nat.pow_add]
  exact Nat.mul_lt_mul_of_lt_of_le h1 h2 (Nat.pow_pos (by decide))
theorem pow_loop (e : Nat) (he : e ≤ 1300) : ∀ (n s t : Nat), t + s * n = e → s ≤ 2600 → t ≤ 1300 → n ≤ 1300 → Ev (fun k => nat_Pow.l0 k (n : Int) (lim (10 ^ t)) (lim (10 ^ s))) (lim (10 ^ e)) := by
  intro n
  induction n using Nat.strongRecOn with
  | _ n ih =>
    intro s t hst hs ht hn
    refine Ev.succ ?_
    by_cases h0 : n = 0
    · subst h0
      have c0 : ¬ ((0 : Nat) : Int) > 0 := by omega
      simp only [nat_Pow.l0, c0, if_false]
      rw [Nat.mul_zero, Nat.add_zero] at hst
      rw [hst]
      exact Ev.now _
    · have c0 : (n : Int) > 0 := by omega
      have hs1 : s ≤ 1300 := by
        have : s * 1 ≤ s * n := Nat.mul_le_mul_left _ (by omega)
        omega
      have hl1 := pow_len (s := s) (by omega)
      have hl2 := pow_len (s := t) (by omega)
      have hdiv : (n : Int) / 2 = ((n / 2 : Nat) : Int) := by omega
      have hsq := nat_mul (lim_ok (10 ^ s)) (lim_ok (10 ^ s)) (by omega) (by omega)
      rw [val_lim, ← Nat.pow_add] at hsq
      simp only [nat_Pow.l0, c0, if_true, and_one (show n < 1000000 by omega), hdiv]
      have hdm := Nat.div_add_mod n 2
      have hd : s * n = (s + s) * (n / 2) + s * (n % 2) := by
        rw [← Nat.two_mul, Nat.mul_comm 2 s, Nat.mul_assoc, ← Nat.mul_add, hdm]
      by_cases h1 : n % 2 = 0
      · have c1 : ((n % 2 : Nat) : Int) = 0 := by omega
        rw [h1, Nat.mul_zero, Nat.add_zero] at hd
        simp only [c1, if_true]
        refine Ev.bind hsq ?_
        exact ih (n / 2) (by omega) (s + s) t (by omega) (by omega) ht (by omega)
      · have c1 : ¬ ((n % 2 : Nat) : Int) = 0 := by omega
        have hm1 : n % 2 = 1 := by omega
        rw [hm1, Nat.mul_one] at hd
        simp only [c1, if_false]
        have hmu := nat_mul (lim_ok (10 ^ t)) (lim_ok (10 ^ s)) (by omega) (by omega)
        rw [val_lim, val_lim, ← Nat.pow_add] at hmu
        refine Ev.bind hmu (Ev.bind hsq ?_)
        exact ih (n / 2) (by omega) (s + s) (t + s) (by omega) (by omega) (by omega) (by omega)
theorem nat_pow {e : Nat} (he : e ≤ 1300) : Ev (fun k => nat_Pow.f k 10 (e : Int)) (lim (10 ^ e)) := by
  have h1 : nat_Norm.f [10] = some (lim 10) := by
    rw [nat_Norm_eq (ok_one (by decide) (by decide)) (by decide)]
    rfl
  have h2 : mx 0 (mn (e : Int) 1300) = (e : Int) := by unfold mx mn; split <;> split <;> omega
  have h3 := pow_loop e he e 1 0 (by omega) (by decide) (by decide) he
  rw [Nat.pow_zero, Nat.pow_one] at h3
  have h4 : lim 1 = [1] := by rw [lim_pos (by decide), show 1 / 4294967296 = 0 from rfl, lim_zero]; rfl
  rw [h4] at h3
  unfold nat_Pow.f
  simp only [h1, Option.bind_some, h2]
  exact h3
/-- How many bits a natural has. -/
def blen (n : Nat) : Nat := if n = 0 then 0 else n.log2 + 1
theorem blen_lt (n k : Nat) : k < blen n ↔ 2 ^ k ≤ n := by
  unfold blen
  by_cases h : n = 0
  · subst h
    rw [if_pos rfl]
    have : 0 < 2 ^ k := Nat.pow_pos (by decide)
    omega
  · rw [if_neg h]
    have := @Nat.log2_lt n k h
    omega
theorem bitLen_blen {t : Nat} (h0 : t ≠ 0) (h : t < 4294967296) : Lib.bitLen t = blen t := by
  have h1 := Lib.bitLenAux_bounds 64 t (by omega) h0
  have h2 := blen_lt t (Lib.bitLenAux 64 t - 1)
  have h3 := blen_lt t (Lib.bitLenAux 64 t)
  unfold Lib.bitLen
  have a := h2.2 h1.2.1
  have b : ¬ Lib.bitLenAux 64 t < blen t := fun h => by have := h3.1 h; omega
  omega
theorem blen_top {v t i : Nat} (ht : t ≠ 0) (hv : v < 4294967296 ^ i) : blen (v + 4294967296 ^ i * t) = 32 * i + blen t := by
  have hp : 4294967296 ^ i = 2 ^ (32 * i) := by rw [Nat.pow_mul]
  rw [hp] at hv ⊢
  have h1 := fun k => blen_lt (v + 2 ^ (32 * i) * t) k
  have h2 := fun k => blen_lt t k
  have hb : 0 < blen t := (h2 0).2 (by simp; omega)
  have key : ∀ k, 2 ^ (32 * i + k) ≤ v + 2 ^ (32 * i) * t ↔ 2 ^ k ≤ t := by
    intro k
    rw [Nat.pow_add]
    constructor
    · intro h
      by_cases hc : 2 ^ k ≤ t
      · exact hc
      · have : 2 ^ (32 * i) * (t + 1) ≤ 2 ^ (32 * i) * 2 ^ k := Nat.mul_le_mul_left _ (by omega)
        rw [Nat.mul_add, Nat.mul_one] at this
        omega
    · intro h
      exact Nat.le_trans (Nat.mul_le_mul_left _ h) (by omega)
  have a := (h1 (32 * i + (blen t - 1))).2 ((key _).2 ((h2 _).1 (by omega)))
  have b : ¬ 32 * i + blen t < blen (v + 2 ^ (32 * i) * t) := fun h => by
    have := (h2 _).2 ((key _).1 ((h1 _).1 h))
    omega
  omega
theorem nat_bits {n : Nat} (hl : (lim n).length ≤ 1000000) : Ev (fun k => nat_Bits.f k (lim n)) ((blen n : Nat) : Int) := by
  unfold nat_Bits.f
  refine Ev.succ ?_
  by_cases h0 : n = 0
  · subst h0
    have hw : wrap64 (((lim 0).length : Int) - 1) = -1 := by rw [lim_zero]; exact wrap64_ok (by decide) (by decide)
    have c0 : ¬ ((-1 : Int) ≥ 0) := by decide
    have c1 : ((-1 : Int) < 0) := by decide
    simp only [hw, nat_Bits.l0, c0, c1, if_true, if_false]
    exact Ev.now _
  · have hn : (lim n).length ≠ 0 := fun h => h0 ((lim_len_zero n).1 h)
    have hw := wrap64_pred (lim n).length (by omega)
    have hlast := lim_last hn
    have c0 : ((lim n).length : Int) - 1 ≥ 0 := by omega
    have c1 : ((lim n).length : Int) - 1 < ((lim n).length : Int) := by omega
    have c2 : ¬ ((lim n).length : Int) - 1 < 0 := by omega
    have hrd := (lim_ok n).rd (((lim n).length : Int) - 1)
    simp only [hw, nat_Bits.l0, c0, c1, c2, hlast, if_true, if_false]
    have hsplit := last_split hn
    have hval := congrArg val hsplit
    rw [val_lim, val_snoc, List.length_take] at hval
    have hlt := val_lt ((lim_ok n).take ((lim n).length - 1))
    rw [List.length_take] at hlt
    generalize rd (lim n) (((lim n).length : Int) - 1) = x at *
    generalize val ((lim n).take ((lim n).length - 1)) = v at *
    generalize hL : (lim n).length = L at *
    rw [show min (L - 1) L = L - 1 by omega] at hval hlt
    have hb := blen_top (t := x.toNat) (by omega) hlt
    rw [← hval] at hb
    have hx := bitLen_blen (t := x.toNat) (by omega) (by omega)
    have hx32 : blen x.toNat ≤ 32 := by
      have := blen_lt x.toNat 32
      omega
    have e1 : wrap64 (32 * ((L : Int) - 1)) = 32 * ((L : Int) - 1) := wrap64_ok (by omega) (by omega)
    have e2 : wrap64 (32 * ((L : Int) - 1) + ((blen x.toNat : Nat) : Int)) = ((blen n : Nat) : Int) := by rw [wrap64_ok (by omega) (by omega)]; omega
    have hbl : bits_Len32.f x = some ((blen x.toNat : Nat) : Int) := by
      unfold bits_Len32.f
      rw [if_pos ⟨by omega, by omega⟩, hx]
    simp only [hbl, Option.bind_some, e1, e2]
    exact Ev.now _
/-- A whole number is told. -/
theorem num_int_good {g : Bool} {n : Nat} {E : Int} (h : GoodNum g n E) (h0 : 0 ≤ E) (h1 : E ≤ 400) :
    Ev (fun k => num_Int.f k g (lim n) E) (if blen (n * 10 ^ E.toNat) > 400 then (false, [], false) else (g, lim (n * 10 ^ E.toNat), true)) := by
  have o1 := num_of_eq (lim_ok n) (by have := h.limbs; omega) g E
  rw [of_good h] at o1
  refine Ev.congr (fun k => rfl) (Ev.bind o1 ?_)
  have c0 : ¬ E < 0 := by omega
  have c1 : ¬ E > 400 := by omega
  simp only [c0, if_false, c1, decide_false]
  refine Ev.succ ?_
  simp only [num_Int.j0, Bool.false_eq_true, if_false]
  have hE : E = (E.toNat : Int) := by omega
  have hp := nat_pow (e := E.toNat) (by omega)
  rw [← hE] at hp
  have hl := pow_len (s := E.toNat) (by omega)
  have hm := nat_mul (lim_ok n) (lim_ok (10 ^ E.toNat)) (by have := h.limbs; omega) (by omega)
  rw [val_lim, val_lim] at hm
  have hlen : (lim (n * 10 ^ E.toNat)).length ≤ 90 + 400 := prod_len h.limbs (by omega)
  have hb := nat_bits (n := n * 10 ^ E.toNat) (by omega)
  refine Ev.bind hp (Ev.bind hm (Ev.bind hb ?_))
  by_cases hc : blen (n * 10 ^ E.toNat) > 400
  · have c2 : ((blen (n * 10 ^ E.toNat) : Nat) : Int) > 400 := by omega
    simp only [c2, hc, if_true]
    exact Ev.now _
  · have c2 : ¬ ((blen (n * 10 ^ E.toNat) : Nat) : Int) > 400 := by omega
    simp only [c2, hc, if_false]
    exact Ev.now _
/-- A whole number of Go's. -/
theorem num_of_int {v : Int} (h0 : -9223372036854775808 ≤ v) (h1 : v ≤ 9223372036854775807) :
    ∃ (n z : Nat), n * 10 ^ z = v.natAbs ∧ z ≤ 64 ∧ GoodNum (decide (v < 0)) n (z : Int) ∧ Ev (fun k => num_Of.f k v) (decide (v < 0), lim n, (z : Int)) := by
  have hu : v.natAbs < 4294967296 ^ 2 := by omega
  have hval : ∀ x : Int, 0 ≤ x → x.toNat = v.natAbs → Ok [x % 4294967296, x / 4294967296 % 4294967296] ∧ val [x % 4294967296, x / 4294967296 % 4294967296] = v.natAbs := by
    intro x x0 hx
    refine ⟨Ok.cons (by omega) (by omega) (ok_one (by omega) (by omega)), ?_⟩
    simp only [val]
    omega
  have hof : Ev (fun k => num_Of.f k v) ((makeS (decide (v < 0)) v.natAbs 0).1, (makeS (decide (v < 0)) v.natAbs 0).2.1, (makeS (decide (v < 0)) v.natAbs 0).2.2.1) := by
    unfold num_Of.f
    by_cases hv : v < 0
    · have hx : IntKind.u64.wrap (-(IntKind.u64.wrap v)) = ((v.natAbs : Nat) : Int) := by rw [x_u64, x_u64]; omega
      simp only [hv, if_true, hx, decide_true]
      obtain ⟨a, b⟩ := hval ((v.natAbs : Nat) : Int) (by omega) (by omega)
      have hm := num_make a (by simp) true 0 (by decide) (by decide)
      rw [b] at hm
      exact Ev.bind hm (Ev.now _)
    · have hx : IntKind.u64.wrap v = ((v.natAbs : Nat) : Int) := by rw [x_u64]; omega
      simp only [hv, if_false, hx, decide_false]
      obtain ⟨a, b⟩ := hval ((v.natAbs : Nat) : Int) (by omega) (by omega)
      have hm := num_make a (by simp) false 0 (by decide) (by decide)
      rw [b] at hm
      exact Ev.bind hm (Ev.now _)
  by_cases hz : v.natAbs = 0
  · obtain rfl : v = 0 := by omega
    refine ⟨0, 0, rfl, by decide, ?_, ?_⟩
    · exact zeroGood
    · have : makeS (decide ((0 : Int) < 0)) (Int.natAbs 0) 0 = (false, [], 0, true) := make_zero _ 0
      rw [this] at hof
      rw [lim_zero]
      exact hof
  · have hzb := tz_limbs hu
    have hzv := tz_val v.natAbs
    have hzm := tz_mod hz
    have hzl := tz_le v.natAbs
    have hlim : (lim (tz v.natAbs).1).length ≤ 2 := lim_len_le (Nat.lt_of_le_of_lt hzl hu)
    have hg : GoodNum (decide (v < 0)) (tz v.natAbs).1 (((tz v.natAbs).2 : Nat) : Int) := ⟨fun h => by rw [h] at hzm; exact (hzm rfl).elim, fun _ => hzm, by omega, by omega, by omega⟩
    refine ⟨_, _, hzv, by omega, hg, ?_⟩
    have hmk : makeS (decide (v < 0)) v.natAbs 0 = (decide (v < 0), lim (tz v.natAbs).1, (((tz v.natAbs).2 : Nat) : Int), true) := by
      unfold makeS
      rw [if_neg (fun h => by rw [h] at hzm; exact (hzm rfl).elim), if_neg (by omega), if_neg (by omega), if_neg (by omega), Int.zero_add]
    rw [hmk] at hof
    exact hof
def p1200 : Nat := 1200
def scale : Nat := 10 ^ p1200
theorem V_int {v : Int} {n z : Nat} (h : n * 10 ^ z = v.natAbs) : V (decide (v < 0)) n (z : Int) = v * ((scale : Nat) : Int) := by
  have hm : mag n (z : Int) = v.natAbs * scale := by
    unfold mag
    rw [show ((z : Int) + 1200).toNat = z + p1200 by unfold p1200; omega, Nat.pow_add, ← Nat.mul_assoc, h]
    rfl
  unfold V
  rw [hm]
  generalize scale = c
  by_cases hv : v < 0
  · rw [decide_eq_true hv, if_pos rfl, Int.natCast_mul, show ((v.natAbs : Nat) : Int) = -v by omega]
    rw [Int.neg_mul, Int.neg_neg]
  · rw [decide_eq_false hv, if_neg (by decide), Int.natCast_mul, show ((v.natAbs : Nat) : Int) = v by omega]
theorem cmp3_scale (x y : Int) {c : Nat} (hc : 0 < c) : cmp3 (x * (c : Int)) (y * (c : Int)) = cmp3 x y := by
  have h : (0 : Int) < (c : Int) := by omega
  unfold cmp3
  simp only [Int.mul_lt_mul_right h]
theorem scale_inj (x y : Int) {c : Nat} (hc : 0 < c) : x * (c : Int) = y * (c : Int) ↔ x = y := by
  have h : (c : Int) ≠ 0 := by omega
  exact ⟨fun e => Int.eq_of_mul_eq_mul_right h e, fun e => by rw [e]⟩
/-- The limbs from the top on. -/
theorem ints_loop (x0 x1 : Int) (x7 : Bool) (l : List Int) (x9 : Bool) (a : Bool) (la : List Int) (ea : Int) (b : Bool) (lb : List Int) (eb : Int) (hl : Ok l) (h2 : l.length ≤ 2) (r : Bool)
    (hr : Ev (fun k => erratumlaw02_NumInts.j1 k x0 x1 x7 l x9 ((val l : Nat) : Int) (IntKind.u64.wrap (if x0 < 0 then -(IntKind.u64.wrap x0) else x0)) a la ea b lb eb) r) :
    Ev (fun k => erratumlaw02_NumInts.l0 k x0 x1 x7 l x9 0 (wrap64 ((l.length : Int) - 1)) a la ea b lb eb) r := by
  have hend : ∀ c : Int, c < 0 → Ev (fun k => erratumlaw02_NumInts.l0 k x0 x1 x7 l x9 ((val l : Nat) : Int) c a la ea b lb eb) r := by
    intro c hc
    refine Ev.succ ?_
    have c0 : ¬ c ≥ 0 := by omega
    simp only [erratumlaw02_NumInts.l0, c0, if_false]
    by_cases hx : x0 < 0
    · simp only [hx, if_true] at hr ⊢
      exact hr
    · simp only [hx, if_false] at hr ⊢
      exact hr
  have w0 : wrap64 (1 - 1) = 0 := wrap64_ok (by decide) (by decide)
  have w1 : wrap64 (0 - 1) = -1 := wrap64_ok (by decide) (by decide)
  have w2 : wrap64 (2 - 1) = 1 := wrap64_ok (by decide) (by decide)
  rcases l with _ | ⟨x, _ | ⟨y, _ | ⟨z, l⟩⟩⟩
  · have : wrap64 ((([] : List Int).length : Int) - 1) = -1 := w1
    rw [this]
    exact hend (-1) (by decide)
  · have : wrap64 ((([x] : List Int).length : Int) - 1) = 0 := w0
    rw [this]
    have hx := hl.head
    have hu : IntKind.u64.wrap (IntKind.u64.wrap (0 * 4294967296) + IntKind.u64.wrap (rd [x] 0)) = ((val [x] : Nat) : Int) := by
      rw [x_u64, x_u64, x_u64, show rd [x] 0 = x from rfl]
      simp only [val]
      omega
    refine Ev.step (f := fun k => erratumlaw02_NumInts.l0 k x0 x1 x7 [x] x9 ((val [x] : Nat) : Int) (-1) a la ea b lb eb) (fun k => ?_) (hend (-1) (by decide))
    have c0 : (0 : Int) ≥ 0 := by decide
    have c1 : (0 : Int) < (([x] : List Int).length : Int) := by simp
    simp only [erratumlaw02_NumInts.l0, c0, c1, if_true, hu, w1]
  · have : wrap64 ((([x, y] : List Int).length : Int) - 1) = 1 := w2
    rw [this]
    have hx := hl.head
    have hy := hl.tail.head
    have hu : IntKind.u64.wrap (IntKind.u64.wrap (0 * 4294967296) + IntKind.u64.wrap (rd [x, y] 1)) = y := by
      rw [x_u64, x_u64, x_u64, show rd [x, y] 1 = y from rfl]
      omega
    have hu2 : IntKind.u64.wrap (IntKind.u64.wrap (y * 4294967296) + IntKind.u64.wrap (rd [x, y] 0)) = ((val [x, y] : Nat) : Int) := by
      rw [x_u64, x_u64, x_u64, show rd [x, y] 0 = x from rfl]
      simp only [val]
      omega
    have c0 : (1 : Int) ≥ 0 := by decide
    have c1 : (1 : Int) < (([x, y] : List Int).length : Int) := by simp
    have d0 : (0 : Int) ≥ 0 := by decide
    have d1 : (0 : Int) < (([x, y] : List Int).length : Int) := by simp
    refine Ev.step (f := fun k => erratumlaw02_NumInts.l0 k x0 x1 x7 [x, y] x9 y 0 a la ea b lb eb) (fun k => ?_) ?_
    · simp only [erratumlaw02_NumInts.l0, c0, c1, if_true, hu, w0]
    · refine Ev.step (f := fun k => erratumlaw02_NumInts.l0 k x0 x1 x7 [x, y] x9 ((val [x, y] : Nat) : Int) (-1) a la ea b lb eb) (fun k => ?_) (hend (-1) (by decide))
      simp only [erratumlaw02_NumInts.l0, d0, d1, if_true, hu2, w1]
  · simp at h2
/-- THE LAW OF WHOLE NUMBERS. -/
theorem numInts_true (v w : Int) (v0 : -9223372036854775808 ≤ v) (v1 : v ≤ 9223372036854775807) (w0 : -9223372036854775808 ≤ w) (w1 : w ≤ 9223372036854775807) : Ev (fun k => erratumlaw02_NumInts.f k v w) true := by
  obtain ⟨n, z, hn, hz, gn, ev⟩ := num_of_int v0 v1
  obtain ⟨m, y, hm, hy, gm, ew⟩ := num_of_int w0 w1
  have hc := num_cmp_good gn gm
  have hs := num_same_good gn gm
  have hp : 0 < scale := Nat.pow_pos (by decide)
  rw [V_int hn, V_int hm, cmp3_scale _ _ hp] at hc
  rw [V_int hn, V_int hm] at hs
  rw [show decide (v * ((scale : Nat) : Int) = w * ((scale : Nat) : Int)) = (v == w) from by rw [Bool.eq_iff_iff, decide_eq_true_eq, scale_inj _ _ hp]; simp] at hs
  have hck := num_check (lim_ok n) (by have := gn.limbs; omega) (decide (v < 0)) (z : Int)
  rw [good_check gn] at hck
  have hi := num_int_good gn (by omega) (by omega)
  rw [show ((z : Int)).toNat = z by omega, hn] at hi
  have hbl : ¬ blen v.natAbs > 400 := by
    have := blen_lt v.natAbs 64
    have h64 : v.natAbs < 2 ^ 64 := by omega
    omega
  rw [if_neg hbl] at hi
  have hl2 : (lim v.natAbs).length ≤ 2 := lim_len_le (by omega)
  clear hp
  refine Ev.congr (fun k => rfl) (Ev.bind ev (Ev.bind ew (Ev.bind hi ?_)))
  refine ints_loop _ _ _ _ _ _ _ _ _ _ _ (lim_ok _) hl2 true ?_
  rw [val_lim]
  have hu : IntKind.u64.wrap (if v < 0 then -(IntKind.u64.wrap v) else v) = ((v.natAbs : Nat) : Int) := by
    by_cases hv : v < 0
    · rw [if_pos hv, x_u64, x_u64]; omega
    · rw [if_neg hv, x_u64]; omega
  rw [hu]
  have hfin : Ev (fun k => erratumlaw02_NumInts.j3 k v w (decide (v < 0)) (lim v.natAbs) true ((v.natAbs : Nat) : Int) ((v.natAbs : Nat) : Int) (cmp3 v w) (decide (v < 0)) (lim n) (z : Int) (decide (w < 0)) (lim m) (y : Int)) true := by
    refine Ev.succ ?_
    have c0 : (decide (v < 0) == decide (v < 0)) = true := by simp
    have c1 : ((lim v.natAbs).length : Int) ≤ 2 := by omega
    simp only [erratumlaw02_NumInts.j3, c0, c1, if_true]
    refine Ev.bind hc ?_
    simp only [if_true]
    refine Ev.bind hs ?_
    have c2 : ((v == w) == (v == w)) = true := by simp
    simp only [c2, if_true]
    refine Ev.bind hck ?_
    simp only [if_true]
    exact Ev.bind awake_true (Ev.now _)
  refine Ev.succ ?_
  by_cases h1 : v < w
  · simp only [erratumlaw02_NumInts.j1, h1, if_true]
    refine Ev.succ ?_
    have h2 : ¬ v > w := by omega
    simp only [erratumlaw02_NumInts.j2, h2, if_false]
    rw [show cmp3 v w = -1 from if_pos h1] at hfin
    exact hfin
  · simp only [erratumlaw02_NumInts.j1, h1, if_false]
    refine Ev.succ ?_
    by_cases h2 : v > w
    · simp only [erratumlaw02_NumInts.j2, h2, if_true]
      rw [show cmp3 v w = 1 by unfold cmp3; rw [if_neg h1, if_pos h2]] at hfin
      exact hfin
    · simp only [erratumlaw02_NumInts.j2, h2, if_false]
      rw [show cmp3 v w = 0 by unfold cmp3; rw [if_neg h1, if_neg h2]] at hfin
      exact hfin
end Go.Proofs.YtmkdcokdilllcaaDoor.X
/- The row and the card of NumInts. -/
namespace Go.Proofs.YtmkdcokdilllcaaDoor.X
open Go.ChangeShapes Go.WideShapes Go.ChangeAt Go.RowKit
set_option maxRecDepth 100000 in
theorem contractNumInts (H : Type) (enc : TypeId × Value → H) (W : World) (base : Nat) (args : Array Value) (ds gs : List (DataW H)) (before : List MemPlace)
    (hval : ∀ (j : Nat) t v, Tryd.f8.params[j]? = some t → args[j]? = some v → Value.okWide Tryd.prog W .any base t v)
    (hW : DataW.Whole enc Tryd.prog Tryd.f8.params.toList Rows.numIntsSpec.vars false W args.toList ds gs before) (hL : laidMetH Tryd.prog Rows.numIntsRow.laid W) :
    Calls Tryd.prog 8 args W fun e W' => ∃ v, e = .returned v ∧ Rows.numIntsSpec.post enc Tryd.prog Tryd.f8 false true false false W args v W' := by
  have hW' := hW
  obtain ⟨p, q, hA0, hV, rfl, hfz, hnd⟩ := hW
  have hA : DataW.TrodAll enc Tryd.prog W 0 (fun _ => true) true Tryd.f8.params.toList args.toList ds p := hA0
  rw [Tryd.params8] at hA hval
  obtain ⟨v0, vs0, d0, ds0, p0, q0, hargs, rfl, rfl, h0, r0⟩ := trodAll_cons hA
  obtain ⟨v1, vs1, d1, ds1, p1, q1, rfl, rfl, rfl, h1, r1⟩ := trodAll_cons r0
  obtain ⟨rfl, rfl, rfl⟩ := trodAll_nil r1
  obtain rfl : args = #[v0, v1] := by cases args; simp_all
  obtain ⟨rfl, rfl⟩ := trodVars_none hV
  obtain ⟨a0, rfl, rfl, rfl, w0⟩ := open_int Tryd.underlying3 (hval 0 3 v0 rfl rfl) h0
  have b0 := int_bounds w0
  obtain ⟨a1, rfl, rfl, rfl, w1⟩ := open_int Tryd.underlying3 (hval 1 3 v1 rfl rfl) h1
  have b1 := int_bounds w1
  clear hA0
  obtain ⟨k, hk⟩ := (numInts_true a0 a1 b0.1 b0.2 b1.1 b1.2).rounds
  refine (erratumlaw02_NumInts.calls k a0 a1 true W (laid_of (show laidMetH Tryd.prog Rows.numTextsRow.laid W from hL)) hk).mono fun e W' ⟨he, bel⟩ => ?_
  subst he
  exact ⟨_, rfl, _, _, _, [], _, [], hW', trodAll_mk1 (shut_bool Tryd.underlying4 _), (trodAll_cons_mk (shut_int Tryd.underlying3 w0) (trodAll_cons_mk (shut_int Tryd.underlying3 w1) trodAll_mk0)), rfl, bel.frame _, fun h => by cases h⟩
theorem readsNumInts (os : Os) {H : Type} (enc : TypeId × Value → H) : ∃ places, DataW.whole enc Tryd.prog ((laidWorld os).forCall (fun _ _ => 0) ⟨#[], #[.int .i64 0, .int .i64 0], []⟩).memory Tryd.f8.params.toList Rows.numIntsSpec.vars false #[Value.int .i64 0, Value.int .i64 0].toList 8 = some ([.lit (.int .i64 0), .lit (.int .i64 0)], [], places) :=
  ⟨[], by kernel_rfl⟩
set_option maxRecDepth 100000 in
theorem metNumInts (os : Os) : laidMet Tryd.prog Rows.numIntsRow.laid ((laidWorld os).forCall (fun _ _ => 0) ⟨#[], #[.int .i64 0, .int .i64 0], []⟩).memory :=
  laidMet_of_run' 8 (by kernel_rfl) (by kernel_rfl)
set_option maxRecDepth 100000 in
theorem liftedNumInts (os : Os) (started : os.Started) (H : Type) (enc : TypeId × Value → H) (F : Stop.Interp) :
    ReturnsInHanded {} Tryd.checked os 8 .any ((OpenSpec.ofChange Rows.numIntsSpec).preRow enc Tryd.prog Tryd.f8 Rows.numIntsRow.domain false Rows.numIntsRow.laid) (((OpenSpec.ofChange Rows.numIntsSpec).at F).post enc Tryd.prog Tryd.f8 false true false false) := by
  obtain ⟨places, hx⟩ := readsNumInts os enc
  refine returnsInHanded_of_row (C := Tryd.checked) (s := OpenSpec.ofChange Rows.numIntsSpec) own started (by kernel_rfl) Tryd.func8
    (witness_row_at (enc := enc) (C := Tryd.checked) false (laidWorld os) #[.int .i64 0, .int .i64 0] rfl (by kernel_rfl) (by kernel_rfl) (by kernel_rfl)
      (OpenSpec.preRow_of_cond 8 hx (by kernel_rfl) (fun k hk => by cases hk) (by kernel_rfl) (metNumInts os))) ?_
  intro W base args ds gs before hval hW _ _ _ hL _ _
  exact contractNumInts H enc W base args ds gs before hval hW hL
theorem saidNumInts : Rows.NumIntsSaid :=
  OpenClaim.holds_of_cond 8 Tryd.f8 rfl rfl rfl rfl rfl rfl rfl ⟨rfl, rfl, rfl, rfl, rfl⟩ rfl rfl rfl rfl rfl (by kernel_rfl) Tryd.func8 (by kernel_rfl)
    (of_decide_eq_true (by kernel_rfl)) (by unfold Func.isWrapper; first | (rw [if_pos (by decide +kernel)]; kernel_rfl) | (rw [if_neg (by decide +kernel)]; exact ⟨rfl, rfl⟩))
    (fun os started H enc _ F => by rw [OpenClaim.pre_eq_preRow]; exact liftedNumInts os started H enc F)
theorem plainNumInts (f : FuncId) (fn : Func) (hf : Tryd.pinned.checked.prog.funcNamed "erratum/erratumlaw02.NumInts" = some f) (hfn : Tryd.pinned.checked.prog.funcs[f]? = some fn) :
    true = Tryd.pinned.checked.prog.looks [] ∧ ∀ (j : Nat) t, fn.params[j]? = some t → Tryd.pinned.checked.prog.wantsStandIn t = false := by
  obtain rfl : f = 8 := Option.some.inj ((show Tryd.prog.funcNamed "erratum/erratumlaw02.NumInts" = some 8 by kernel_rfl).symm.trans hf) |>.symm
  obtain rfl : fn = Tryd.f8 := (Option.some.inj (Tryd.func8.symm.trans hfn)).symm
  refine ⟨by kernel_rfl, fun j t ht => ?_⟩
  rw [Tryd.params8] at ht
  obtain rfl : t = 3 := by simpa using Array.mem_of_getElem? ht
  exact (show Tryd.prog.wantsStandIn 3 = false by kernel_rfl)
theorem cardNumInts : Rows.NumIntsCardSaid :=
  Claim7.holds_tied_plain_at .later [] _ _ _ _ saidNumInts (fun _ h => by cases h) (by kernel_rfl) (fun _ h => by cases h) numInts_row_tie rfl ⟨rfl, rfl⟩ (by kernel_rfl) rfl plainNumInts (by kernel_rfl)
end Go.Proofs.YtmkdcokdilllcaaDoor.X
