import Derived.Test.YtondpnipoogoiaaGreatDoorA8
set_option maxRecDepth 100000
set_option linter.unusedVariables false
set_option linter.unusedSimpArgs false
namespace Go.Proofs.YtondpnipoogoiaaGreatDoor.F
open Go Go.RowKit Go.Proofs.Tryz
def letB (b : Int) : Bool := (decide (b ≥ 97) && decide (b ≤ 122)) || ((decide (b ≥ 65) && decide (b ≤ 90)) || b == 95)
def byOk (s : ByteArray) (i : Nat) : Bool := letB (byteAt s (i : Int)) || (!((i : Int) == 0) && (!decide (byteAt s (i : Int) < 48) && !decide (byteAt s (i : Int) > 57)))
theorem byteAt_in (s : ByteArray) (n : Int) : 0 ≤ byteAt s n ∧ byteAt s n < 256 := by
 unfold byteAt
 cases s.data[n.toNat]? with
 | none => decide
 | some b => have := b.toNat_lt; simp; omega
theorem let_or (b : Int) (h : 0 ≤ b ∧ b < 256) : ((decide (bitsOr .u8 b 32 ≥ 97) && decide (bitsOr .u8 b 32 ≤ 122)) || b == 95) = letB b := by
 obtain ⟨n, rfl⟩ : ∃ n : Nat, b = n := ⟨b.toNat, by omega⟩
 have hn : n < 256 := by omega
 clear h
 revert hn; revert n
 decide +kernel
theorem byOk_eq (s : ByteArray) (i : Nat) : nameOk s i = byOk s i := by
 unfold nameOk byOk
 rw [let_or _ (byteAt_in s i)]
theorem con38 (s : ByteArray) (hs0 : s.size < 4294967281) : Con Tryz.prog I0 38 [vs s] (.val (vb (nameF s))) := by
 refine con_of Tryz.func38 rfl (Nat.le_of_ble_eq_true rfl) stab (fun w0 fz a hI hs => ?_)
 refine wp_seq ?_
 refine wN hs hI [] [0] [] (True ∧ True) .norm [(0, vs s)] [] (by kernel_rfl) ⟨tv, tv⟩ (fun a w hs => ?_)
 refine then_norm ?_
 refine wp_seq ?_
 refine wp_seq ?_
 refine wN hs hI [] [0, 3] [] (True ∧ True) .norm [(0, vs s), (3, vi 0)] [] (by kernel_rfl) ⟨tv, tv⟩ (fun a w hs => ?_)
 refine then_norm ?_
 refine wp_block ?_
 refine loop_L (N := Tryz.f38.ntmps) (w0 := w0) (ow := noO fz) (α := Nat) (fun p => [(0, vs s), (3, vi (p : Int))]) (fun p => []) (fun p => p ≤ s.size ∧ ∀ j, j < p → nameOk s j = true) (fun p => s.size - p) 0 ?_ ?_ ?_
 ·exact ⟨Nat.zero_le _, fun j hj => absurd hj (Nat.not_lt_zero _)⟩
 ·(have e0_ : (0) = (((0 : Nat) : Int)) := (by first | rfl | (rfl)); exact (hs.cst [(0, vs s), (3, vi ((0 : Nat) : Int))] [] (by first | rfl | (rw [e0_]; done) | (simp only [e0_]; done) | (simp only [e0_]; rfl))).rm [] (by kernel_rfl))
 rintro i hJ a w hs
 obtain ⟨hi, hall⟩ := hJ
 refine wp_seq ?_
 rcases bt (decide ((i : Int) < (s.size : Int))) with b1 | b1
 ·skip
  have n1 := of_decide_eq_true b1
  refine wN hs hI [true] [0, 3] [] ((tr 4 True) ∧ ((ty b1) ∧ True)) .norm [(0, vs s), (3, vi (i : Int))] [] (by kernel_rfl) ⟨tr_mk tv 4, b1, tv⟩ (fun a w hs => ?_)
  refine then_norm ?_
  refine wp_seq ?_
  refine wp_block ?_
  refine wp_seq ?_
  refine wN hs hI [] [0, 3, 4] [] (True ∧ (True ∧ (0 ≤ (i : Int) ∧ (i : Int) < s.size) ∧ True ∧ True)) .norm [(0, vs s), (3, vi (i : Int)), (4, .lit (.int .u8 (byteAt s (i : Int))))] [] (by kernel_rfl) ⟨tv, tv, (by omega), tv, tv⟩ (fun a w hs => ?_)
  refine then_norm ?_
  refine wp_cut (N := Tryz.f38.ntmps) (w0 := w0) (ow := noO fz) (T := [(0, vs s), (3, vi (i : Int)), (4, .lit (.int .u8 (byteAt s (i : Int)))), (5, vb (letB (byteAt s (i : Int))))]) (B := []) (True) ?_ ?_
  ·skip
   rcases bt (decide ((byteAt s (i : Int)) ≥ 97)) with b2 | b2
   ·skip
    have n2 := of_decide_eq_true b2
    rcases bt (decide ((byteAt s (i : Int)) ≤ 122)) with b3 | b3
    ·skip
     have n3 := of_decide_eq_true b3
     refine wL hs hI [(5, ⟨[], gg [3, 4, 1005, 1013, 1017] [7, 8, 9, 12, 15, 16], []⟩)] [] [0, 3, 4, 5] [] (tr 3 (rp 3 b2 ((ty b3) ∧ (ty b3) ∧ (ty b3) ∧ True ∧ True ∧ (ty b3) ∧ (ty b3) ∧ True ∧ (true = true) ∧ (true = true) ∧ (true = true) ∧ True ∧ True))) .norm [(0, vs s), (3, vi (i : Int)), (4, .lit (.int .u8 (byteAt s (i : Int)))), (5, vb true)] [] ⟨tv, tv⟩ (by kernel_rfl) (tr_mk (rp_mk (⟨b3, b3, b3, tv, tv, b3, b3, tv, rfl, rfl, rfl, tv, tv⟩) 3) 3) (fun a w hs => ?_)
     refine then_norm ⟨trivial, ?_⟩
     (have e0_ : (true) = (letB (byteAt s (i : Int))) := (by first | rfl | (simp only [letB, b2, b3]; rfl)); exact (hs.cst [(0, vs s), (3, vi (i : Int)), (4, .lit (.int .u8 (byteAt s (i : Int)))), (5, vb (letB (byteAt s (i : Int))))] [] (by first | rfl | (rw [e0_]; done) | (simp only [e0_]; done) | (simp only [e0_]; rfl))).rm [] (by kernel_rfl))
    ·skip
     have n3 := of_decide_eq_false b3
     rcases bt (decide ((byteAt s (i : Int)) ≥ 65)) with b4 | b4
     ·skip
      have n4 := of_decide_eq_true b4
      rcases bt (decide ((byteAt s (i : Int)) ≤ 90)) with b5 | b5
      ·skip
       have n5 := of_decide_eq_true b5
       refine wL hs hI [(5, ⟨[], gg [3, 4, 1005, 7, 8, 9, 10, 11, 12, 1012, 1017] [1013, 15, 16], []⟩)] [] [0, 3, 4, 5] [] (tr 3 (rp 3 b2 (rp 3 b3 (rp 2 b4 ((ty b3) ∧ (ty b4) ∧ (ty b3) ∧ True ∧ (ty b5) ∧ (ty b5) ∧ (ty b5) ∧ True ∧ True))))) .norm [(0, vs s), (3, vi (i : Int)), (4, .lit (.int .u8 (byteAt s (i : Int)))), (5, vb true)] [] ⟨tv, tv⟩ (by kernel_rfl) (tr_mk (rp_mk (rp_mk (rp_mk (⟨b3, b4, b3, tv, b5, b5, b5, tv, tv⟩) 2) 3) 3) 3) (fun a w hs => ?_)
       refine then_norm ⟨trivial, ?_⟩
       (have e0_ : (true) = (letB (byteAt s (i : Int))) := (by first | rfl | (simp only [letB, b2, b3, b4, b5]; rfl)); exact (hs.cst [(0, vs s), (3, vi (i : Int)), (4, .lit (.int .u8 (byteAt s (i : Int)))), (5, vb (letB (byteAt s (i : Int))))] [] (by first | rfl | (rw [e0_]; done) | (simp only [e0_]; done) | (simp only [e0_]; rfl))).rm [] (by kernel_rfl))
      ·skip
       have n5 := of_decide_eq_false b5
       refine wL hs hI [(5, ⟨[], gg [3, 4, 1005, 7, 8, 9, 10, 11, 12, 1012, 15, 16] [1013, 1017], []⟩)] [] [0, 3, 4, 5] [] (tr 3 (rp 3 b2 (rp 3 b3 (rp 2 b4 ((ty b3) ∧ (ty b4) ∧ (ty b3) ∧ True ∧ (rp 3 b5 True)))))) .norm [(0, vs s), (3, vi (i : Int)), (4, .lit (.int .u8 (byteAt s (i : Int)))), (5, vb ((byteAt s (i : Int)) == 95))] [] ⟨tv, tv⟩ (by kernel_rfl) (tr_mk (rp_mk (rp_mk (rp_mk (⟨b3, b4, b3, tv, rp_mk (tv) 3⟩) 2) 3) 3) 3) (fun a w hs => ?_)
       refine then_norm ⟨trivial, ?_⟩
       (have e0_ : ((byteAt s (i : Int)) == 95) = (letB (byteAt s (i : Int))) := (by first | rfl | (simp only [letB, b2, b3, b4, b5]; rfl)); exact (hs.cst [(0, vs s), (3, vi (i : Int)), (4, .lit (.int .u8 (byteAt s (i : Int)))), (5, vb (letB (byteAt s (i : Int))))] [] (by first | rfl | (rw [e0_]; done) | (simp only [e0_]; done) | (simp only [e0_]; rfl))).rm [] (by kernel_rfl))
     ·skip
      have n4 := of_decide_eq_false b4
      refine wL hs hI [(5, ⟨[], gg [3, 4, 1005, 7, 8, 9, 12, 15, 16] [10, 11, 1012, 1013, 1017], []⟩)] [] [0, 3, 4, 5] [] (tr 3 (rp 3 b2 (rp 3 b3 ((ty b4) ∧ (ty b4) ∧ (ty b3) ∧ (ty b4) ∧ (ty b3) ∧ True ∧ (false = false) ∧ True ∧ (false = false) ∧ True ∧ (false = false) ∧ True ∧ True)))) .norm [(0, vs s), (3, vi (i : Int)), (4, .lit (.int .u8 (byteAt s (i : Int)))), (5, vb ((byteAt s (i : Int)) == 95))] [] ⟨tv, tv⟩ (by kernel_rfl) (tr_mk (rp_mk (rp_mk (⟨b4, b4, b3, b4, b3, tv, rfl, tv, rfl, tv, rfl, tv, tv⟩) 3) 3) 3) (fun a w hs => ?_)
      refine then_norm ⟨trivial, ?_⟩
      (have e0_ : ((byteAt s (i : Int)) == 95) = (letB (byteAt s (i : Int))) := (by first | rfl | (simp only [letB, b2, b3, b4]; rfl)); exact (hs.cst [(0, vs s), (3, vi (i : Int)), (4, .lit (.int .u8 (byteAt s (i : Int)))), (5, vb (letB (byteAt s (i : Int))))] [] (by first | rfl | (rw [e0_]; done) | (simp only [e0_]; done) | (simp only [e0_]; rfl))).rm [] (by kernel_rfl))
   ·skip
    have n2 := of_decide_eq_false b2
    rcases bt (decide ((byteAt s (i : Int)) ≥ 65)) with b6 | b6
    ·skip
     have n6 := of_decide_eq_true b6
     rcases bt (decide ((byteAt s (i : Int)) ≤ 90)) with b7 | b7
     ·skip
      have n7 := of_decide_eq_true b7
      refine wL hs hI [(5, ⟨[], gg [7, 8, 9, 10, 11, 12, 1012, 1017] [3, 4, 1005, 1013, 15, 16], []⟩)] [] [0, 3, 4, 5] [] (tr 3 ((ty b2) ∧ (ty b2) ∧ (ty b2) ∧ True ∧ (false = false) ∧ True ∧ (false = false) ∧ True ∧ (false = false) ∧ True ∧ (rp 2 b6 ((false = false) ∧ (ty b6) ∧ (false = false) ∧ True ∧ (ty b7) ∧ (ty b7) ∧ (ty b7) ∧ True ∧ True)))) .norm [(0, vs s), (3, vi (i : Int)), (4, .lit (.int .u8 (byteAt s (i : Int)))), (5, vb true)] [] ⟨tv, tv⟩ (by kernel_rfl) (tr_mk (⟨b2, b2, b2, tv, rfl, tv, rfl, tv, rfl, tv, rp_mk (⟨rfl, b6, rfl, tv, b7, b7, b7, tv, tv⟩) 2⟩) 3) (fun a w hs => ?_)
      refine then_norm ⟨trivial, ?_⟩
      (have e0_ : (true) = (letB (byteAt s (i : Int))) := (by first | rfl | (simp only [letB, b2, b6, b7]; rfl)); exact (hs.cst [(0, vs s), (3, vi (i : Int)), (4, .lit (.int .u8 (byteAt s (i : Int)))), (5, vb (letB (byteAt s (i : Int))))] [] (by first | rfl | (rw [e0_]; done) | (simp only [e0_]; done) | (simp only [e0_]; rfl))).rm [] (by kernel_rfl))
     ·skip
      have n7 := of_decide_eq_false b7
      refine wL hs hI [(5, ⟨[], gg [7, 8, 9, 10, 11, 12, 1012, 15, 16] [3, 4, 1005, 1013, 1017], []⟩)] [] [0, 3, 4, 5] [] (tr 3 ((ty b2) ∧ (ty b2) ∧ (ty b2) ∧ True ∧ (false = false) ∧ True ∧ (false = false) ∧ True ∧ (false = false) ∧ True ∧ (rp 2 b6 ((false = false) ∧ (ty b6) ∧ (false = false) ∧ True ∧ (rp 3 b7 True))))) .norm [(0, vs s), (3, vi (i : Int)), (4, .lit (.int .u8 (byteAt s (i : Int)))), (5, vb ((byteAt s (i : Int)) == 95))] [] ⟨tv, tv⟩ (by kernel_rfl) (tr_mk (⟨b2, b2, b2, tv, rfl, tv, rfl, tv, rfl, tv, rp_mk (⟨rfl, b6, rfl, tv, rp_mk (tv) 3⟩) 2⟩) 3) (fun a w hs => ?_)
      refine then_norm ⟨trivial, ?_⟩
      (have e0_ : ((byteAt s (i : Int)) == 95) = (letB (byteAt s (i : Int))) := (by first | rfl | (simp only [letB, b2, b6, b7]; rfl)); exact (hs.cst [(0, vs s), (3, vi (i : Int)), (4, .lit (.int .u8 (byteAt s (i : Int)))), (5, vb (letB (byteAt s (i : Int))))] [] (by first | rfl | (rw [e0_]; done) | (simp only [e0_]; done) | (simp only [e0_]; rfl))).rm [] (by kernel_rfl))
    ·skip
     have n6 := of_decide_eq_false b6
     refine wL hs hI [(5, ⟨[], gg [7, 8, 9, 12, 15, 16] [3, 4, 1005, 10, 11, 1012, 1013, 1017], []⟩)] [] [0, 3, 4, 5] [] (tr 3 ((ty b2) ∧ (ty b2) ∧ (ty b2) ∧ True ∧ (false = false) ∧ True ∧ (false = false) ∧ True ∧ (false = false) ∧ True ∧ (ty b6) ∧ (ty b6) ∧ (false = false) ∧ (ty b6) ∧ (false = false) ∧ True ∧ (false = false) ∧ True ∧ (false = false) ∧ True ∧ (false = false) ∧ True ∧ True)) .norm [(0, vs s), (3, vi (i : Int)), (4, .lit (.int .u8 (byteAt s (i : Int)))), (5, vb ((byteAt s (i : Int)) == 95))] [] ⟨tv, tv⟩ (by kernel_rfl) (tr_mk (⟨b2, b2, b2, tv, rfl, tv, rfl, tv, rfl, tv, b6, b6, rfl, b6, rfl, tv, rfl, tv, rfl, tv, rfl, tv, tv⟩) 3) (fun a w hs => ?_)
     refine then_norm ⟨trivial, ?_⟩
     (have e0_ : ((byteAt s (i : Int)) == 95) = (letB (byteAt s (i : Int))) := (by first | rfl | (simp only [letB, b2, b6]; rfl)); exact (hs.cst [(0, vs s), (3, vi (i : Int)), (4, .lit (.int .u8 (byteAt s (i : Int)))), (5, vb (letB (byteAt s (i : Int))))] [] (by first | rfl | (rw [e0_]; done) | (simp only [e0_]; done) | (simp only [e0_]; rfl))).rm [] (by kernel_rfl))
  ·intro hF a w hs
   rcases bt (letB (byteAt s (i : Int))) with b8 | b8
   ·skip
    refine wL hs hI [(6, ⟨[], gg [] [3, 4, 5, 8, 9, 12, 1013], []⟩)] [false] [0, 3] [] ((tr 3 ((ty (ng1 b8)) ∧ (ty (ng1 b8)) ∧ (ty (ng1 b8)) ∧ True ∧ True ∧ (ty (ng1 b8)) ∧ (ty (ng1 b8)) ∧ True ∧ True ∧ (ty (ng1 b8)) ∧ (ty (ng1 b8)) ∧ True)) ∧ ((false = false) ∧ True)) .norm [(0, vs s), (3, vi (i : Int))] [] ⟨tv, tv⟩ (by kernel_rfl) ⟨tr_mk (⟨(ng1 b8), (ng1 b8), (ng1 b8), tv, tv, (ng1 b8), (ng1 b8), tv, tv, (ng1 b8), (ng1 b8), tv⟩) 3, rfl, tv⟩ (fun a w hs => ?_)
    refine inb_norm ?_
    refine then_norm ?_
    refine wN hs hI [] [0, 3] [] (True ∧ ((InR .i64 ((i : Int) + 1)) ∧ True ∧ True)) .norm [(0, vs s), (3, vi ((i : Int) + 1))] [] (by kernel_rfl) ⟨tv, (inR64 (by omega) (by omega)), tv, tv⟩ (fun a w hs => ?_)
    refine then_norm ⟨i + 1, ⟨by omega, fun j hj => by rcases Nat.lt_succ_iff_lt_or_eq.1 hj with h | rfl; exact hall j h; rw [byOk_eq]; simp only [byOk, b8]; rfl⟩, by omega, ?_⟩
    (have e0_ : ((i : Int) + 1) = ((((i + 1) : Nat) : Int)) := (by first | rfl | (omega)); exact (hs.cst [(0, vs s), (3, vi (((i + 1) : Nat) : Int))] [] (by first | rfl | (rw [e0_]; done) | (simp only [e0_]; done) | (simp only [e0_]; rfl))).rm [] (by kernel_rfl))
   ·skip
    rcases bt ((i : Int) == 0) with b9 | b9
    ·skip
     have n9 := eq_of_beq b9
     refine wL hs hI [(6, ⟨[], gg [3, 4, 5, 8, 1008, 9, 12, 1012, 1013] [6, 7, 10, 11], []⟩)] [true] [2] [] ((tr 3 (rp 3 (ng0 b8) ((ty b9) ∧ (ty b9) ∧ (ty (ng0 b8)) ∧ (ty b9) ∧ (ty (ng0 b8)) ∧ True ∧ (true = true) ∧ (true = true) ∧ (ty (ng0 b8)) ∧ (true = true) ∧ (ty (ng0 b8)) ∧ True))) ∧ ((true = true) ∧ (True ∧ True) ∧ True)) .ret [(2, vb false)] [] ⟨tv, tv⟩ (by kernel_rfl) ⟨tr_mk (rp_mk (⟨b9, b9, (ng0 b8), b9, (ng0 b8), tv, rfl, rfl, (ng0 b8), rfl, (ng0 b8), tv⟩) 3) 3, rfl, ⟨tv, tv⟩, tv⟩ (fun a w hs => ?_)
     refine inb_ret ?_
     refine then_ret ?_
     refine then_ret ?_
     refine inb_ret ?_
     refine then_ret ?_
     exact FnQ_cast (out := .val (vb false)) (by rw [nameF_no (s := s) (i := i) (by omega) (by rw [byOk_eq]; simp only [byOk, b8, b9]; rfl)]) (ret_ok [] hs ⟨by kernel_rfl, rfl⟩)
    ·skip
     have n9 := beq_eq_false_iff_ne.1 b9
     rcases bt (decide ((byteAt s (i : Int)) < 48)) with b10 | b10
     ·skip
      have n10 := of_decide_eq_true b10
      refine wL hs hI [(6, ⟨[], gg [3, 4, 5, 6, 7, 8, 9, 12, 1012, 1013] [1008, 10, 11], []⟩)] [true] [2] [] ((tr 3 (rp 3 (ng0 b8) (rp 2 b9 ((ty (ng0 b8)) ∧ (ty b9) ∧ (ty (ng0 b8)) ∧ True ∧ (ty b10) ∧ (ty b10) ∧ (ty (ng0 b8)) ∧ (ty b10) ∧ (ty (ng0 b8)) ∧ True)))) ∧ ((true = true) ∧ (True ∧ True) ∧ True)) .ret [(2, vb false)] [] ⟨tv, tv⟩ (by kernel_rfl) ⟨tr_mk (rp_mk (rp_mk (⟨(ng0 b8), b9, (ng0 b8), tv, b10, b10, (ng0 b8), b10, (ng0 b8), tv⟩) 2) 3) 3, rfl, ⟨tv, tv⟩, tv⟩ (fun a w hs => ?_)
      refine inb_ret ?_
      refine then_ret ?_
      refine then_ret ?_
      refine inb_ret ?_
      refine then_ret ?_
      exact FnQ_cast (out := .val (vb false)) (by rw [nameF_no (s := s) (i := i) (by omega) (by rw [byOk_eq]; simp only [byOk, b8, b9, b10]; rfl)]) (ret_ok [] hs ⟨by kernel_rfl, rfl⟩)
     ·skip
      have n10 := of_decide_eq_false b10
      rcases bt (decide ((byteAt s (i : Int)) > 57)) with b11 | b11
      ·skip
       have n11 := of_decide_eq_true b11
       refine wL hs hI [(6, ⟨[], gg [3, 4, 5, 6, 7, 8, 9, 10, 11, 12, 1013] [1008, 1012], []⟩)] [true] [2] [] ((tr 3 (rp 3 (ng0 b8) (rp 2 b9 ((ty (ng0 b8)) ∧ (ty b9) ∧ (ty (ng0 b8)) ∧ True ∧ (rp 2 b10 ((ty (ng0 b8)) ∧ (ty b10) ∧ (ty (ng0 b8)) ∧ True)))))) ∧ ((ty b11) ∧ (True ∧ True) ∧ True)) .ret [(2, vb false)] [] ⟨tv, tv⟩ (by kernel_rfl) ⟨tr_mk (rp_mk (rp_mk (⟨(ng0 b8), b9, (ng0 b8), tv, rp_mk (⟨(ng0 b8), b10, (ng0 b8), tv⟩) 2⟩) 2) 3) 3, b11, ⟨tv, tv⟩, tv⟩ (fun a w hs => ?_)
       refine inb_ret ?_
       refine then_ret ?_
       refine then_ret ?_
       refine inb_ret ?_
       refine then_ret ?_
       exact FnQ_cast (out := .val (vb false)) (by rw [nameF_no (s := s) (i := i) (by omega) (by rw [byOk_eq]; simp only [byOk, b8, b9, b10, b11]; rfl)]) (ret_ok [] hs ⟨by kernel_rfl, rfl⟩)
      ·skip
       have n11 := of_decide_eq_false b11
       refine wL hs hI [(6, ⟨[], gg [3, 4, 5, 6, 7, 8, 9, 10, 11, 12, 1013] [1008, 1012], []⟩)] [false] [0, 3] [] ((tr 3 (rp 3 (ng0 b8) (rp 2 b9 ((ty (ng0 b8)) ∧ (ty b9) ∧ (ty (ng0 b8)) ∧ True ∧ (rp 2 b10 ((ty (ng0 b8)) ∧ (ty b10) ∧ (ty (ng0 b8)) ∧ True)))))) ∧ ((ty b11) ∧ True)) .norm [(0, vs s), (3, vi (i : Int))] [] ⟨tv, tv⟩ (by kernel_rfl) ⟨tr_mk (rp_mk (rp_mk (⟨(ng0 b8), b9, (ng0 b8), tv, rp_mk (⟨(ng0 b8), b10, (ng0 b8), tv⟩) 2⟩) 2) 3) 3, b11, tv⟩ (fun a w hs => ?_)
       refine inb_norm ?_
       refine then_norm ?_
       refine wN hs hI [] [0, 3] [] (True ∧ ((InR .i64 ((i : Int) + 1)) ∧ True ∧ True)) .norm [(0, vs s), (3, vi ((i : Int) + 1))] [] (by kernel_rfl) ⟨tv, (inR64 (by omega) (by omega)), tv, tv⟩ (fun a w hs => ?_)
       refine then_norm ⟨i + 1, ⟨by omega, fun j hj => by rcases Nat.lt_succ_iff_lt_or_eq.1 hj with h | rfl; exact hall j h; rw [byOk_eq]; simp only [byOk, b8, b9, b10, b11]; rfl⟩, by omega, ?_⟩
       (have e0_ : ((i : Int) + 1) = ((((i + 1) : Nat) : Int)) := (by first | rfl | (omega)); exact (hs.cst [(0, vs s), (3, vi (((i + 1) : Nat) : Int))] [] (by first | rfl | (rw [e0_]; done) | (simp only [e0_]; done) | (simp only [e0_]; rfl))).rm [] (by kernel_rfl))
 ·skip
  have n1 := of_decide_eq_false b1
  refine wN hs hI [false] [0] [] ((tr 4 True) ∧ ((ty b1) ∧ True)) (.exit 0) [(0, vs s)] [] (by kernel_rfl) ⟨tr_mk tv 4, b1, tv⟩ (fun a w hs => ?_)
  refine then_exit ?_
  refine then_exit ?_
  refine inb_hit ?_
  refine then_norm ?_
  rcases bt (decide ((s.size : Int) ≥ 1)) with b12 | b12
  ·skip
   have n12 := of_decide_eq_true b12
   refine wL hs hI [(8, ⟨[], gg [4, 5, 6, 1007] [], []⟩)] [] [2] [] ((tr 4 (rp 4 b12 True)) ∧ True) .ret [(2, vb (decide ((s.size : Int) ≤ 2000)))] [] ⟨tv, tv⟩ (by kernel_rfl) ⟨tr_mk (rp_mk (tv) 4) 4, tv⟩ (fun a w hs => ?_)
   exact FnQ_cast (out := .val (vb (decide ((s.size : Int) ≤ 2000)))) (by rw [nameF_yes (s := s) (fun j hj => hall j (by omega))]; first | (rw [decide_eq_true (by omega), decide_eq_true (by omega)]; rfl) | (rw [decide_eq_false (by omega)]; rfl) | (rw [decide_eq_true (by omega), decide_eq_false (by omega)]; rfl) | (rw [decide_eq_true (show s.size ≠ 0 by omega)]; simp)) (ret_ok [] hs ⟨by kernel_rfl, rfl⟩)
  ·skip
   have n12 := of_decide_eq_false b12
   refine wL hs hI [(8, ⟨[], gg [] [4, 5, 6, 1007], []⟩)] [] [2] [] ((tr 4 ((ty b12) ∧ (ty b12) ∧ (ty b12) ∧ (ty b12) ∧ True ∧ True)) ∧ True) .ret [(2, vb false)] [] ⟨tv, tv⟩ (by kernel_rfl) ⟨tr_mk (⟨b12, b12, b12, b12, tv, tv⟩) 4, tv⟩ (fun a w hs => ?_)
   exact FnQ_cast (out := .val (vb false)) (by rw [nameF_yes (s := s) (fun j hj => hall j (by omega))]; first | (rw [decide_eq_true (by omega), decide_eq_true (by omega)]; rfl) | (rw [decide_eq_false (by omega)]; rfl) | (rw [decide_eq_true (by omega), decide_eq_false (by omega)]; rfl) | (rw [decide_eq_true (show s.size ≠ 0 by omega)]; simp)) (ret_ok [] hs ⟨by kernel_rfl, rfl⟩)
theorem bad_short {p : List ByteArray} (h : ¬ (1 ≤ p.length ∧ p.length ≤ 63)) : badPath p = true := by
 unfold badPath
 by_cases h0 : p.length = 0
 ·simp [h0]
 ·rw [decide_eq_true (show (p.length : Int) > 63 by omega)]; simp
theorem bad_name {p : List ByteArray} {j : Nat} (hj : j < p.length) (h : nameF (p.getD j (dflt .str)) = false) : badPath p = true := by
 have : (p.any fun n => !nameF n) = true := List.any_eq_true.2 ⟨_, getD_mem hj (dflt .str), by rw [h]; rfl⟩
 unfold badPath; rw [this]; simp
theorem bad_not {p : List ByteArray} (h : 1 ≤ p.length ∧ p.length ≤ 63) (hn : ∀ j, j < p.length → nameF (p.getD j (dflt .str)) = true) : badPath p = false := by
 have h2 : (p.any fun n => !nameF n) = false := by
  rw [List.any_eq_false]
  intro x hx
  obtain ⟨j, hj, rfl⟩ := List.mem_iff_getElem.1 hx
  have := hn j hj
  rw [List.getD_eq_getElem?_getD, List.getElem?_eq_getElem hj] at this
  simpa using this
 have h1 : ((p.length : Int) == 0) = false := by simp; intro e; subst e; simp at h
 unfold badPath; rw [h1, h2, decide_eq_false (by omega)]; rfl
theorem chk_no {l : List (List ByteArray)} {i : Nat} (hi : i < l.length) (h : badPath (l.getD i (dflt .strs)) = true) : checkF l = false := by
 unfold checkF
 rw [List.any_eq_true.2 ⟨_, getD_mem hi (dflt .strs), h⟩]; simp
theorem chk_yes {l : List (List ByteArray)} (h : ∀ j, j < l.length → badPath (l.getD j (dflt .strs)) = false) : checkF l = decide ((l.length : Int) ≤ 60) := by
 have h2 : l.any badPath = false := by
  rw [List.any_eq_false]
  intro x hx
  obtain ⟨j, hj, rfl⟩ := List.mem_iff_getElem.1 hx
  have := h j hj
  rw [List.getD_eq_getElem?_getD, List.getElem?_eq_getElem hj] at this
  simpa using this
 unfold checkF; rw [h2]; simp
theorem con40 (l : List (List ByteArray)) (hsm : ∀ p ∈ l, ∀ x ∈ p, x.size < 4294967281) (hll : l.length < 4294967296) (hlp : ∀ p ∈ l, p.length < 4294967296) : Con Tryz.prog I0 40 [.row .strs l] (.val (vb (checkF l))) := by
 refine con_of Tryz.func40 rfl (Nat.le_of_ble_eq_true rfl) stab (fun w0 fz a hI hs => ?_)
 refine wp_seq ?_
 refine wN hs hI [] [0] [] (True ∧ True) .norm [(0, .row .strs l)] [] (by kernel_rfl) ⟨tv, tv⟩ (fun a w hs => ?_)
 refine then_norm ?_
 refine wp_seq ?_
 refine wp_seq ?_
 refine wN hs hI [] [0, 3] [] (True ∧ True) .norm [(0, .row .strs l), (3, vi 0)] [] (by kernel_rfl) ⟨tv, tv⟩ (fun a w hs => ?_)
 refine then_norm ?_
 refine wp_block ?_
 refine loop_L (N := Tryz.f40.ntmps) (w0 := w0) (ow := noO fz) (α := Nat) (fun p => [(0, .row .strs l), (3, vi (p : Int))]) (fun p => []) (fun p => p ≤ l.length ∧ ∀ j, j < p → badPath (l.getD j (dflt .strs)) = false) (fun p => l.length - p) 0 ?_ ?_ ?_
 ·exact ⟨Nat.zero_le _, fun j hj => absurd hj (Nat.not_lt_zero _)⟩
 ·(have e0_ : (0) = (((0 : Nat) : Int)) := (by first | rfl | (rfl)); exact (hs.cst [(0, .row .strs l), (3, vi ((0 : Nat) : Int))] [] (by first | rfl | (rw [e0_]; done) | (simp only [e0_]; done) | (simp only [e0_]; rfl))).rm [] (by kernel_rfl))
 rintro i hJ a w hs
 obtain ⟨hi, hall⟩ := hJ
 refine wp_seq ?_
 rcases bt (decide ((i : Int) < (l.length : Int))) with b1 | b1
 ·skip
  have n1 := of_decide_eq_true b1
  refine wN hs hI [true] [0, 3] [] ((tr 4 True) ∧ ((ty b1) ∧ True)) .norm [(0, .row .strs l), (3, vi (i : Int))] [] (by kernel_rfl) ⟨tr_mk tv 4, b1, tv⟩ (fun a w hs => ?_)
  refine then_norm ?_
  refine wp_seq ?_
  refine wp_block ?_
  refine wp_seq ?_
  rcases bt (decide (((l.getD i (dflt .strs)).length : Int) < 1)) with b2 | b2
  ·skip
   have n2 := of_decide_eq_true b2
   refine wL hs hI [(4, ⟨[], gg [1013] [7, 8, 9, 10, 11, 12], []⟩)] [true] [2] [] ((True ∧ True ∧ (0 ≤ (i : Int) ∧ (i : Int) < l.length) ∧ (tr 4 ((ty b2) ∧ (ty b2) ∧ (ty b2) ∧ (ty b2) ∧ (ty b2) ∧ (ty b2) ∧ (ty b2) ∧ True))) ∧ ((true = true) ∧ (True ∧ True) ∧ True)) .ret [(2, vb false)] [] ⟨tv, tv⟩ (by kernel_rfl) ⟨⟨tv, tv, (by omega), tr_mk (⟨b2, b2, b2, b2, b2, b2, b2, tv⟩) 4⟩, rfl, ⟨tv, tv⟩, tv⟩ (fun a w hs => ?_)
   refine then_ret ?_
   refine inb_ret ?_
   refine then_ret ?_
   refine then_ret ?_
   refine inb_ret ?_
   refine then_ret ?_
   exact FnQ_cast (out := .val (vb false)) (by rw [chk_no (i := i) (by omega) (bad_short (by omega))]) (ret_ok [] hs ⟨by kernel_rfl, rfl⟩)
  ·skip
   have n2 := of_decide_eq_false b2
   rcases bt (decide (((l.getD i (dflt .strs)).length : Int) > 63)) with b3 | b3
   ·skip
    have n3 := of_decide_eq_true b3
    refine wL hs hI [(4, ⟨[], gg [7, 8, 9, 10, 11, 12] [1013], []⟩)] [true] [2] [] ((True ∧ True ∧ (0 ≤ (i : Int) ∧ (i : Int) < l.length) ∧ (tr 4 (rp 2 b2 ((ty b2) ∧ (0 ≤ (i : Int) ∧ (i : Int) < l.length) ∧ (rp 3 b2 ((ty b2) ∧ True)))))) ∧ ((ty b3) ∧ (True ∧ True) ∧ True)) .ret [(2, vb false)] [] ⟨tv, tv⟩ (by kernel_rfl) ⟨⟨tv, tv, (by omega), tr_mk (rp_mk (⟨b2, (by omega), rp_mk (⟨b2, tv⟩) 3⟩) 2) 4⟩, b3, ⟨tv, tv⟩, tv⟩ (fun a w hs => ?_)
    refine then_ret ?_
    refine inb_ret ?_
    refine then_ret ?_
    refine then_ret ?_
    refine inb_ret ?_
    refine then_ret ?_
    exact FnQ_cast (out := .val (vb false)) (by rw [chk_no (i := i) (by omega) (bad_short (by omega))]) (ret_ok [] hs ⟨by kernel_rfl, rfl⟩)
   ·skip
    have n3 := of_decide_eq_false b3
    refine wL hs hI [(4, ⟨[], gg [7, 8, 9, 10, 11, 12] [1013], []⟩)] [false] [0, 3] [] ((True ∧ True ∧ (0 ≤ (i : Int) ∧ (i : Int) < l.length) ∧ (tr 4 (rp 2 b2 ((ty b2) ∧ (0 ≤ (i : Int) ∧ (i : Int) < l.length) ∧ (rp 3 b2 ((ty b2) ∧ True)))))) ∧ ((ty b3) ∧ True)) .norm [(0, .row .strs l), (3, vi (i : Int))] [] ⟨tv, tv⟩ (by kernel_rfl) ⟨⟨tv, tv, (by omega), tr_mk (rp_mk (⟨b2, (by omega), rp_mk (⟨b2, tv⟩) 3⟩) 2) 4⟩, b3, tv⟩ (fun a w hs => ?_)
    refine then_norm ?_
    refine wp_seq ?_
    refine wN hs hI [] [0, 3, 4] [] (True ∧ True) .norm [(0, .row .strs l), (3, vi (i : Int)), (4, vi 0)] [] (by kernel_rfl) ⟨tv, tv⟩ (fun a w hs => ?_)
    refine then_norm ?_
    refine wp_block ?_
    refine loop_L (N := Tryz.f40.ntmps) (w0 := w0) (ow := noO fz) (α := Nat) (fun p => [(0, .row .strs l), (3, vi (i : Int)), (4, vi (p : Int))]) (fun p => []) (fun p => p ≤ (l.getD i (dflt .strs)).length ∧ ∀ j, j < p → nameF ((l.getD i (dflt .strs)).getD j (dflt .str)) = true) (fun p => (l.getD i (dflt .strs)).length - p) 0 ?_ ?_ ?_
    ·exact ⟨Nat.zero_le _, fun j hj => absurd hj (Nat.not_lt_zero _)⟩
    ·(have e0_ : (0) = (((0 : Nat) : Int)) := (by first | rfl | (rfl)); exact (hs.cst [(0, .row .strs l), (3, vi (i : Int)), (4, vi ((0 : Nat) : Int))] [] (by first | rfl | (rw [e0_]; done) | (simp only [e0_]; done) | (simp only [e0_]; rfl))).rm [] (by kernel_rfl))
    rintro k hJ a w hs
    obtain ⟨hk, hin⟩ := hJ
    rcases bt (decide ((k : Int) < ((l.getD i (dflt .strs)).length : Int))) with b4 | b4
    ·skip
     have n4 := of_decide_eq_true b4
     rcases bt (nameF ((l.getD i (dflt .strs)).getD k (dflt .str))) with b5 | b5
     ·skip
      refine wL hs hI [(9, ⟨[(7, ciA 38 [vs ((l.getD i (dflt .strs)).getD k (dflt .str))] [] [] (.val (vb (nameF ((l.getD i (dflt .strs)).getD k (dflt .str))))))], [], []⟩)] [true, false] [0, 3, 4] [] (((tr 3 ((0 ≤ (i : Int) ∧ (i : Int) < l.length) ∧ (tr 3 True))) ∧ (ty b4) ∧ True) ∧ (((True ∧ True ∧ (0 ≤ (i : Int) ∧ (i : Int) < l.length) ∧ True ∧ True ∧ (0 ≤ (k : Int) ∧ (k : Int) < (l.getD i (dflt .strs)).length) ∧ True ∧ (okArgs [vs ((l.getD i (dflt .strs)).getD k (dflt .str))]) ∧ True ∧ True) ∧ (ty (ng1 b5)) ∧ True) ∧ True ∧ (InR .i64 ((k : Int) + 1)) ∧ True ∧ True)) .norm [(0, .row .strs l), (3, vi (i : Int)), (4, vi ((k : Int) + 1))] [] ⟨⟨⟨ent38, con38 _ (by have := hsm _ (getD_mem (l := l) (i := i) (by omega) (dflt .strs)); exact this _ (getD_mem (by omega) _))⟩, tv⟩, tv⟩ (by kernel_rfl) ⟨⟨tr_mk (⟨(by omega), tr_mk tv 3⟩) 3, b4, tv⟩, ⟨⟨tv, tv, (by omega), tv, tv, (by omega), tv, rfl, tv, tv⟩, (ng1 b5), tv⟩, tv, (inR64 (by omega) (by omega)), tv, tv⟩ (fun a w hs => ?_)
      refine then_norm ⟨k + 1, ⟨by omega, fun j hj => by rcases Nat.lt_succ_iff_lt_or_eq.1 hj with h | h; exact hin j h; subst h; exact b5⟩, by omega, ?_⟩
      (have e0_ : ((k : Int) + 1) = ((((k + 1) : Nat) : Int)) := (by first | rfl | (omega)); exact (hs.cst [(0, .row .strs l), (3, vi (i : Int)), (4, vi (((k + 1) : Nat) : Int))] [] (by first | rfl | (rw [e0_]; done) | (simp only [e0_]; done) | (simp only [e0_]; rfl))).rm [] (by kernel_rfl))
     ·skip
      refine wL hs hI [(9, ⟨[(7, ciA 38 [vs ((l.getD i (dflt .strs)).getD k (dflt .str))] [] [] (.val (vb (nameF ((l.getD i (dflt .strs)).getD k (dflt .str))))))], [], []⟩)] [true, true] [2] [] (((tr 3 ((0 ≤ (i : Int) ∧ (i : Int) < l.length) ∧ (tr 3 True))) ∧ (ty b4) ∧ True) ∧ ((True ∧ True ∧ (0 ≤ (i : Int) ∧ (i : Int) < l.length) ∧ True ∧ True ∧ (0 ≤ (k : Int) ∧ (k : Int) < (l.getD i (dflt .strs)).length) ∧ True ∧ (okArgs [vs ((l.getD i (dflt .strs)).getD k (dflt .str))]) ∧ True ∧ True) ∧ (ty (ng0 b5)) ∧ (True ∧ True) ∧ True)) .ret [(2, vb false)] [] ⟨⟨⟨ent38, con38 _ (by have := hsm _ (getD_mem (l := l) (i := i) (by omega) (dflt .strs)); exact this _ (getD_mem (by omega) _))⟩, tv⟩, tv⟩ (by kernel_rfl) ⟨⟨tr_mk (⟨(by omega), tr_mk tv 3⟩) 3, b4, tv⟩, ⟨tv, tv, (by omega), tv, tv, (by omega), tv, rfl, tv, tv⟩, (ng0 b5), ⟨tv, tv⟩, tv⟩ (fun a w hs => ?_)
      refine then_ret ?_
      refine inb_ret ?_
      refine inb_ret ?_
      refine then_ret ?_
      refine then_ret ?_
      refine inb_ret ?_
      refine then_ret ?_
      exact FnQ_cast (out := .val (vb false)) (by rw [chk_no (i := i) (by omega) (bad_name (j := k) (by omega) b5)]) (ret_ok [] hs ⟨by kernel_rfl, rfl⟩)
    ·skip
     have n4 := of_decide_eq_false b4
     refine wN hs hI [false] [0, 3] [] ((tr 3 ((0 ≤ (i : Int) ∧ (i : Int) < l.length) ∧ (tr 3 True))) ∧ ((ty b4) ∧ True)) (.exit 2) [(0, .row .strs l), (3, vi (i : Int))] [] (by kernel_rfl) ⟨tr_mk (⟨(by omega), tr_mk tv 3⟩) 3, b4, tv⟩ (fun a w hs => ?_)
     refine then_exit ?_
     refine inb_hit ?_
     refine inb_norm ?_
     refine then_norm ?_
     refine wN hs hI [] [0, 3] [] (True ∧ ((InR .i64 ((i : Int) + 1)) ∧ True ∧ True)) .norm [(0, .row .strs l), (3, vi ((i : Int) + 1))] [] (by kernel_rfl) ⟨tv, (inR64 (by omega) (by omega)), tv, tv⟩ (fun a w hs => ?_)
     refine then_norm ⟨i + 1, ⟨by omega, fun j hj => by rcases Nat.lt_succ_iff_lt_or_eq.1 hj with h | h; exact hall j h; subst h; exact bad_not (by omega) (fun j hj => hin j (by omega))⟩, by omega, ?_⟩
     (have e0_ : ((i : Int) + 1) = ((((i + 1) : Nat) : Int)) := (by first | rfl | (omega)); exact (hs.cst [(0, .row .strs l), (3, vi (((i + 1) : Nat) : Int))] [] (by first | rfl | (rw [e0_]; done) | (simp only [e0_]; done) | (simp only [e0_]; rfl))).rm [] (by kernel_rfl))
 ·skip
  have n1 := of_decide_eq_false b1
  refine wN hs hI [false] [0] [] ((tr 4 True) ∧ ((ty b1) ∧ True)) (.exit 0) [(0, .row .strs l)] [] (by kernel_rfl) ⟨tr_mk tv 4, b1, tv⟩ (fun a w hs => ?_)
  refine then_exit ?_
  refine then_exit ?_
  refine inb_hit ?_
  refine then_norm ?_
  refine wN hs hI [] [2] [] ((tr 4 True) ∧ True) .ret [(2, vb (decide ((l.length : Int) ≤ 60)))] [] (by kernel_rfl) ⟨tr_mk tv 4, tv⟩ (fun a w hs => ?_)
  exact FnQ_cast (out := .val (vb (decide ((l.length : Int) ≤ 60)))) (by rw [chk_yes (fun j hj => hall j (by omega))]) (ret_ok [] hs ⟨by kernel_rfl, rfl⟩)
theorem step_keep {out : List (List ByteArray)} {p q : List ByteArray} (h : q ∈ out) : q ∈ normStep out p := by
 unfold normStep
 split
 ·split
  ·exact h
  ·exact List.mem_append_left _ h
 ·exact List.mem_append_left _ h
theorem fold_stay : ∀ (s : List (List ByteArray)) {out : List (List ByteArray)} {q : List ByteArray}, q ∈ out → q ∈ s.foldl normStep out
 | [], _, _, h => h
 | p :: s, _, _, h => fold_stay s (step_keep h)
theorem step_cover (out : List (List ByteArray)) (p : List ByteArray) : ∃ o ∈ normStep out p, startsF o p = true := by
 unfold normStep
 split
 ·rename_i h
  split
  ·rename_i h2
   exact ⟨_, getD_mem (by have := of_decide_eq_true h; omega) _, h2⟩
  ·exact ⟨p, by simp, starts_self p⟩
 ·exact ⟨p, by simp, starts_self p⟩
theorem fold_cover : ∀ (s : List (List ByteArray)) (out : List (List ByteArray)) {p : List ByteArray}, p ∈ s → ∃ o ∈ s.foldl normStep out, startsF o p = true
 | [], _, _, h => by simp at h
 | q :: s, out, p, h => by
  rcases List.mem_cons.1 h with rfl | h
  ·obtain ⟨o, h1, h2⟩ := step_cover out p
   exact ⟨o, fold_stay s h1, h2⟩
  ·exact fold_cover s _ h
theorem norm_cover {l : List (List ByteArray)} {p : List ByteArray} (h : p ∈ l) : ∃ o ∈ normF l, startsF o p = true := fold_cover _ _ (sortP_mem.2 h)
theorem starts_trans {a b c : List ByteArray} (h1 : startsF a b = true) (h2 : startsF b c = true) : startsF a c = true := starts_iff.2 ((starts_iff.1 h1).trans (starts_iff.1 h2))
theorem starts_anti {a b : List ByteArray} (h1 : startsF a b = true) (h2 : startsF b a = true) : a = b := (starts_iff.1 h1).eq_of_length_le (starts_iff.1 h2).length_le
theorem pw_mem {α : Type} {r : α → α → Prop} (hs : ∀ a b, r a b → r b a) : ∀ {l : List α}, l.Pairwise r → ∀ {x y : α}, x ∈ l → y ∈ l → x ≠ y → r x y
 | [], _, _, _, h, _, _ => by simp at h
 | a :: l, h, x, y, hx, hy, hne => by
  rw [List.pairwise_cons] at h
  rcases List.mem_cons.1 hx with rfl | hx'
  ·rcases List.mem_cons.1 hy with rfl | hy'
   ·exact absurd rfl hne
   ·exact h.1 y hy'
  ·rcases List.mem_cons.1 hy with rfl | hy'
   ·exact hs _ _ (h.1 x hx')
   ·exact pw_mem hs h.2 hx' hy' hne
theorem norm_iff {l : List (List ByteArray)} {x : List ByteArray} : x ∈ normF l ↔ x ∈ l ∧ ∀ y ∈ l, startsF y x = true → y = x := by
 constructor
 ·intro h
  refine ⟨normF_mem h, fun y hy hs => ?_⟩
  obtain ⟨o, h1, h2⟩ := norm_cover hy
  have h3 := starts_trans h2 hs
  have h4 : o = x := by
   by_cases e : o = x
   ·exact e
   ·have := pw_mem (fun a b h => Inc.symm h) (normF_inc l) h1 h e
    rw [this.no] at h3; cases h3
  subst h4
  exact starts_anti hs h2
 ·rintro ⟨h1, h2⟩
  obtain ⟨o, h3, h4⟩ := norm_cover h1
  rw [← h2 o (normF_mem h3) h4]; exact h3
theorem norm_nodup (l : List (List ByteArray)) : (normF l).Nodup := (normF_inc l).imp (fun h e => by subst e; have := h.no; rw [starts_self] at this; cases this)
def Can (t : Tree) : Prop := ∀ q, (getF q t).1.kind = 7 → objM (mems (getF q t).1) = (getF q t).1
theorem can_zero : Can Tree.zero := fun q h => by rw [getF_zero] at h; exact absurd h (by decide)
theorem can_memV {t : Tree} (h : Can t) (x : ByteArray) : Can (memV t x) := by
 cases hb : memB t x with
 | true => intro q; have := h (x :: q); rw [getF_cons, if_pos hb] at this; exact this
 | false => rw [memV_zero hb]; exact can_zero
theorem can_get {v : Tree} (h : Can v) : ∀ (p : List ByteArray), Can (getF p v).1
 | [] => h
 | x :: p => by
  rw [getF_cons]
  split
  ·exact can_get (can_memV h x) p
  ·exact can_zero
theorem can_set {t u : Tree} (h : Can t) (hu : Can u) (x : ByteArray) : Can (setT t x u) := by
 intro q
 cases q with
 | nil => intro _; show objM (mems (setT t x u)) = setT t x u; unfold setT; rw [mems_objM]
 | cons y q =>
  rw [getF_cons, memB_set, memV_set]
  by_cases he : eqT y x = true
  ·simp only [he, if_true]; exact hu q
  ·simp only [he]
   have := h (y :: q)
   rw [getF_cons] at this
   simpa using this
theorem can_unset {t : Tree} (h : Can t) (hn : ND t) (x : ByteArray) : Can (unsetT t x) := by
 intro q
 cases q with
 | nil =>
  show (unsetT t x).kind = 7 → objM (mems (unsetT t x)) = unsetT t x
  unfold unsetT
  split
  ·intro _; rw [mems_objM]
  ·exact h []
 | cons y q =>
  rw [getF_cons]
  by_cases he : eqT y x = true
  ·rw [eqT_iff] at he
   subst he
   rw [memB_look, look_unsetT_self (t := t) (hn [])]
   exact fun h => absurd (show (0 : Int) = 7 from h) (by decide)
  ·have he' : eqT y x = false := by simpa using he
   rw [memB_unset_ne he', memV_unset_ne he']
   have := h (y :: q)
   rwa [getF_cons] at this
theorem can_setP {v : Tree} (hv : Can v) : ∀ (p : List ByteArray) {t : Tree}, Can t → Can (setP p t v)
 | [], t, h => hv
 | x :: p, t, h => can_set h (can_setP hv p (can_memV h x)) x
theorem can_unsetP : ∀ (p : List ByteArray) {t : Tree}, Can t → ND t → Can (unsetP p t)
 | [], t, h, _ => h
 | [x], t, h, hn => can_unset h hn x
 | x :: m :: p, t, h, hn => by
  rw [unsetP]
  split
  ·exact can_set h (can_unsetP (m :: p) (can_memV h x) (nd_memV hn x)) x
  ·exact h
theorem can_all {v : Tree} (hv : Can v) (hn : ND v) : ∀ (s : List (List ByteArray)) {t : Tree}, Can t → ND t → Can (apAll t s v)
 | [], t, h, _ => h
 | p :: s, t, h, h2 => can_all hv hn s (t := apStep v t p) (by
  unfold apStep
  split
  ·exact can_setP (can_get hv p) p h
  ·exact can_unsetP p h h2) (nd_step hn h2 p)
theorem rep_self {x : ByteArray} : ∀ {l : Mem} {u : Tree}, lookA x l = some u → repA x u l = l
 | [], _, h => by simp [lookA] at h
 | (y, z) :: l, u, h => by
  simp only [lookA] at h
  simp only [repA]
  split at h
  ·rename_i he
   rw [if_pos he, Option.some.inj h]
  ·rename_i he
   rw [if_neg he, rep_self h]
theorem mem_kind {t : Tree} {x : ByteArray} (h : memB t x = true) : t.kind = 7 := by
 by_cases hk : t.kind = 7
 ·exact hk
 ·rw [memB_look, mems_none hk] at h; simp [lookA] at h
theorem set_self {t : Tree} (hc : Can t) {x : ByteArray} (h : memB t x = true) : setT t x (memV t x) = t := by
 have hk := mem_kind h
 rw [memB_look] at h
 obtain ⟨u, hu⟩ := Option.isSome_iff_exists.1 h
 have hv : memV t x = u := by rw [memV_look, hu]; rfl
 unfold setT insA
 rw [if_pos h, hv, rep_self hu]
 exact hc [] hk
theorem unsetP_self : ∀ {p : List ByteArray} {t : Tree}, Can t → p ≠ [] → (getF p t).2 = false → unsetP p t = t
 | [], t, _, h, _ => absurd rfl h
 | [x], t, hc, _, h => by
  rw [getF_cons] at h
  split at h
  ·cases h
  ·rename_i hb
   rw [unsetP]; unfold unsetT; rw [if_neg hb]
 | x :: m :: p, t, hc, _, h => by
  rw [unsetP]
  split
  ·rename_i hb
   rw [getF_cons, if_pos hb] at h
   rw [unsetP_self (can_memV hc x) (by simp) h, set_self hc hb]
  ·rfl
theorem less_at {xs ys : List ByteArray} {i : Nat} (hi : i < xs.length) (hj : i < ys.length) (hne : ((xs.getD i (dflt .str)).toList == (ys.getD i (dflt .str)).toList) = false) : decide (cmpS (xs.drop i) (ys.drop i) < 0) = Op.bytesLess (xs.getD i (dflt .str)).toList (ys.getD i (dflt .str)).toList := by
 have h := eqT_ne.1 (show eqT (xs.getD i (dflt .str)) (ys.getD i (dflt .str)) = false from hne)
 rw [cmpS_go hi hj, if_neg (fun e => h (cmpB_zero.1 e))]
 generalize xs.getD i (dflt .str) = x at *
 generalize ys.getD i (dflt .str) = y at *
 cases hb : Op.bytesLess x.toList y.toList with
 | true => rw [cmpB_of_lt (ltB_less.1 hb)]; rfl
 | false =>
  rcases ltB_tri x y with h1 | h1 | h1
  ·rw [ltB_less.2 h1] at hb; cases hb
  ·exact absurd h1 h
  ·rw [cmpB_of_gt h1]; rfl
theorem less_on {xs ys : List ByteArray} {i : Nat} (hi : i < xs.length) (hj : i < ys.length) (he : ((xs.getD i (dflt .str)).toList == (ys.getD i (dflt .str)).toList) = true) : cmpS (xs.drop i) (ys.drop i) = cmpS (xs.drop (i + 1)) (ys.drop (i + 1)) := by
 rw [cmpS_go hi hj, if_pos (cmpB_zero.2 (eqT_iff.1 he))]
theorem less_end {xs ys : List ByteArray} {i : Nat} (h : ¬ (i < xs.length ∧ i < ys.length)) (h1 : i ≤ xs.length) (h2 : i ≤ ys.length) : decide (cmpS (xs.drop i) (ys.drop i) < 0) = decide ((xs.length : Int) < (ys.length : Int)) := by
 by_cases a : i < xs.length
 ·rw [cmpS_gt a (fun b => h ⟨a, b⟩), decide_eq_false (show ¬ (xs.length : Int) < ys.length by omega)]; rfl
 ·by_cases b : i < ys.length
  ·rw [cmpS_lt a b, decide_eq_true (show (xs.length : Int) < ys.length by omega)]; rfl
  ·rw [cmpS_nil a b, decide_eq_false (show ¬ (xs.length : Int) < ys.length by omega)]; rfl
theorem con94 (xs ys : List ByteArray) (h : xs.length < 1000000000) : Con Tryz.prog I0 94 [.row .str xs, .row .str ys] (.val (vb (decide (cmpS xs ys < 0)))) := by
 refine con_of Tryz.func94 rfl (Nat.le_of_ble_eq_true rfl) stab (fun w0 fz a hI hs => ?_)
 refine wp_seq ?_
 refine wN hs hI [] [0, 1] [] (True ∧ True) .norm [(0, .row .str xs), (1, .row .str ys)] [] (by kernel_rfl) ⟨tv, tv⟩ (fun a w hs => ?_)
 refine then_norm ?_
 refine wp_seq ?_
 refine wp_seq ?_
 refine wN hs hI [] [0, 1, 5] [] (True ∧ True) .norm [(0, .row .str xs), (1, .row .str ys), (5, vi 0)] [] (by kernel_rfl) ⟨tv, tv⟩ (fun a w hs => ?_)
 refine then_norm ?_
 refine wp_block ?_
 refine loop_L (N := Tryz.f94.ntmps) (w0 := w0) (ow := noO fz) (α := Nat) (fun p => [(0, .row .str xs), (1, .row .str ys), (5, vi (p : Int))]) (fun p => []) (fun p => (p ≤ xs.length ∧ p ≤ ys.length) ∧ cmpS (xs.drop p) (ys.drop p) = cmpS xs ys) (fun p => xs.length - p) 0 ?_ ?_ ?_
 ·exact ⟨⟨Nat.zero_le _, Nat.zero_le _⟩, rfl⟩
 ·(have e0_ : (0) = (((0 : Nat) : Int)) := (by first | rfl | (rfl)); exact (hs.cst [(0, .row .str xs), (1, .row .str ys), (5, vi ((0 : Nat) : Int))] [] (by first | rfl | (rw [e0_]; done) | (simp only [e0_]; done) | (simp only [e0_]; rfl))).rm [] (by kernel_rfl))
 rintro i hJ a w hs
 obtain ⟨⟨hi, hi2⟩, hd⟩ := hJ
 rcases bt (decide ((i : Int) < (xs.length : Int))) with b1 | b1
 ·skip
  have n1 := of_decide_eq_true b1
  rcases bt (decide ((i : Int) < (ys.length : Int))) with b2 | b2
  ·skip
   have n2 := of_decide_eq_true b2
   rcases bt ((xs.getD i (dflt .str)).toList == (ys.getD i (dflt .str)).toList) with b3 | b3
   ·skip
    have n3 := eq_of_beq b3
    refine wL hs hI [(2, ⟨[], gg [5, 6, 7, 8, 1009] [], []⟩)] [true, false] [0, 1, 5] [] (((tr 5 (rp 4 b1 ((ty b1) ∧ True))) ∧ (ty b2) ∧ True) ∧ (((True ∧ True ∧ (0 ≤ (i : Int) ∧ (i : Int) < xs.length) ∧ (tr 3 ((0 ≤ (i : Int) ∧ (i : Int) < ys.length) ∧ True ∧ True ∧ True))) ∧ (ty (ng1 b3)) ∧ True) ∧ True ∧ (InR .i64 ((i : Int) + 1)) ∧ True ∧ True)) .norm [(0, .row .str xs), (1, .row .str ys), (5, vi ((i : Int) + 1))] [] ⟨tv, tv⟩ (by kernel_rfl) ⟨⟨tr_mk (rp_mk (⟨b1, tv⟩) 4) 5, b2, tv⟩, ⟨⟨tv, tv, (by omega), tr_mk (⟨(by omega), tv, tv, tv⟩) 3⟩, (ng1 b3), tv⟩, tv, (inR64 (by omega) (by omega)), tv, tv⟩ (fun a w hs => ?_)
    refine then_norm ⟨i + 1, ⟨⟨by omega, by omega⟩, by rw [← less_on (by omega) (by omega) b3]; exact hd⟩, by omega, ?_⟩
    (have e0_ : ((i : Int) + 1) = ((((i + 1) : Nat) : Int)) := (by first | rfl | (omega)); exact (hs.cst [(0, .row .str xs), (1, .row .str ys), (5, vi (((i + 1) : Nat) : Int))] [] (by first | rfl | (rw [e0_]; done) | (simp only [e0_]; done) | (simp only [e0_]; rfl))).rm [] (by kernel_rfl))
   ·skip
    have n3 := beq_eq_false_iff_ne.1 b3
    refine wL hs hI [(2, ⟨[], gg [5, 6, 7, 8, 1009] [], []⟩)] [true, true] [4] [] (((tr 5 (rp 4 b1 ((ty b1) ∧ True))) ∧ (ty b2) ∧ True) ∧ ((True ∧ True ∧ (0 ≤ (i : Int) ∧ (i : Int) < xs.length) ∧ (tr 3 ((0 ≤ (i : Int) ∧ (i : Int) < ys.length) ∧ True ∧ True ∧ True))) ∧ (ty (ng0 b3)) ∧ (True ∧ True ∧ (0 ≤ (i : Int) ∧ (i : Int) < xs.length) ∧ (tr 3 ((0 ≤ (i : Int) ∧ (i : Int) < ys.length) ∧ (tr 3 True)))) ∧ True)) .ret [(4, vb (Op.bytesLess (xs.getD i (dflt .str)).toList (ys.getD i (dflt .str)).toList))] [] ⟨tv, tv⟩ (by kernel_rfl) ⟨⟨tr_mk (rp_mk (⟨b1, tv⟩) 4) 5, b2, tv⟩, ⟨tv, tv, (by omega), tr_mk (⟨(by omega), tv, tv, tv⟩) 3⟩, (ng0 b3), ⟨tv, tv, (by omega), tr_mk (⟨(by omega), tr_mk tv 3⟩) 3⟩, tv⟩ (fun a w hs => ?_)
    refine then_ret ?_
    refine inb_ret ?_
    refine then_ret ?_
    exact FnQ_cast (out := .val (vb (Op.bytesLess (xs.getD i (dflt .str)).toList (ys.getD i (dflt .str)).toList))) (by rw [← hd, less_at (by omega) (by omega) b3]) (ret_ok [] hs ⟨by kernel_rfl, rfl⟩)
  ·skip
   have n2 := of_decide_eq_false b2
   refine wL hs hI [(2, ⟨[], gg [5, 6, 7, 8, 1009] [], []⟩)] [false] [0, 1] [] ((tr 5 (rp 4 b1 ((ty b1) ∧ True))) ∧ ((ty b2) ∧ True)) (.exit 0) [(0, .row .str xs), (1, .row .str ys)] [] ⟨tv, tv⟩ (by kernel_rfl) ⟨tr_mk (rp_mk (⟨b1, tv⟩) 4) 5, b2, tv⟩ (fun a w hs => ?_)
   refine then_exit ?_
   refine inb_hit ?_
   refine then_norm ?_
   refine wN hs hI [] [4] [] ((tr 6 True) ∧ True) .ret [(4, vb (decide ((xs.length : Int) < (ys.length : Int))))] [] (by kernel_rfl) ⟨tr_mk tv 6, tv⟩ (fun a w hs => ?_)
   exact FnQ_cast (out := .val (vb (decide ((xs.length : Int) < (ys.length : Int))))) (by rw [← hd, less_end (by omega) (by omega) (by omega)]) (ret_ok [] hs ⟨by kernel_rfl, rfl⟩)
 ·skip
  have n1 := of_decide_eq_false b1
  refine wL hs hI [(2, ⟨[], gg [] [5, 6, 7, 8, 1009], []⟩)] [false] [0, 1] [] ((tr 5 ((ty b1) ∧ (ty b1) ∧ (ty b1) ∧ (ty b1) ∧ (ty b1) ∧ True)) ∧ ((false = false) ∧ True)) (.exit 0) [(0, .row .str xs), (1, .row .str ys)] [] ⟨tv, tv⟩ (by kernel_rfl) ⟨tr_mk (⟨b1, b1, b1, b1, b1, tv⟩) 5, rfl, tv⟩ (fun a w hs => ?_)
  refine then_exit ?_
  refine inb_hit ?_
  refine then_norm ?_
  refine wN hs hI [] [4] [] ((tr 6 True) ∧ True) .ret [(4, vb (decide ((xs.length : Int) < (ys.length : Int))))] [] (by kernel_rfl) ⟨tr_mk tv 6, tv⟩ (fun a w hs => ?_)
  exact FnQ_cast (out := .val (vb (decide ((xs.length : Int) < (ys.length : Int))))) (by rw [← hd, less_end (by omega) (by omega) (by omega)]) (ret_ok [] hs ⟨by kernel_rfl, rfl⟩)
theorem con93 (xs ys : List ByteArray) (h : xs.length < 1000000000) (h2 : ys.length < 1000000000) : Con Tryz.prog I0 93 [.row .str xs, .row .str ys] (.val (vb (startsF xs ys))) := by
 refine con_of Tryz.func93 rfl (Nat.le_of_ble_eq_true rfl) stab (fun w0 fz a hI hs => ?_)
 refine wp_seq ?_
 refine wN hs hI [] [0, 1] [] (True ∧ True) .norm [(0, .row .str xs), (1, .row .str ys)] [] (by kernel_rfl) ⟨tv, tv⟩ (fun a w hs => ?_)
 refine then_norm ?_
 refine wp_seq ?_
 rcases bt (decide ((ys.length : Int) < (xs.length : Int))) with b1 | b1
 ·skip
  have n1 := of_decide_eq_true b1
  refine wN hs hI [true] [4] [] ((tr 5 True) ∧ ((ty b1) ∧ (True ∧ True) ∧ True)) .ret [(4, vb false)] [] (by kernel_rfl) ⟨tr_mk tv 5, b1, ⟨tv, tv⟩, tv⟩ (fun a w hs => ?_)
  refine then_ret ?_
  exact FnQ_cast (out := .val (vb false)) (by rw [starts_len (by omega)]) (ret_ok [] hs ⟨by kernel_rfl, rfl⟩)
 ·skip
  have n1 := of_decide_eq_false b1
  refine wN hs hI [false] [0, 1] [] ((tr 5 True) ∧ ((ty b1) ∧ True)) .norm [(0, .row .str xs), (1, .row .str ys)] [] (by kernel_rfl) ⟨tr_mk tv 5, b1, tv⟩ (fun a w hs => ?_)
  refine then_norm ?_
  refine wp_seq ?_
  refine wp_seq ?_
  refine wN hs hI [] [0, 1, 5] [] (True ∧ True) .norm [(0, .row .str xs), (1, .row .str ys), (5, vi 0)] [] (by kernel_rfl) ⟨tv, tv⟩ (fun a w hs => ?_)
  refine then_norm ?_
  refine wp_block ?_
  refine loop_L (N := Tryz.f93.ntmps) (w0 := w0) (ow := noO fz) (α := Nat) (fun p => [(0, .row .str xs), (1, .row .str ys), (5, vi (p : Int))]) (fun p => []) (fun p => p ≤ xs.length ∧ ∀ j, j < p → eqT (xs.getD j (dflt .str)) (ys.getD j (dflt .str)) = true) (fun p => xs.length - p) 0 ?_ ?_ ?_
  ·exact ⟨Nat.zero_le _, fun j hj => absurd hj (Nat.not_lt_zero _)⟩
  ·(have e0_ : (0) = (((0 : Nat) : Int)) := (by first | rfl | (rfl)); exact (hs.cst [(0, .row .str xs), (1, .row .str ys), (5, vi ((0 : Nat) : Int))] [] (by first | rfl | (rw [e0_]; done) | (simp only [e0_]; done) | (simp only [e0_]; rfl))).rm [] (by kernel_rfl))
  rintro i hJ a w hs
  obtain ⟨hi, hall⟩ := hJ
  rcases bt (decide ((i : Int) < (xs.length : Int))) with b2 | b2
  ·skip
   have n2 := of_decide_eq_true b2
   rcases bt ((xs.getD i (dflt .str)).toList == (ys.getD i (dflt .str)).toList) with b3 | b3
   ·skip
    have n3 := eq_of_beq b3
    refine wN hs hI [true, false] [0, 1, 5] [] (((tr 4 True) ∧ (ty b2) ∧ True) ∧ (((True ∧ True ∧ (0 ≤ (i : Int) ∧ (i : Int) < xs.length) ∧ (tr 3 ((0 ≤ (i : Int) ∧ (i : Int) < ys.length) ∧ True ∧ True ∧ True))) ∧ (ty (ng1 b3)) ∧ True) ∧ True ∧ (InR .i64 ((i : Int) + 1)) ∧ True ∧ True)) .norm [(0, .row .str xs), (1, .row .str ys), (5, vi ((i : Int) + 1))] [] (by kernel_rfl) ⟨⟨tr_mk tv 4, b2, tv⟩, ⟨⟨tv, tv, (by omega), tr_mk (⟨(by omega), tv, tv, tv⟩) 3⟩, (ng1 b3), tv⟩, tv, (inR64 (by omega) (by omega)), tv, tv⟩ (fun a w hs => ?_)
    refine then_norm ⟨i + 1, ⟨by omega, fun j hj => by rcases Nat.lt_succ_iff_lt_or_eq.1 hj with h | h; exact hall j h; subst h; exact b3⟩, by omega, ?_⟩
    (have e0_ : ((i : Int) + 1) = ((((i + 1) : Nat) : Int)) := (by first | rfl | (omega)); exact (hs.cst [(0, .row .str xs), (1, .row .str ys), (5, vi (((i + 1) : Nat) : Int))] [] (by first | rfl | (rw [e0_]; done) | (simp only [e0_]; done) | (simp only [e0_]; rfl))).rm [] (by kernel_rfl))
   ·skip
    have n3 := beq_eq_false_iff_ne.1 b3
    refine wN hs hI [true, true] [4] [] (((tr 4 True) ∧ (ty b2) ∧ True) ∧ ((True ∧ True ∧ (0 ≤ (i : Int) ∧ (i : Int) < xs.length) ∧ (tr 3 ((0 ≤ (i : Int) ∧ (i : Int) < ys.length) ∧ True ∧ True ∧ True))) ∧ (ty (ng0 b3)) ∧ (True ∧ True) ∧ True)) .ret [(4, vb false)] [] (by kernel_rfl) ⟨⟨tr_mk tv 4, b2, tv⟩, ⟨tv, tv, (by omega), tr_mk (⟨(by omega), tv, tv, tv⟩) 3⟩, (ng0 b3), ⟨tv, tv⟩, tv⟩ (fun a w hs => ?_)
    refine then_ret ?_
    refine inb_ret ?_
    refine then_ret ?_
    exact FnQ_cast (out := .val (vb false)) (by rw [starts_no (i := i) (by omega) (by omega) b3]) (ret_ok [] hs ⟨by kernel_rfl, rfl⟩)
  ·skip
   have n2 := of_decide_eq_false b2
   refine wN hs hI [false] [] [] ((tr 4 True) ∧ ((ty b2) ∧ True)) (.exit 0) [] [] (by kernel_rfl) ⟨tr_mk tv 4, b2, tv⟩ (fun a w hs => ?_)
   refine then_exit ?_
   refine inb_hit ?_
   refine then_norm ?_
   refine wN hs hI [] [4] [] ((True ∧ True) ∧ True) .ret [(4, vb true)] [] (by kernel_rfl) ⟨⟨tv, tv⟩, tv⟩ (fun a w hs => ?_)
   exact FnQ_cast (out := .val (vb true)) (by rw [starts_yes (by omega) (fun j hj => hall j (by omega))]) (ret_ok [] hs ⟨by kernel_rfl, rfl⟩)
theorem con141_ (v : Tree) : ∀ (n : Nat) (q : List ByteArray) (t : Tree), q.length < n → nodes t < 100000000 → Con Tryz.prog I0 141 [.agg (encTree t), .row .str q, .agg (encTree v)] (.val (.agg (encTree (setP q t v)))) := by
 intro n
 induction n
 case zero => intro q t hn ht; omega
 rename_i n ih
 intro q t hn ht
 refine con_of Tryz.func141 rfl (Nat.le_of_ble_eq_true rfl) stab (fun w0 fz a hI hs => ?_)
 rcases bt ((q.length : Int) == 0) with b1 | b1
 ·skip
  have n1 := eq_of_beq b1
  refine wN hs hI [true] [6] [1002] ((tr 3 True) ∧ ((tr 3 True) ∧ (ty b1) ∧ (True ∧ True ∧ True) ∧ True)) .ret [(6, .ptr 1002 0)] [(1002, .var (encTree v))] (by kernel_rfl) ⟨tr_mk tv 3, tr_mk tv 3, b1, ⟨tv, tv, tv⟩, tv⟩ (fun a w hs => ?_)
  exact FnQ_cast (out := .val (.agg (encTree v))) (by have h0 : q = [] := List.eq_nil_of_length_eq_zero (by omega); rw [h0]; rfl) (ret_ok [] hs ⟨by kernel_rfl, rfl⟩)
 ·skip
  have n1 := beq_eq_false_iff_ne.1 b1
  refine wL hs hI [(3, ⟨[(4, ciA 69 [.agg (encTree t), vs (q.getD 0 (dflt .str))] [] [] (.val (.tup [.agg (encTree (memV t (q.getD 0 (dflt .str)))), vb (memB t (q.getD 0 (dflt .str)))])))], [], []⟩), (4, ⟨[(8, ciA 141 [.agg (encTree (memV t (q.getD 0 (dflt .str)))), .row .str (q.drop 1), .agg (encTree v)] [] [] (.val (.agg (encTree (setP (q.drop 1) (memV t (q.getD 0 (dflt .str))) v))))), (9, ciA 22 [.agg (encTree t), vs (q.getD 0 (dflt .str)), .agg (encTree (setP (q.drop 1) (memV t (q.getD 0 (dflt .str))) v))] [] [] (.val (.agg (encTree (setT t (q.getD 0 (dflt .str)) (setP (q.drop 1) (memV t (q.getD 0 (dflt .str))) v))))))], [], []⟩)] [false] [6] [1002] ((tr 3 True) ∧ (((tr 3 True) ∧ (ty b1) ∧ True) ∧ (True ∧ True ∧ (0 ≤ (0 : Int) ∧ (0 : Int) < q.length) ∧ True ∧ (okArgs [.agg (encTree t), vs (q.getD 0 (dflt .str))]) ∧ (tr 6 True)) ∧ (True ∧ True ∧ (0 ≤ (0 : Int) ∧ (0 : Int) < q.length) ∧ (tr 3 ((0 ≤ (1 : Int) ∧ (1 : Int) ≤ (q.length : Int) ∧ (q.length : Int) ≤ (q.length : Int) ∧ (q.length : Int) ≤ (q.length : Int)) ∧ True ∧ (okArgs [.agg (encTree (memV t (q.getD 0 (dflt .str)))), .row .str (q.drop 1), .agg (encTree v)]) ∧ (okArgs [.agg (encTree t), vs (q.getD 0 (dflt .str)), .agg (encTree (setP (q.drop 1) (memV t (q.getD 0 (dflt .str))) v))]) ∧ True ∧ True))) ∧ True)) .ret [(6, .ptr 1002 0)] [(1002, .var (encTree (setT t (q.getD 0 (dflt .str)) (setP (q.drop 1) (memV t (q.getD 0 (dflt .str))) v))))] ⟨⟨⟨ent69, con69 _ _ (by have h1 := nodes_eq t; have h2 := nodesL_len t.v; omega)⟩, tv⟩, ⟨⟨⟨ent141, ih _ _ (by rw [List.length_drop]; omega) (by have := memV_nodes' t (q.getD 0 (dflt .str)); omega)⟩, ⟨⟨ent22, con22 _ _ _ (by have h1 := nodes_eq t; have h2 := nodesL_len t.v; omega)⟩, tv⟩⟩, tv⟩⟩ (by kernel_rfl) ⟨tr_mk tv 3, ⟨tr_mk tv 3, b1, tv⟩, ⟨tv, tv, (by omega), tv, rfl, tr_mk tv 6⟩, ⟨tv, tv, (by omega), tr_mk (⟨(by (repeat' apply And.intro) <;> (try split) <;> omega), tv, rfl, rfl, tv, tv⟩) 3⟩, tv⟩ (fun a w hs => ?_)
  exact FnQ_cast (out := .val (.agg (encTree (setT t (q.getD 0 (dflt .str)) (setP (q.drop 1) (memV t (q.getD 0 (dflt .str))) v))))) (by rw [setP_at (q := q) (by omega)]) (ret_ok [] hs ⟨by kernel_rfl, rfl⟩)
def restD (x : ByteArray) (done : Bool) (l : Mem) : Mem := if done = true then l else delA x l
structure DelJ (t : Tree) (x : ByteArray) (i : Nat) (acc : Mem) (done : Bool) : Prop where
 eq : acc ++ restD x done ((mems t).drop i) = delA x (mems t)
 len : acc.length ≤ i
theorem DelJ.start (t : Tree) (x : ByteArray) : DelJ t x 0 [] false := ⟨by simp [restD], Nat.zero_le _⟩
section
variable {t : Tree} {x : ByteArray} {i : Nat} {acc : Mem} {done : Bool} (J : DelJ t x i acc done) (hk : t.kind = 7) (h1 : i < t.k.length) (h2 : i < t.v.length)
include J hk h1 h2
theorem DelJ.hit (hd : done = false) (h : eqT (t.k.getD i (dflt .str)) x = true) : DelJ t x (i + 1) acc true := by
 refine ⟨?_, by have := J.len; omega⟩
 have he := J.eq
 rw [mems_drop hk h1 h2, hd] at he
 rw [← he]
 have e : delA x ((t.k.getD i (dflt .str), t.v.getD i (dflt .tree)) :: (mems t).drop (i + 1)) = (mems t).drop (i + 1) := by
  simp only [delA]; rw [if_pos (by rw [eqT_comm]; exact h)]
 show acc ++ (mems t).drop (i + 1) = acc ++ delA x _
 rw [e]
theorem DelJ.on (h : done = true ∨ eqT (t.k.getD i (dflt .str)) x = false) : DelJ t x (i + 1) (acc ++ [(t.k.getD i (dflt .str), t.v.getD i (dflt .tree))]) done := by
 refine ⟨?_, by have := J.len; simp; omega⟩
 have he := J.eq
 rw [mems_drop hk h1 h2] at he
 rw [← he]
 rcases h with rfl | h
 ·simp [restD]
 ·have e : delA x ((t.k.getD i (dflt .str), t.v.getD i (dflt .tree)) :: (mems t).drop (i + 1)) = (t.k.getD i (dflt .str), t.v.getD i (dflt .tree)) :: delA x ((mems t).drop (i + 1)) := by
   simp only [delA]; rw [if_neg (by rw [eqT_comm, h]; decide)]
  cases done with
  | true => simp [restD]
  | false =>
   show (acc ++ [_]) ++ delA x _ = acc ++ delA x _
   rw [e]; simp
end
theorem DelJ.fin {t : Tree} {x : ByteArray} {i : Nat} {acc : Mem} {done : Bool} (J : DelJ t x i acc done) (hb : memB t x = true) (he : (mems t).drop i = []) : unsetT t x = objM acc := by
 have h := J.eq
 rw [he] at h
 have e : restD x done [] = [] := by cases done <;> rfl
 rw [e, List.append_nil] at h
 unfold unsetT; rw [if_pos hb, ← h]
theorem con21 (t : Tree) (x : ByteArray) (hv : t.v.length < 100000000) : Con Tryz.prog I0 21 [.agg (encTree t), vs x] (.val (.agg (encTree (unsetT t x)))) := by
 refine con_of Tryz.func21 rfl (Nat.le_of_ble_eq_true rfl) stab (fun w0 fz a hI hs => ?_)
 refine wp_seq ?_
 refine wN hs hI [] [1, 2, 4] [1000, 1001] (True ∧ (True ∧ True)) .norm [(1, vs x), (2, .ptr 1000 0), (4, .ptr 1001 0)] [(1000, .var (encTree t)), (1001, .var [vi 0, vb false, vb false, nilv, vi 0, vs (ba []), nilv, nilv])] (by kernel_rfl) ⟨tv, tv, tv⟩ (fun a w hs => ?_)
 refine then_norm ?_
 refine wp_seq ?_
 rcases bt (memB t x) with b1 | b1
 ·skip
  refine wL hs hI [(1, ⟨[(2, ciA 69 [.agg (encTree t), vs x] [] [] (.val (.tup [.agg (encTree (memV t x)), vb (memB t x)])))], [], []⟩)] [false] [1, 2, 4] [1000, 1001] ((True ∧ True ∧ (okArgs [.agg (encTree t), vs x]) ∧ (tr 6 True)) ∧ ((True ∧ True ∧ True) ∧ (ty (ng1 b1)) ∧ True)) .norm [(1, vs x), (2, .ptr 1000 0), (4, .ptr 1001 0)] [(1000, .var (encTree t)), (1001, .var [vi 0, vb false, vb false, nilv, vi 0, vs (ba []), nilv, nilv])] ⟨⟨⟨ent69, con69 _ _ (by omega)⟩, tv⟩, tv⟩ (by kernel_rfl) ⟨⟨tv, tv, rfl, tr_mk tv 6⟩, ⟨tv, tv, tv⟩, (ng1 b1), tv⟩ (fun a w hs => ?_)
  refine then_norm ?_
  refine wp_seq ?_
  refine wN hs hI [] [1, 2, 4, 7] [1000, 1001, 5001] (tr 3 True) .norm [(1, vs x), (2, .ptr 1000 0), (4, .ptr 1001 0), (7, .ptr 5001 0)] [(1000, .var (encTree t)), (1001, .var [vi 0, vb false, vb false, nilv, vi 0, vs (ba []), nilv, nilv]), (5001, .var [vi 7, vb false, vb false, nilv, vi 0, vs (ba []), nilv, nilv])] (by kernel_rfl) (tr_mk tv 3) (fun a w hs => ?_)
  refine then_norm ?_
  refine wp_seq ?_
  refine wN hs hI [] [1, 2, 4, 7, 8] [1000, 1001, 5001] (True ∧ True) .norm [(1, vs x), (2, .ptr 1000 0), (4, .ptr 1001 0), (7, .ptr 5001 0), (8, vb false)] [(1000, .var (encTree t)), (1001, .var [vi 0, vb false, vb false, nilv, vi 0, vs (ba []), nilv, nilv]), (5001, .var [vi 7, vb false, vb false, nilv, vi 0, vs (ba []), nilv, nilv])] (by kernel_rfl) ⟨tv, tv⟩ (fun a w hs => ?_)
  refine then_norm ?_
  refine wp_seq ?_
  refine wp_seq ?_
  refine wN hs hI [] [1, 2, 4, 7, 8, 9] [1000, 1001, 5001] (True ∧ True) .norm [(1, vs x), (2, .ptr 1000 0), (4, .ptr 1001 0), (7, .ptr 5001 0), (8, vb false), (9, vi 0)] [(1000, .var (encTree t)), (1001, .var [vi 0, vb false, vb false, nilv, vi 0, vs (ba []), nilv, nilv]), (5001, .var [vi 7, vb false, vb false, nilv, vi 0, vs (ba []), nilv, nilv])] (by kernel_rfl) ⟨tv, tv⟩ (fun a w hs => ?_)
  refine then_norm ?_
  refine wp_block ?_
  have hk7 := mem_kind (t := t) (x := x) (by assumption)
  have hbx : memB t x = true := by assumption
  refine loop_L (N := Tryz.f21.ntmps) (w0 := w0) (ow := noO fz) (α := Nat × Mem × Bool) (fun p => [(1, vs x), (2, .ptr 1000 0), (4, .ptr 1001 0), (7, .ptr 90000001 0), (8, vb p.2.2), (9, vi ((p.1 : Nat) : Int))]) (fun p => [(1000, .var (encTree t)), (1001, .var [vi 0, vb false, vb false, nilv, vi 0, vs (ba []), nilv, nilv]), (90000001, .var [vi 7, vb false, vb false, nilv, vi 0, vs (ba []), .own 90000002, .own 90000003]), (90000002, .sl 9 .str (mK p.2.1)), (90000003, .sl 29 .tree (mV p.2.1))]) (fun p => (p.1 ≤ t.k.length ∧ p.1 ≤ t.v.length) ∧ DelJ t x p.1 p.2.1 p.2.2) (fun p => t.k.length - p.1) (0, [], false) ?_ ?_ ?_
  ·exact ⟨⟨Nat.zero_le _, Nat.zero_le _⟩, DelJ.start t x⟩
  ·(have hs := (hs.nilB 10000005 5001 6 9 .str [vi 7, vb false, vb false, nilv, vi 0, vs (ba []), nilv, nilv] (by kernel_rfl) (by kernel_rfl) (by decide) (by decide) (by kernel_rfl) (by kernel_rfl)).rmT [(1, vs x), (2, .ptr 1000 0), (4, .ptr 1001 0), (7, .ptr 5001 0), (8, vb false), (9, vi 0)] [(1000, .var (encTree t)), (1001, .var [vi 0, vb false, vb false, nilv, vi 0, vs (ba []), nilv, nilv]), (5001, .var [vi 7, vb false, vb false, nilv, vi 0, vs (ba []), .own 10000005, nilv]), (10000005, .sl 9 .str ([]))] [(1000, 1000), (1001, 1001), (5001, 5001), (10000005, 10000005)] (by kernel_rfl); have hs := (hs.nilB 10000006 5001 7 29 .tree [vi 7, vb false, vb false, nilv, vi 0, vs (ba []), .own 10000005, nilv] (by kernel_rfl) (by kernel_rfl) (by decide) (by decide) (by kernel_rfl) (by kernel_rfl)).rmT [(1, vs x), (2, .ptr 1000 0), (4, .ptr 1001 0), (7, .ptr 5001 0), (8, vb false), (9, vi 0)] [(1000, .var (encTree t)), (1001, .var [vi 0, vb false, vb false, nilv, vi 0, vs (ba []), nilv, nilv]), (5001, .var [vi 7, vb false, vb false, nilv, vi 0, vs (ba []), .own 10000005, .own 10000006]), (10000005, .sl 9 .str ([])), (10000006, .sl 29 .tree ([]))] [(1000, 1000), (1001, 1001), (5001, 5001), (10000005, 10000005), (10000006, 10000006)] (by kernel_rfl); exact (hs.cst [(1, vs x), (2, .ptr 1000 0), (4, .ptr 1001 0), (7, .ptr 5001 0), (8, vb false), (9, vi ((0 : Nat) : Int))] [(1000, .var (encTree t)), (1001, .var [vi 0, vb false, vb false, nilv, vi 0, vs (ba []), nilv, nilv]), (5001, .var [vi 7, vb false, vb false, nilv, vi 0, vs (ba []), .own 10000005, .own 10000006]), (10000005, .sl 9 .str (mK ([]))), (10000006, .sl 29 .tree (mV ([])))] rfl).rm [(1000, 1000), (1001, 1001), (90000001, 5001), (90000002, 10000005), (90000003, 10000006)] (by kernel_rfl))
  rintro ⟨i, acc, done⟩ hJ a w hs
  try dsimp only at hJ
  obtain ⟨⟨hi, hi2⟩, hJ⟩ := hJ
  have hln := hJ.len
  have hl1 : (mK acc).length = acc.length := List.length_map _
  have hl2 : (mV acc).length = acc.length := List.length_map _
  rcases bt (decide ((i : Int) < (t.k.length : Int))) with b2 | b2
  ·skip
   have n2 := of_decide_eq_true b2
   rcases bt (decide ((i : Int) < (t.v.length : Int))) with b3 | b3
   ·skip
    have n3 := of_decide_eq_true b3
    rcases bt (done) with b4 | b4
    ·skip
     refine wL hs hI [(7, ⟨[], gg [6, 7, 8, 9, 10, 1011] [], []⟩), (9, ⟨[], gg [] [3, 4, 5, 6, 7, 8, 9, 1010], []⟩)] [true, false] [1, 2, 4, 7, 8, 9] [1000, 1001, 12008, 12017, 90000001] (((tr 6 (rp 5 b2 ((ty b2) ∧ True))) ∧ (ty b3) ∧ True) ∧ ((((tr 3 ((ty (ng1 b4)) ∧ (ty (ng1 b4)) ∧ (ty (ng1 b4)) ∧ (ty (ng1 b4)) ∧ (ty (ng1 b4)) ∧ (ty (ng1 b4)) ∧ (ty (ng1 b4)) ∧ (ty (ng1 b4)) ∧ True)) ∧ (false = false) ∧ True) ∧ (tr 5 ((0 ≤ (i : Int) ∧ (i : Int) < t.k.length) ∧ True ∧ True ∧ ((((mK acc).length + 1) * 16 : Nat) ≤ 140737488355328 ∧ (mK acc).length + 1 ≤ 140737488355328) ∧ (tr 5 ((0 ≤ (i : Int) ∧ (i : Int) < t.v.length) ∧ True ∧ True ∧ ((((mV acc).length + 1) * 120 : Nat) ≤ 140737488355328 ∧ (mV acc).length + 1 ≤ 140737488355328) ∧ (tr 4 True)))))) ∧ True ∧ (InR .i64 ((i : Int) + 1)) ∧ True ∧ True)) .norm [(1, vs x), (2, .ptr 1000 0), (4, .ptr 1001 0), (7, .ptr 90000001 0), (8, vb done), (9, vi ((i : Int) + 1))] [(1000, .var (encTree t)), (1001, .var [vi 0, vb false, vb false, nilv, vi 0, vs (ba []), nilv, nilv]), (12008, .sl 9 .str ((mK acc) ++ ([(t.k.getD i (dflt .str))]))), (12017, .sl 29 .tree ((mV acc) ++ ([(Tree.mk ((t.v.getD i (dflt .tree)).kind) ((t.v.getD i (dflt .tree)).b) ⟨(t.v.getD i (dflt .tree)).n.neg, (t.v.getD i (dflt .tree)).n.m, (t.v.getD i (dflt .tree)).n.e⟩ ((t.v.getD i (dflt .tree)).s) ((t.v.getD i (dflt .tree)).k) ((t.v.getD i (dflt .tree)).v))]))), (90000001, .var [vi 7, vb false, vb false, nilv, vi 0, vs (ba []), .own 12008, .own 12017])] ⟨tv, ⟨tv, tv⟩⟩ (by kernel_rfl) ⟨⟨tr_mk (rp_mk (⟨b2, tv⟩) 5) 6, b3, tv⟩, ⟨⟨tr_mk (⟨(ng1 b4), (ng1 b4), (ng1 b4), (ng1 b4), (ng1 b4), (ng1 b4), (ng1 b4), (ng1 b4), tv⟩) 3, rfl, tv⟩, tr_mk (⟨(by omega), tv, tv, (by omega), tr_mk (⟨(by omega), tv, tv, (by omega), tr_mk tv 4⟩) 5⟩) 5⟩, tv, (inR64 (by omega) (by omega)), tv, tv⟩ (fun a w hs => ?_)
     refine then_norm ⟨(i + 1, acc ++ [(t.k.getD i (dflt .str), t.v.getD i (dflt .tree))], done), ⟨⟨by omega, by omega⟩, hJ.on hk7 (by omega) (by omega) (.inl b4)⟩, by omega, ?_⟩
     (have e0_ : ((i : Int) + 1) = ((((i + 1) : Nat) : Int)) := (by first | rfl | (first | rfl | (simp only [mK_add, mV_add, Tree.eta']; rfl) | (simp [mK, mV, Tree.eta']; done))); have e1_ : ((mK acc) ++ ([(t.k.getD i (dflt .str))])) = (mK (acc ++ [(t.k.getD i (dflt .str), t.v.getD i (dflt .tree))])) := (by first | rfl | (first | rfl | (simp only [mK_add, mV_add, Tree.eta']; rfl) | (simp [mK, mV, Tree.eta']; done))); have e2_ : ((mV acc) ++ ([(Tree.mk ((t.v.getD i (dflt .tree)).kind) ((t.v.getD i (dflt .tree)).b) ⟨(t.v.getD i (dflt .tree)).n.neg, (t.v.getD i (dflt .tree)).n.m, (t.v.getD i (dflt .tree)).n.e⟩ ((t.v.getD i (dflt .tree)).s) ((t.v.getD i (dflt .tree)).k) ((t.v.getD i (dflt .tree)).v))])) = (mV (acc ++ [(t.k.getD i (dflt .str), t.v.getD i (dflt .tree))])) := (by first | rfl | (first | rfl | (simp only [mK_add, mV_add, Tree.eta']; rfl) | (simp [mK, mV, Tree.eta']; done))); exact (hs.cst [(1, vs x), (2, .ptr 1000 0), (4, .ptr 1001 0), (7, .ptr 90000001 0), (8, vb done), (9, vi (((i + 1) : Nat) : Int))] [(1000, .var (encTree t)), (1001, .var [vi 0, vb false, vb false, nilv, vi 0, vs (ba []), nilv, nilv]), (12008, .sl 9 .str (mK (acc ++ [(t.k.getD i (dflt .str), t.v.getD i (dflt .tree))]))), (12017, .sl 29 .tree (mV (acc ++ [(t.k.getD i (dflt .str), t.v.getD i (dflt .tree))]))), (90000001, .var [vi 7, vb false, vb false, nilv, vi 0, vs (ba []), .own 12008, .own 12017])] (by first | rfl | (rw [e0_, e1_, e2_]; done) | (simp only [e0_, e1_, e2_]; done) | (simp only [e0_, e1_, e2_]; rfl))).rm [(1000, 1000), (1001, 1001), (90000001, 90000001), (90000002, 12008), (90000003, 12017)] (by kernel_rfl))
    ·skip
     rcases bt ((t.k.getD i (dflt .str)).toList == x.toList) with b5 | b5
     ·skip
      have n5 := eq_of_beq b5
      refine wL hs hI [(7, ⟨[], gg [6, 7, 8, 9, 10, 1011] [], []⟩), (9, ⟨[], gg [3, 4, 5, 6, 7, 8, 9, 1010] [], []⟩)] [true, true] [1, 2, 4, 7, 8, 9] [1000, 1001, 90000001, 90000002, 90000003] (((tr 6 (rp 5 b2 ((ty b2) ∧ True))) ∧ (ty b3) ∧ True) ∧ (((tr 3 (rp 3 (ng0 b4) ((ty (ng0 b4)) ∧ (0 ≤ (i : Int) ∧ (i : Int) < t.k.length) ∧ (rp 3 (ng0 b4) ((ty (ng0 b4)) ∧ True))))) ∧ (ty b5) ∧ (True ∧ True) ∧ True) ∧ True ∧ (InR .i64 ((i : Int) + 1)) ∧ True ∧ True)) .norm [(1, vs x), (2, .ptr 1000 0), (4, .ptr 1001 0), (7, .ptr 90000001 0), (8, vb true), (9, vi ((i : Int) + 1))] [(1000, .var (encTree t)), (1001, .var [vi 0, vb false, vb false, nilv, vi 0, vs (ba []), nilv, nilv]), (90000001, .var [vi 7, vb false, vb false, nilv, vi 0, vs (ba []), .own 90000002, .own 90000003]), (90000002, .sl 9 .str (mK acc)), (90000003, .sl 29 .tree (mV acc))] ⟨tv, ⟨tv, tv⟩⟩ (by kernel_rfl) ⟨⟨tr_mk (rp_mk (⟨b2, tv⟩) 5) 6, b3, tv⟩, ⟨tr_mk (rp_mk (⟨(ng0 b4), (by omega), rp_mk (⟨(ng0 b4), tv⟩) 3⟩) 3) 3, b5, ⟨tv, tv⟩, tv⟩, tv, (inR64 (by omega) (by omega)), tv, tv⟩ (fun a w hs => ?_)
      refine then_norm ⟨(i + 1, acc, true), ⟨⟨by omega, by omega⟩, hJ.hit hk7 (by omega) (by omega) b4 b5⟩, by omega, ?_⟩
      (have e0_ : ((i : Int) + 1) = ((((i + 1) : Nat) : Int)) := (by first | rfl | (first | rfl | (simp only [mK_add, mV_add, Tree.eta']; rfl) | (simp [mK, mV, Tree.eta']; done))); exact (hs.cst [(1, vs x), (2, .ptr 1000 0), (4, .ptr 1001 0), (7, .ptr 90000001 0), (8, vb true), (9, vi (((i + 1) : Nat) : Int))] [(1000, .var (encTree t)), (1001, .var [vi 0, vb false, vb false, nilv, vi 0, vs (ba []), nilv, nilv]), (90000001, .var [vi 7, vb false, vb false, nilv, vi 0, vs (ba []), .own 90000002, .own 90000003]), (90000002, .sl 9 .str (mK acc)), (90000003, .sl 29 .tree (mV acc))] (by first | rfl | (rw [e0_]; done) | (simp only [e0_]; done) | (simp only [e0_]; rfl))).rm [(1000, 1000), (1001, 1001), (90000001, 90000001), (90000002, 90000002), (90000003, 90000003)] (by kernel_rfl))
     ·skip
      have n5 := beq_eq_false_iff_ne.1 b5
      refine wL hs hI [(7, ⟨[], gg [6, 7, 8, 9, 10, 1011] [], []⟩), (9, ⟨[], gg [3, 4, 5, 6, 7, 8, 9, 1010] [], []⟩)] [true, false] [1, 2, 4, 7, 8, 9] [1000, 1001, 12008, 12017, 90000001] (((tr 6 (rp 5 b2 ((ty b2) ∧ True))) ∧ (ty b3) ∧ True) ∧ ((((tr 3 (rp 3 (ng0 b4) ((ty (ng0 b4)) ∧ (0 ≤ (i : Int) ∧ (i : Int) < t.k.length) ∧ (rp 3 (ng0 b4) ((ty (ng0 b4)) ∧ True))))) ∧ (ty b5) ∧ True) ∧ (tr 5 ((0 ≤ (i : Int) ∧ (i : Int) < t.k.length) ∧ True ∧ True ∧ ((((mK acc).length + 1) * 16 : Nat) ≤ 140737488355328 ∧ (mK acc).length + 1 ≤ 140737488355328) ∧ (tr 5 ((0 ≤ (i : Int) ∧ (i : Int) < t.v.length) ∧ True ∧ True ∧ ((((mV acc).length + 1) * 120 : Nat) ≤ 140737488355328 ∧ (mV acc).length + 1 ≤ 140737488355328) ∧ (tr 4 True)))))) ∧ True ∧ (InR .i64 ((i : Int) + 1)) ∧ True ∧ True)) .norm [(1, vs x), (2, .ptr 1000 0), (4, .ptr 1001 0), (7, .ptr 90000001 0), (8, vb done), (9, vi ((i : Int) + 1))] [(1000, .var (encTree t)), (1001, .var [vi 0, vb false, vb false, nilv, vi 0, vs (ba []), nilv, nilv]), (12008, .sl 9 .str ((mK acc) ++ ([(t.k.getD i (dflt .str))]))), (12017, .sl 29 .tree ((mV acc) ++ ([(Tree.mk ((t.v.getD i (dflt .tree)).kind) ((t.v.getD i (dflt .tree)).b) ⟨(t.v.getD i (dflt .tree)).n.neg, (t.v.getD i (dflt .tree)).n.m, (t.v.getD i (dflt .tree)).n.e⟩ ((t.v.getD i (dflt .tree)).s) ((t.v.getD i (dflt .tree)).k) ((t.v.getD i (dflt .tree)).v))]))), (90000001, .var [vi 7, vb false, vb false, nilv, vi 0, vs (ba []), .own 12008, .own 12017])] ⟨tv, ⟨tv, tv⟩⟩ (by kernel_rfl) ⟨⟨tr_mk (rp_mk (⟨b2, tv⟩) 5) 6, b3, tv⟩, ⟨⟨tr_mk (rp_mk (⟨(ng0 b4), (by omega), rp_mk (⟨(ng0 b4), tv⟩) 3⟩) 3) 3, b5, tv⟩, tr_mk (⟨(by omega), tv, tv, (by omega), tr_mk (⟨(by omega), tv, tv, (by omega), tr_mk tv 4⟩) 5⟩) 5⟩, tv, (inR64 (by omega) (by omega)), tv, tv⟩ (fun a w hs => ?_)
      refine then_norm ⟨(i + 1, acc ++ [(t.k.getD i (dflt .str), t.v.getD i (dflt .tree))], done), ⟨⟨by omega, by omega⟩, hJ.on hk7 (by omega) (by omega) (.inr b5)⟩, by omega, ?_⟩
      (have e0_ : ((i : Int) + 1) = ((((i + 1) : Nat) : Int)) := (by first | rfl | (first | rfl | (simp only [mK_add, mV_add, Tree.eta']; rfl) | (simp [mK, mV, Tree.eta']; done))); have e1_ : ((mK acc) ++ ([(t.k.getD i (dflt .str))])) = (mK (acc ++ [(t.k.getD i (dflt .str), t.v.getD i (dflt .tree))])) := (by first | rfl | (first | rfl | (simp only [mK_add, mV_add, Tree.eta']; rfl) | (simp [mK, mV, Tree.eta']; done))); have e2_ : ((mV acc) ++ ([(Tree.mk ((t.v.getD i (dflt .tree)).kind) ((t.v.getD i (dflt .tree)).b) ⟨(t.v.getD i (dflt .tree)).n.neg, (t.v.getD i (dflt .tree)).n.m, (t.v.getD i (dflt .tree)).n.e⟩ ((t.v.getD i (dflt .tree)).s) ((t.v.getD i (dflt .tree)).k) ((t.v.getD i (dflt .tree)).v))])) = (mV (acc ++ [(t.k.getD i (dflt .str), t.v.getD i (dflt .tree))])) := (by first | rfl | (first | rfl | (simp only [mK_add, mV_add, Tree.eta']; rfl) | (simp [mK, mV, Tree.eta']; done))); exact (hs.cst [(1, vs x), (2, .ptr 1000 0), (4, .ptr 1001 0), (7, .ptr 90000001 0), (8, vb done), (9, vi (((i + 1) : Nat) : Int))] [(1000, .var (encTree t)), (1001, .var [vi 0, vb false, vb false, nilv, vi 0, vs (ba []), nilv, nilv]), (12008, .sl 9 .str (mK (acc ++ [(t.k.getD i (dflt .str), t.v.getD i (dflt .tree))]))), (12017, .sl 29 .tree (mV (acc ++ [(t.k.getD i (dflt .str), t.v.getD i (dflt .tree))]))), (90000001, .var [vi 7, vb false, vb false, nilv, vi 0, vs (ba []), .own 12008, .own 12017])] (by first | rfl | (rw [e0_, e1_, e2_]; done) | (simp only [e0_, e1_, e2_]; done) | (simp only [e0_, e1_, e2_]; rfl))).rm [(1000, 1000), (1001, 1001), (90000001, 90000001), (90000002, 12008), (90000003, 12017)] (by kernel_rfl))
   ·skip
    have n3 := of_decide_eq_false b3
    refine wL hs hI [(7, ⟨[], gg [6, 7, 8, 9, 10, 1011] [], []⟩)] [false] [4, 7] [1001, 90000001, 90000002, 90000003] ((tr 6 (rp 5 b2 ((ty b2) ∧ True))) ∧ ((ty b3) ∧ True)) (.exit 0) [(4, .ptr 1001 0), (7, .ptr 90000001 0)] [(1001, .var [vi 0, vb false, vb false, nilv, vi 0, vs (ba []), nilv, nilv]), (90000001, .var [vi 7, vb false, vb false, nilv, vi 0, vs (ba []), .own 90000002, .own 90000003]), (90000002, .sl 9 .str (mK acc)), (90000003, .sl 29 .tree (mV acc))] ⟨tv, tv⟩ (by kernel_rfl) ⟨tr_mk (rp_mk (⟨b2, tv⟩) 5) 6, b3, tv⟩ (fun a w hs => ?_)
    refine then_exit ?_
    refine inb_hit ?_
    refine then_norm ?_
    refine wN hs hI [] [4] [1001, 90000002, 90000003] ((True ∧ True ∧ True) ∧ True) .ret [(4, .ptr 1001 0)] [(1001, .var [vi 7, vb false, vb false, nilv, vi 0, vs (ba []), .own 90000002, .own 90000003]), (90000002, .sl 9 .str (mK acc)), (90000003, .sl 29 .tree (mV acc))] (by kernel_rfl) ⟨⟨tv, tv, tv⟩, tv⟩ (fun a w hs => ?_)
    exact FnQ_cast (out := .val (.agg [vi 7, vb false, vb false, .row (.int .u32) ([]), vi 0, vs (ba []), .row .str (mK acc), .row .tree (mV acc)])) (by rw [hJ.fin hbx (mems_end (by omega))]; rfl) (ret_ok [90000002, 90000003] hs ⟨by kernel_rfl, rfl⟩)
  ·skip
   have n2 := of_decide_eq_false b2
   refine wL hs hI [(7, ⟨[], gg [] [6, 7, 8, 9, 10, 1011], []⟩)] [false] [4, 7] [1001, 90000001, 90000002, 90000003] ((tr 6 ((ty b2) ∧ (ty b2) ∧ (ty b2) ∧ (ty b2) ∧ (ty b2) ∧ (ty b2) ∧ True)) ∧ ((false = false) ∧ True)) (.exit 0) [(4, .ptr 1001 0), (7, .ptr 90000001 0)] [(1001, .var [vi 0, vb false, vb false, nilv, vi 0, vs (ba []), nilv, nilv]), (90000001, .var [vi 7, vb false, vb false, nilv, vi 0, vs (ba []), .own 90000002, .own 90000003]), (90000002, .sl 9 .str (mK acc)), (90000003, .sl 29 .tree (mV acc))] ⟨tv, tv⟩ (by kernel_rfl) ⟨tr_mk (⟨b2, b2, b2, b2, b2, b2, tv⟩) 6, rfl, tv⟩ (fun a w hs => ?_)
   refine then_exit ?_
   refine inb_hit ?_
   refine then_norm ?_
   refine wN hs hI [] [4] [1001, 90000002, 90000003] ((True ∧ True ∧ True) ∧ True) .ret [(4, .ptr 1001 0)] [(1001, .var [vi 7, vb false, vb false, nilv, vi 0, vs (ba []), .own 90000002, .own 90000003]), (90000002, .sl 9 .str (mK acc)), (90000003, .sl 29 .tree (mV acc))] (by kernel_rfl) ⟨⟨tv, tv, tv⟩, tv⟩ (fun a w hs => ?_)
   exact FnQ_cast (out := .val (.agg [vi 7, vb false, vb false, .row (.int .u32) ([]), vi 0, vs (ba []), .row .str (mK acc), .row .tree (mV acc)])) (by rw [hJ.fin hbx (mems_end (by omega))]; rfl) (ret_ok [90000002, 90000003] hs ⟨by kernel_rfl, rfl⟩)
 ·skip
  refine wL hs hI [(1, ⟨[(2, ciA 69 [.agg (encTree t), vs x] [] [] (.val (.tup [.agg (encTree (memV t x)), vb (memB t x)])))], [], []⟩)] [true] [4] [1001] ((True ∧ True ∧ (okArgs [.agg (encTree t), vs x]) ∧ (tr 6 True)) ∧ ((True ∧ True ∧ True) ∧ (ty (ng0 b1)) ∧ (True ∧ True ∧ True) ∧ True)) .ret [(4, .ptr 1001 0)] [(1001, .var (encTree t))] ⟨⟨⟨ent69, con69 _ _ (by omega)⟩, tv⟩, tv⟩ (by kernel_rfl) ⟨⟨tv, tv, rfl, tr_mk tv 6⟩, ⟨tv, tv, tv⟩, (ng0 b1), ⟨tv, tv, tv⟩, tv⟩ (fun a w hs => ?_)
  refine then_ret ?_
  exact FnQ_cast (out := .val (.agg (encTree t))) (by unfold unsetT; rw [if_neg (by rw [b1]; decide)]) (ret_ok [] hs ⟨by kernel_rfl, rfl⟩)
theorem unsetP_none {q : List ByteArray} {t : Tree} (h : 0 < q.length) (hb : memB t (q.getD 0 (dflt .str)) = false) : unsetP q t = t := by
 by_cases h1 : q.length = 1
 ·rw [unsetP_one h1]; unfold unsetT; rw [if_neg (by rw [hb]; decide)]
 ·exact unsetP_no (by omega) hb
theorem con142_ : ∀ (n : Nat) (q : List ByteArray) (t : Tree), q.length < n → 0 < q.length → nodes t < 100000000 → Con Tryz.prog I0 142 [.agg (encTree t), .row .str q] (.val (.agg (encTree (unsetP q t)))) := by
 intro n
 induction n
 case zero => intro q t hn hp ht; omega
 rename_i n ih
 intro q t hn hp ht
 refine con_of Tryz.func142 rfl (Nat.le_of_ble_eq_true rfl) stab (fun w0 fz a hI hs => ?_)
 rcases bt (memB t (q.getD 0 (dflt .str))) with b1 | b1
 ·skip
  rcases bt ((q.length : Int) == 1) with b2 | b2
  ·skip
   have n2 := eq_of_beq b2
   refine wL hs hI [(1, ⟨[(4, ciA 69 [.agg (encTree t), vs (q.getD 0 (dflt .str))] [] [] (.val (.tup [.agg (encTree (memV t (q.getD 0 (dflt .str)))), vb (memB t (q.getD 0 (dflt .str)))])))], [], []⟩), (5, ⟨[(4, ciA 21 [.agg (encTree t), vs (q.getD 0 (dflt .str))] [] [] (.val (.agg (encTree (unsetT t (q.getD 0 (dflt .str)))))))], [], []⟩)] [false, true] [4] [1001] ((True ∧ True ∧ True) ∧ ((True ∧ True ∧ (0 ≤ (0 : Int) ∧ (0 : Int) < q.length) ∧ True ∧ (okArgs [.agg (encTree t), vs (q.getD 0 (dflt .str))]) ∧ (tr 6 True)) ∧ (tr 3 True) ∧ (ty (ng1 b1)) ∧ (tr 4 True) ∧ (ty b2) ∧ (True ∧ True ∧ (0 ≤ (0 : Int) ∧ (0 : Int) < q.length) ∧ True ∧ (okArgs [.agg (encTree t), vs (q.getD 0 (dflt .str))]) ∧ True ∧ True) ∧ True)) .ret [(4, .ptr 1001 0)] [(1001, .var (encTree (unsetT t (q.getD 0 (dflt .str)))))] ⟨⟨⟨ent69, con69 _ _ (by have h1 := nodes_eq t; have h2 := nodesL_len t.v; omega)⟩, tv⟩, ⟨⟨⟨ent21, con21 _ _ (by have h1 := nodes_eq t; have h2 := nodesL_len t.v; omega)⟩, tv⟩, tv⟩⟩ (by kernel_rfl) ⟨⟨tv, tv, tv⟩, ⟨tv, tv, (by omega), tv, rfl, tr_mk tv 6⟩, tr_mk tv 3, (ng1 b1), tr_mk tv 4, b2, ⟨tv, tv, (by omega), tv, rfl, tv, tv⟩, tv⟩ (fun a w hs => ?_)
   exact FnQ_cast (out := .val (.agg (encTree (unsetT t (q.getD 0 (dflt .str)))))) (by rw [unsetP_one (by omega)]) (ret_ok [] hs ⟨by kernel_rfl, rfl⟩)
  ·skip
   have n2 := beq_eq_false_iff_ne.1 b2
   refine wL hs hI [(1, ⟨[(4, ciA 69 [.agg (encTree t), vs (q.getD 0 (dflt .str))] [] [] (.val (.tup [.agg (encTree (memV t (q.getD 0 (dflt .str)))), vb (memB t (q.getD 0 (dflt .str)))])))], [], []⟩), (6, ⟨[(7, ciA 142 [.agg (encTree (memV t (q.getD 0 (dflt .str)))), .row .str (q.drop 1)] [] [] (.val (.agg (encTree (unsetP (q.drop 1) (memV t (q.getD 0 (dflt .str)))))))), (8, ciA 22 [.agg (encTree t), vs (q.getD 0 (dflt .str)), .agg (encTree (unsetP (q.drop 1) (memV t (q.getD 0 (dflt .str)))))] [] [] (.val (.agg (encTree (setT t (q.getD 0 (dflt .str)) (unsetP (q.drop 1) (memV t (q.getD 0 (dflt .str)))))))))], [], []⟩)] [false, false] [4] [1001] ((True ∧ True ∧ True) ∧ ((True ∧ True ∧ (0 ≤ (0 : Int) ∧ (0 : Int) < q.length) ∧ True ∧ (okArgs [.agg (encTree t), vs (q.getD 0 (dflt .str))]) ∧ (tr 6 True)) ∧ ((tr 3 True) ∧ (ty (ng1 b1)) ∧ (tr 4 True) ∧ (ty b2) ∧ True) ∧ (True ∧ True ∧ (0 ≤ (0 : Int) ∧ (0 : Int) < q.length) ∧ (tr 3 ((0 ≤ (1 : Int) ∧ (1 : Int) ≤ (q.length : Int) ∧ (q.length : Int) ≤ (q.length : Int) ∧ (q.length : Int) ≤ (q.length : Int)) ∧ (okArgs [.agg (encTree (memV t (q.getD 0 (dflt .str)))), .row .str (q.drop 1)]) ∧ (okArgs [.agg (encTree t), vs (q.getD 0 (dflt .str)), .agg (encTree (unsetP (q.drop 1) (memV t (q.getD 0 (dflt .str)))))]) ∧ True ∧ True))) ∧ True)) .ret [(4, .ptr 1001 0)] [(1001, .var (encTree (setT t (q.getD 0 (dflt .str)) (unsetP (q.drop 1) (memV t (q.getD 0 (dflt .str)))))))] ⟨⟨⟨ent69, con69 _ _ (by have h1 := nodes_eq t; have h2 := nodesL_len t.v; omega)⟩, tv⟩, ⟨⟨⟨ent142, ih _ _ (by rw [List.length_drop]; omega) (by rw [List.length_drop]; omega) (by have := memV_nodes' t (q.getD 0 (dflt .str)); omega)⟩, ⟨⟨ent22, con22 _ _ _ (by have h1 := nodes_eq t; have h2 := nodesL_len t.v; omega)⟩, tv⟩⟩, tv⟩⟩ (by kernel_rfl) ⟨⟨tv, tv, tv⟩, ⟨tv, tv, (by omega), tv, rfl, tr_mk tv 6⟩, ⟨tr_mk tv 3, (ng1 b1), tr_mk tv 4, b2, tv⟩, ⟨tv, tv, (by omega), tr_mk (⟨(by (repeat' apply And.intro) <;> (try split) <;> omega), rfl, rfl, tv, tv⟩) 3⟩, tv⟩ (fun a w hs => ?_)
   exact FnQ_cast (out := .val (.agg (encTree (setT t (q.getD 0 (dflt .str)) (unsetP (q.drop 1) (memV t (q.getD 0 (dflt .str)))))))) (by rw [unsetP_yes (by omega) b1]) (ret_ok [] hs ⟨by kernel_rfl, rfl⟩)
 ·skip
  refine wL hs hI [(1, ⟨[(4, ciA 69 [.agg (encTree t), vs (q.getD 0 (dflt .str))] [] [] (.val (.tup [.agg (encTree (memV t (q.getD 0 (dflt .str)))), vb (memB t (q.getD 0 (dflt .str)))])))], [], []⟩)] [true] [4] [1001] ((True ∧ True ∧ True) ∧ ((True ∧ True ∧ (0 ≤ (0 : Int) ∧ (0 : Int) < q.length) ∧ True ∧ (okArgs [.agg (encTree t), vs (q.getD 0 (dflt .str))]) ∧ (tr 6 True)) ∧ (tr 3 True) ∧ (ty (ng0 b1)) ∧ (True ∧ True ∧ True) ∧ True)) .ret [(4, .ptr 1001 0)] [(1001, .var (encTree t))] ⟨⟨⟨ent69, con69 _ _ (by have h1 := nodes_eq t; have h2 := nodesL_len t.v; omega)⟩, tv⟩, tv⟩ (by kernel_rfl) ⟨⟨tv, tv, tv⟩, ⟨tv, tv, (by omega), tv, rfl, tr_mk tv 6⟩, tr_mk tv 3, (ng0 b1), ⟨tv, tv, tv⟩, tv⟩ (fun a w hs => ?_)
  exact FnQ_cast (out := .val (.agg (encTree t))) (by rw [unsetP_none hp b1]) (ret_ok [] hs ⟨by kernel_rfl, rfl⟩)
abbrev pAt (l : List (List ByteArray)) (i : Nat) : List ByteArray := l.getD i (dflt .strs)
def coverB (l : List (List ByteArray)) (i k : Nat) : Bool := startsF (pAt l k) (pAt l i) && (decide (((pAt l k).length : Int) < ((pAt l i).length : Int)) || decide ((k : Int) < (i : Int)))
def keepF (l : List (List ByteArray)) (i : Nat) : Bool := (List.range l.length).all fun k => !coverB l i k
def keepTo (l : List (List ByteArray)) (i k : Nat) : Bool := (List.range k).all fun j => !coverB l i j
theorem keepTo_succ (l : List (List ByteArray)) (i k : Nat) : keepTo l i (k + 1) = (keepTo l i k && !coverB l i k) := by
 unfold keepTo; rw [List.range_succ, List.all_append]; simp
theorem keepTo_end {l : List (List ByteArray)} {i k : Nat} (h : k = l.length) : keepTo l i k = keepF l i := by subst h; rfl
structure NrmJ (l : List (List ByteArray)) (i : Nat) (m : List (List ByteArray)) : Prop where
 le : i ≤ l.length
 srt : m.Pairwise Le
 nd : m.Nodup
 mem : ∀ x, x ∈ m ↔ ∃ j, j < i ∧ keepF l j = true ∧ pAt l j = x
 len : m.length ≤ i
theorem NrmJ.start (l : List (List ByteArray)) : NrmJ l 0 [] := ⟨Nat.zero_le _, List.Pairwise.nil, List.nodup_nil, fun x => ⟨fun h => by simp at h, fun ⟨j, h, _⟩ => absurd h (Nat.not_lt_zero _)⟩, Nat.le_refl _⟩
theorem NrmJ.skip {l : List (List ByteArray)} {i : Nat} {m : List (List ByteArray)} (h : NrmJ l i m) (hi : i < l.length) (hk : keepF l i = false) : NrmJ l (i + 1) m := by
 refine ⟨by omega, h.srt, h.nd, fun x => ?_, by have := h.len; omega⟩
 rw [h.mem x]
 refine ⟨fun ⟨j, h1, h2, h3⟩ => ⟨j, by omega, h2, h3⟩, fun ⟨j, h1, h2, h3⟩ => ⟨j, ?_, h2, h3⟩⟩
 rcases Nat.lt_succ_iff_lt_or_eq.1 h1 with h4 | h4
 ·exact h4
 ·subst h4; rw [hk] at h2; cases h2
theorem keep_yes {l : List (List ByteArray)} {i : Nat} (h : keepF l i = true) {k : Nat} (hk : k < l.length) (hs : startsF (pAt l k) (pAt l i) = true) : ¬ (pAt l k).length < (pAt l i).length ∧ ¬ k < i := by
 have h1 := List.all_eq_true.1 h k (by simpa using hk)
 unfold coverB at h1
 rw [hs, Bool.true_and, Bool.not_eq_true', Bool.or_eq_false_iff] at h1
 have h2 := of_decide_eq_false h1.1
 have h3 := of_decide_eq_false h1.2
 omega
structure InsJ (x : List ByteArray) (m : List (List ByteArray)) (k : Nat) : Prop where
 le : k ≤ m.length
 up : ∀ j, k ≤ j → j < m.length → cmpS x (pAt m j) < 0
theorem InsJ.start (x : List ByteArray) (m : List (List ByteArray)) : InsJ x m m.length := ⟨Nat.le_refl _, fun j h1 h2 => absurd h2 (by omega)⟩
theorem InsJ.on {x : List ByteArray} {m : List (List ByteArray)} {k : Nat} (h : InsJ x m k) (hk : 0 < k) (hl : cmpS x (pAt m (k - 1)) < 0) : InsJ x m (k - 1) := by
 refine ⟨by have := h.le; omega, fun j h1 h2 => ?_⟩
 rcases Nat.lt_or_ge j k with h3 | h3
 ·rw [show j = k - 1 by omega]; exact hl
 ·exact h.up j h3 h2
theorem getD_at {m : List (List ByteArray)} {j : Nat} (h : j < m.length) : pAt m j = m[j] := by
 unfold pAt; rw [List.getD_eq_getElem?_getD, List.getElem?_eq_getElem h]; rfl
theorem le_last {m : List (List ByteArray)} (hs : m.Pairwise Le) {j k : Nat} (h : j ≤ k) (hk : k < m.length) : Le (pAt m j) (pAt m k) := by
 rcases Nat.lt_or_eq_of_le h with h1 | h1
 ·rw [getD_at hk, getD_at (show j < m.length by omega)]
  exact List.pairwise_iff_getElem.1 hs j k (by omega) hk h1
 ·subst h1; exact Le.refl _
theorem insP_sorted {x : List ByteArray} {m : List (List ByteArray)} {k : Nat} (hs : m.Pairwise Le) (h : InsJ x m k) (h0 : k = 0 ∨ ¬ cmpS x (pAt m (k - 1)) < 0) : (m.take k ++ [x] ++ m.drop k).Pairwise Le := by
 have hle := h.le
 have h1 : ∀ a ∈ m.take k, Le a x := fun a ha => by
  obtain ⟨j, hj, rfl⟩ := List.mem_iff_getElem.1 ha
  rw [List.length_take] at hj
  rcases h0 with h0 | h0
  ·omega
  ·have h2 := le_last hs (j := j) (k := k - 1) (by omega) (by omega)
   rw [List.getElem_take, ← getD_at (show j < m.length by omega)]
   exact h2.trans h0
 have h2 : ∀ b ∈ m.drop k, Le x b := fun b hb => by
  obtain ⟨j, hj, rfl⟩ := List.mem_iff_getElem.1 hb
  rw [List.length_drop] at hj
  rw [List.getElem_drop, ← getD_at (show k + j < m.length by omega)]
  have h3 := h.up (k + j) (by omega) (by omega)
  intro h4
  have h5 := cmpS_trans h3 h4
  rw [cmpS_self] at h5
  exact absurd h5 (by decide)
 have hm := hs
 rw [← List.take_append_drop k m, List.pairwise_append] at hm
 rw [List.append_assoc, List.pairwise_append]
 refine ⟨hm.1, ?_, fun a ha b hb => ?_⟩
 ·rw [List.singleton_append, List.pairwise_cons]
  exact ⟨h2, hm.2.1⟩
 ·rw [List.singleton_append, List.mem_cons] at hb
  rcases hb with rfl | hb
  ·exact h1 a ha
  ·exact hm.2.2 a ha b hb
theorem insP_perm (x : List ByteArray) (m : List (List ByteArray)) (k : Nat) : (m.take k ++ [x] ++ m.drop k).Perm (x :: m) := by
 rw [List.append_assoc, List.singleton_append]
 refine List.perm_middle.trans ?_
 rw [List.take_append_drop]
theorem NrmJ.put {l : List (List ByteArray)} {i k : Nat} {m : List (List ByteArray)} (h : NrmJ l i m) (hi : i < l.length) (hk : keepF l i = true) (hins : InsJ (pAt l i) m k) (h0 : k = 0 ∨ ¬ cmpS (pAt l i) (pAt m (k - 1)) < 0) : NrmJ l (i + 1) (m.take k ++ [pAt l i] ++ m.drop k) := by
 have hp := insP_perm (pAt l i) m k
 refine ⟨by omega, insP_sorted h.srt hins h0, hp.nodup_iff.2 (List.nodup_cons.2 ⟨fun hm => ?_, h.nd⟩), fun x => ?_, by rw [hp.length_eq, List.length_cons]; have := h.len; omega⟩
 ·obtain ⟨j, h1, h2, h3⟩ := (h.mem _).1 hm
  exact (keep_yes hk (k := j) (by omega) (by rw [h3]; exact starts_self _)).2 h1
 ·rw [hp.mem_iff, List.mem_cons, h.mem x]
  constructor
  ·rintro (rfl | ⟨j, h1, h2, h3⟩)
   ·exact ⟨i, by omega, hk, rfl⟩
   ·exact ⟨j, by omega, h2, h3⟩
  ·rintro ⟨j, h1, h2, h3⟩
   rcases Nat.lt_succ_iff_lt_or_eq.1 h1 with h4 | h4
   ·exact .inr ⟨j, h4, h2, h3⟩
   ·subst h4; exact .inl h3.symm
theorem first_of {l : List (List ByteArray)} {x : List ByteArray} (h : x ∈ l) : ∃ i, i < l.length ∧ pAt l i = x ∧ ∀ j, j < i → pAt l j ≠ x := by
 induction l with
 | nil => simp at h
 | cons y l ih =>
  by_cases he : y = x
  ·exact ⟨0, by simp, he, fun j hj => absurd hj (Nat.not_lt_zero _)⟩
  ·obtain ⟨i, h1, h2, h3⟩ := ih (by rcases List.mem_cons.1 h with h | h; exact absurd h.symm he; exact h)
   refine ⟨i + 1, by simp; omega, h2, fun j hj => ?_⟩
   rcases j with _ | j
   ·exact he
   ·exact h3 j (by omega)
theorem NrmJ.fin {l : List (List ByteArray)} {i : Nat} {m : List (List ByteArray)} (h : NrmJ l i m) (hi : i = l.length) : m = normF l := by
 subst hi
 refine List.Perm.eq_of_pairwise (le := Le) (fun a b _ _ h1 h2 => cmpS_anti h2 h1) h.srt (normF_sorted l) ?_
 rw [List.perm_ext_iff_of_nodup h.nd (norm_nodup l)]
 intro x
 rw [h.mem x, norm_iff]
 constructor
 ·rintro ⟨j, h1, h2, rfl⟩
  refine ⟨getD_mem h1 _, fun y hy hs => ?_⟩
  obtain ⟨k, hk, rfl⟩ := List.mem_iff_getElem.1 hy
  rw [← getD_at hk] at hs ⊢
  have h3 := keep_yes h2 hk hs
  exact (starts_iff.1 hs).eq_of_length_le (by omega)
 ·rintro ⟨h1, h2⟩
  obtain ⟨j, h3, h4, h5⟩ := first_of h1
  refine ⟨j, h3, ?_, h4⟩
  refine all_yes' (fun k hk => ?_)
  cases hc : coverB l j k with
  | false => rfl
  | true =>
   exfalso
   unfold coverB at hc
   rw [Bool.and_eq_true, h4] at hc
   have h6 := h2 _ (getD_mem hk (dflt .strs)) hc.1
   have h7 := hc.2
   rw [show pAt l k = x from h6] at h7
   simp at h7
   exact h5 k (by omega) h6
theorem own_can {t : Tree} (h : ownO t = true) (hk : t.kind = 7) : objM (mems t) = t := by
 have hkm := mems_k t
 have hvm := mems_v t
 obtain ⟨kind, b, n, s, k, v⟩ := t
 obtain rfl : kind = 7 := hk
 simp only [ownO, truthO, numO, ownN, textO, keysO, itemsO, Tree.kind, Tree.b, Tree.n, Tree.s, Tree.k, Tree.v, Bool.and_eq_true, decide_eq_true_eq] at h
 simp at h
 obtain ⟨hb, ⟨hn1, hn2, hn3⟩, hs, ⟨_, hl⟩, _⟩ := h
 unfold cutK at hkm
 unfold cutV at hvm
 simp only [Tree.kind, Tree.k, Tree.v, if_true] at hkm hvm
 rw [List.take_of_length_le (by omega)] at hkm hvm
 unfold objM
 rw [hkm, hvm]
 obtain ⟨neg, m, e⟩ := n
 subst hb
 simp at hn1 hn2 hn3
 subst hn1 hn2 hn3
 have hs' : s = ba [] := toList_inj (by simpa using hs)
 subst hs'
 rfl
theorem nil_row {w : World} {fz : Nat → Prop} {η : Nat → Option Value} {v : Value} (τ : Ty) (h : R w fz η v nilv) : R w fz η v (.row τ []) := by
 rw [h.lit_inv]
 exact .row none 0 τ [] (fun _ _ => .bool false) (Nat.le_refl _) (Nat.zero_le _) (fun i x h => by simp at h) (fun i x j y h => by simp at h)
def Wk : List AV → List AV → Prop
 | [], [] => True
 | a :: l, b :: m => (a = b ∨ (a = nilv ∧ ∃ τ, b = .row τ []) ∨ ∃ l', a = .agg l' ∧ ∃ m', b = .agg m' ∧ Wk1 l' m') ∧ Wk l m
 | _, _ => False
where Wk1 : List AV → List AV → Prop
 | [], [] => True
 | a :: l, b :: m => (a = b ∨ (a = nilv ∧ ∃ τ, b = .row τ [])) ∧ Wk1 l m
 | _, _ => False
theorem wk1_len : ∀ {l m : List AV}, Wk.Wk1 l m → l.length = m.length
 | [], [], _ => rfl
 | _ :: _, _ :: _, h => by simp [wk1_len h.2]
theorem wk_len : ∀ {l m : List AV}, Wk l m → l.length = m.length
 | [], [], _ => rfl
 | _ :: _, _ :: _, h => by simp [wk_len h.2]
theorem wk1_at : ∀ {l m : List AV} {j : Nat} {b : AV}, Wk.Wk1 l m → m[j]? = some b → ∃ a, l[j]? = some a ∧ (a = b ∨ (a = nilv ∧ ∃ τ, b = .row τ []))
 | [], [], _, _, _, hb => by simp at hb
 | a :: l, b :: m, 0, _, h, hb => by
  simp only [List.getElem?_cons_zero, Option.some.injEq] at hb
  subst hb
  exact ⟨a, rfl, h.1⟩
 | a :: l, b :: m, j + 1, _, h, hb => by simpa using wk1_at h.2 (by simpa using hb)
theorem wk_at : ∀ {l m : List AV} {j : Nat} {b : AV}, Wk l m → m[j]? = some b → ∃ a, l[j]? = some a ∧ (a = b ∨ (a = nilv ∧ ∃ τ, b = .row τ []) ∨ ∃ l', a = .agg l' ∧ ∃ m', b = .agg m' ∧ Wk.Wk1 l' m')
 | [], [], _, _, _, hb => by simp at hb
 | a :: l, b :: m, 0, _, h, hb => by
  simp only [List.getElem?_cons_zero, Option.some.injEq] at hb
  subst hb
  exact ⟨a, rfl, h.1⟩
 | a :: l, b :: m, j + 1, _, h, hb => by simpa using wk_at h.2 (by simpa using hb)
theorem wk_R {w : World} {fz : Nat → Prop} {η : Nat → Option Value} {v : Value} {a b : AV} (hR : R w fz η v a) (h : a = b ∨ (a = nilv ∧ ∃ τ, b = .row τ []) ∨ ∃ l', a = .agg l' ∧ ∃ m', b = .agg m' ∧ Wk.Wk1 l' m') : R w fz η v b := by
 rcases h with rfl | ⟨rfl, τ, rfl⟩ | ⟨l', rfl, m', rfl, hw⟩
 ·exact hR
 ·exact nil_row τ hR
 ·obtain ⟨vs, rfl, hl, hel⟩ := hR.agg_inv
  refine .agg vs m' (by rw [hl, wk1_len hw]) (fun j v b hv hb => ?_)
  obtain ⟨a, ha, hab⟩ := wk1_at hw hb
  have := hel j v a hv ha
  rcases hab with rfl | ⟨rfl, τ, rfl⟩
  ·exact this
  ·exact nil_row τ this
theorem Con.told {P : Program} {I : World → Prop} {f : FuncId} {args args' : List AV} {out : COut} (h : Con P I f args' out) (hw : Wk args args') : Con P I f args out := fun w fz vs hI hf hR => by
 refine h w fz vs hI hf ⟨by rw [hR.1, wk_len hw], fun j v b hv hb => ?_⟩
 obtain ⟨a, ha, hab⟩ := wk_at hw hb
 exact wk_R (hR.2 j v a hv ha) hab
def awT : Tree := .mk 7 false ⟨false, [], 0⟩ (ba []) [ba [97]] [.mk 7 false ⟨false, [], 0⟩ (ba []) [ba [98], ba [99]] [.mk 2 false ⟨false, [], 0⟩ (ba []) [] [], .mk 1 false ⟨false, [], 0⟩ (ba []) [] []]]
def awV : Tree := .mk 7 false ⟨false, [], 0⟩ (ba []) [] []
def awR : Tree := .mk 7 false ⟨false, [], 0⟩ (ba []) [ba [97]] [.mk 7 false ⟨false, [], 0⟩ (ba []) [ba [99]] [.mk 1 false ⟨false, [], 0⟩ (ba []) [] []]]
theorem fine_leaf {t : Tree} (h : Ok t.n.m ∧ t.n.m.length < 1000000000 ∧ t.k.length < 1000000000 ∧ t.v.length < 1000000000) (h2 : fineL t.v) : fineT t := (fine_eq t).2 ⟨h, h2⟩
theorem fine_awT : fineT awT := fine_leaf ⟨Ok.nil, by decide, by decide, by decide⟩ ⟨fine_leaf ⟨Ok.nil, by decide, by decide, by decide⟩ ⟨fine_leaf ⟨Ok.nil, by decide, by decide, by decide⟩ trivial, fine_leaf ⟨Ok.nil, by decide, by decide, by decide⟩ trivial, trivial⟩, trivial⟩
theorem fine_awV : fineT awV := fine_leaf ⟨Ok.nil, by decide, by decide, by decide⟩ trivial
theorem aw_norm : normF [[ba [97], ba [98]]] = [[ba [97], ba [98]]] := norm_keep (List.pairwise_singleton _ _) (List.pairwise_singleton _ _)
theorem aw_apply : applyF awT [[ba [97], ba [98]]] (normF [[ba [97], ba [98]]]) awV 100 = (awR, 0) := by rw [aw_norm]; kernel_rfl
theorem con26W : Con Tryz.prog I0 26 [.agg [vi 7, vb false, vb false, nilv, vi 0, vs (ba []), .row .str [ba [97]], .row .tree awT.v], .row .strs [[ba [97], ba [98]]], .agg [vi 7, vb false, vb false, nilv, vi 0, vs (ba []), nilv, nilv], vi 100] (.val (.tup [.agg [vi 7, vb false, vb false, .row (.int .u32) [], vi 0, vs (ba []), .row .str [ba [97]], .row .tree awR.v], vi 0])) := by
 have h := con26 awT awV [[ba [97], ba [98]]] 100 fine_awT fine_awV (smalls_of (by kernel_rfl)) (by decide)
 rw [aw_apply] at h
 exact Con.told h ⟨.inr (.inr ⟨_, rfl, _, rfl, .inl rfl, .inl rfl, .inl rfl, .inr ⟨rfl, _, rfl⟩, .inl rfl, .inl rfl, .inl rfl, .inl rfl, trivial⟩), .inl rfl, .inr (.inr ⟨_, rfl, _, rfl, .inl rfl, .inl rfl, .inl rfl, .inr ⟨rfl, _, rfl⟩, .inl rfl, .inl rfl, .inr ⟨rfl, _, rfl⟩, .inr ⟨rfl, _, rfl⟩, trivial⟩), .inl rfl, trivial⟩
theorem con37t : Con Tryz.prog I0 37 [vs (ba [95, 97, 49])] (.val (vb true)) := by
 have h := con37 (ba [95, 97, 49]) (by decide)
 rw [show nameF (ba [95, 97, 49]) = true by kernel_rfl] at h
 exact h
theorem con37f : Con Tryz.prog I0 37 [vs (ba [49, 97])] (.val (vb false)) := by
 have h := con37 (ba [49, 97]) (by decide)
 rw [show nameF (ba [49, 97]) = false by kernel_rfl] at h
 exact h
theorem con23  : Con Tryz.prog I0 23 [] (.val (vb true)) := by
 refine con_of Tryz.func23 rfl (Nat.le_of_ble_eq_true rfl) stab (fun w0 fz a hI hs => ?_)
 refine wL hs hI [(2, ⟨[(7, ciA 26 [.agg [vi 7, vb false, vb false, nilv, vi 0, vs (ba []), .row .str ([(ba [97])]), .row .tree ([(Tree.mk 7 false ⟨false, [], 0⟩ (ba []) ([(ba [98]), (ba [99])]) ([(Tree.mk 2 false ⟨false, [], 0⟩ (ba []) ([]) ([])), (Tree.mk 1 false ⟨false, [], 0⟩ (ba []) ([]) ([]))]))])], .row .strs ([[(ba [97]), (ba [98])]]), .agg [vi 7, vb false, vb false, nilv, vi 0, vs (ba []), nilv, nilv], vi 100] [] [3000, 3002, 3005] (.val (.tup [.agg [vi 7, vb false, vb false, .row (.int .u32) ([]), vi 0, vs (ba []), .row .str ([(ba [97])]), .row .tree ([(Tree.mk 7 false ⟨false, [], 0⟩ (ba []) ([(ba [99])]) ([(Tree.mk 1 false ⟨false, [], 0⟩ (ba []) ([]) ([]))]))])], vi 0])))], [], []⟩), (3, ⟨[(28, ciA 37 [vs (ba [95, 97, 49])] [] [] (.val (vb true))), (31, ciA 37 [vs (ba [49, 97])] [] [] (.val (vb false)))], gg [3, 4, 5, 6, 1007, 9, 10, 11, 12, 13, 14, 15, 1016, 18, 19, 20, 21, 22, 23, 24, 25, 1026, 28, 1029, 31, 32, 1033] [], []⟩)] [] [0] [] ((True ∧ True) ∧ ((tr 7 True) ∧ (tr 7 ((okArgs [.agg [vi 7, vb false, vb false, nilv, vi 0, vs (ba []), .row .str ([(ba [97])]), .row .tree ([(Tree.mk 7 false ⟨false, [], 0⟩ (ba []) ([(ba [98]), (ba [99])]) ([(Tree.mk 2 false ⟨false, [], 0⟩ (ba []) ([]) ([])), (Tree.mk 1 false ⟨false, [], 0⟩ (ba []) ([]) ([]))]))])], .row .strs ([[(ba [97]), (ba [98])]]), .agg [vi 7, vb false, vb false, nilv, vi 0, vs (ba []), nilv, nilv], vi 100]) ∧ (tr 6 True))) ∧ (tr 3 ((true = true) ∧ True ∧ (true = true) ∧ True ∧ (true = true) ∧ True ∧ (true = true) ∧ True ∧ (true = true) ∧ True ∧ (true = true) ∧ True ∧ (true = true) ∧ True ∧ (true = true) ∧ ((0 : Int) ≤ 0 ∧ (0 : Int) < ((1 : Nat) : Int)) ∧ (true = true) ∧ True ∧ (true = true) ∧ True ∧ (true = true) ∧ True ∧ (true = true) ∧ True ∧ (true = true) ∧ True ∧ (true = true) ∧ True ∧ (true = true) ∧ True ∧ (true = true) ∧ ((0 : Int) ≤ 0 ∧ (0 : Int) < ((1 : Nat) : Int)) ∧ (true = true) ∧ True ∧ (true = true) ∧ True ∧ (true = true) ∧ ((0 : Int) ≤ 0 ∧ (0 : Int) < ((1 : Nat) : Int)) ∧ (true = true) ∧ True ∧ (true = true) ∧ True ∧ (true = true) ∧ True ∧ (true = true) ∧ (okArgs [vs (ba [95, 97, 49])]) ∧ (true = true) ∧ True ∧ (true = true) ∧ (okArgs [vs (ba [49, 97])]) ∧ (true = true) ∧ True ∧ (true = true) ∧ True ∧ True)) ∧ True)) .ret [(0, vb true)] [] ⟨⟨⟨ent26, con26W⟩, tv⟩, ⟨⟨⟨ent37, con37t⟩, ⟨⟨ent37, con37f⟩, tv⟩⟩, tv⟩⟩ (by kernel_rfl) ⟨⟨tv, tv⟩, tr_mk tv 7, tr_mk (⟨rfl, tr_mk tv 6⟩) 7, tr_mk (⟨rfl, tv, rfl, tv, rfl, tv, rfl, tv, rfl, tv, rfl, tv, rfl, tv, rfl, (by decide), rfl, tv, rfl, tv, rfl, tv, rfl, tv, rfl, tv, rfl, tv, rfl, tv, rfl, (by decide), rfl, tv, rfl, tv, rfl, (by decide), rfl, tv, rfl, tv, rfl, tv, rfl, rfl, rfl, tv, rfl, rfl, rfl, tv, rfl, tv, tv⟩) 3, tv⟩ (fun a w hs => ?_)
 exact FnQ_cast (out := .val (vb true)) (rfl) (ret_ok [] hs ⟨by kernel_rfl, rfl⟩)
def delB (b : Nat) (B : BL) : BL := B.filter fun p => !(p.1 == b)
theorem lkp_delB (b : Nat) : ∀ (B : BL) (c : Nat), lkp (delB b B) c = if c = b then none else lkp B c
 | [], c => by simp [delB, lkp]
 | (k, X) :: B, c => by
  have ih := lkp_delB b B c
  unfold delB at ih ⊢
  by_cases hk : k = b
  ·subst hk
   rw [List.filter_cons_of_neg (by simp), ih]
   simp only [lkp]
   by_cases hc : c = k
   ·simp [hc]
   ·simp [hc]
  ·rw [List.filter_cons_of_pos (by simpa using hk)]
   simp only [lkp, ih]
   by_cases hc : c = k
   ·subst hc; simp [hk]
   ·simp [hc]
section
variable {N : Nat} {w0 : World} {T : TL} {B : BL} {a : Act} {w : World}
theorem SimL.letgo {ow : Own} (hs : SimL N w0 ow T B a w) (t b : Nat) (e : TypeId) (τ : Ty) (xs : List (El τ)) (ht : lkp T t = some (.own b)) (hb : lkp B b = some (.sl e τ xs)) : SimL N w0 ow ((t, .row τ xs) :: T) (delB b B) a w := by
 obtain ⟨η, s⟩ := hs
 have s2 := s.drop [b]
 have hb2 : updB (lkp B) [b] [] = lkp (delB b B) := by
  funext c
  rw [lkp_delB]
  simp only [updB, lkp, List.contains_cons, List.contains_nil, Bool.or_false, beq_iff_eq]
 rw [hb2] at s2
 obtain ⟨v, hv, hR⟩ := s.tmp t _ ht
 have h2 := R_frz1 s hR [b]
 simp only [frz1, List.contains_cons, List.contains_nil, Bool.or_false, beq_self_eq_true, if_true, hb] at h2
 refine ⟨_, s2.size, s2.nod, s2.frame, fun t' av h => ?_, s2.dom, s2.new, s2.apart, s2.pin, s2.pinlt⟩
 simp only [lkp] at h
 split at h
 ·rename_i he
  simp only [Option.some.injEq] at h
  subst h he
  exact ⟨v, hv, h2⟩
 ·exact s2.tmp t' av h
end
theorem con43 (l : List (List ByteArray)) (hl : l.length < 1000000) (hp : ∀ p ∈ l, p.length < 1000000) : Con Tryz.prog I0 43 [.row .strs l] (.val (.row .strs (normF l))) := by
 refine con_of Tryz.func43 rfl (Nat.le_of_ble_eq_true rfl) stab (fun w0 fz a hI hs => ?_)
 refine wp_seq ?_
 refine wN hs hI [] [0] [] (True ∧ True) .norm [(0, .row .strs l)] [] (by kernel_rfl) ⟨tv, tv⟩ (fun a w hs => ?_)
 refine then_norm ?_
 refine wp_seq ?_
 refine wN hs hI [] [0, 3] [] (True ∧ True) .norm [(0, .row .strs l), (3, nilv)] [] (by kernel_rfl) ⟨tv, tv⟩ (fun a w hs => ?_)
 refine then_norm ?_
 refine wp_seq ?_
 refine wp_seq ?_
 refine wN hs hI [] [0, 3, 4] [] (True ∧ True) .norm [(0, .row .strs l), (3, nilv), (4, vi 0)] [] (by kernel_rfl) ⟨tv, tv⟩ (fun a w hs => ?_)
 refine then_norm ?_
 refine wp_block ?_
 refine loop_L (N := Tryz.f43.ntmps) (w0 := w0) (ow := noO fz) (α := Nat × List (List ByteArray)) (fun p => [(0, .row .strs l), (3, .row .strs p.2), (4, vi ((p.1 : Nat) : Int))]) (fun p => []) (fun p => NrmJ l p.1 p.2) (fun p => l.length - p.1) (0, []) ?_ ?_ ?_
 ·exact NrmJ.start l
 ·(have hs := (hs.nil 10000005 3 26 .strs (by kernel_rfl) (by decide) (by kernel_rfl) (by kernel_rfl)).rmT [(0, .row .strs l), (3, .own 10000005), (4, vi 0)] [(10000005, .sl 26 .strs ([]))] [(10000005, 10000005)] (by kernel_rfl); have hs := (hs.letgo 3 10000005 26 .strs ([]) (by kernel_rfl) (by kernel_rfl)).rmT [(0, .row .strs l), (3, .row .strs ([])), (4, vi 0)] [] [] (by kernel_rfl); exact (hs.cst [(0, .row .strs l), (3, .row .strs ([])), (4, vi ((0 : Nat) : Int))] [] rfl).rm [] (by kernel_rfl))
 rintro ⟨i, m⟩ hJ a w hs
 try dsimp only at hJ
 have hN := hJ
 clear hJ
 have hNl := hN.len
 have hNi := hN.le
 have hpi : i < l.length → (l.getD i (dflt .strs)).length < 1000000 := fun h => hp _ (getD_mem h _)
 refine wp_seq ?_
 rcases bt (decide ((i : Int) < (l.length : Int))) with b1 | b1
 ·skip
  have n1 := of_decide_eq_true b1
  refine wN hs hI [true] [0, 3, 4] [] ((tr 4 True) ∧ ((ty b1) ∧ True)) .norm [(0, .row .strs l), (3, .row .strs m), (4, vi (i : Int))] [] (by kernel_rfl) ⟨tr_mk tv 4, b1, tv⟩ (fun a w hs => ?_)
  refine then_norm ?_
  refine wp_seq ?_
  refine wp_block ?_
  refine wp_seq ?_
  refine wN hs hI [] [0, 3, 4, 5] [] (True ∧ True) .norm [(0, .row .strs l), (3, .row .strs m), (4, vi (i : Int)), (5, vb true)] [] (by kernel_rfl) ⟨tv, tv⟩ (fun a w hs => ?_)
  refine then_norm ?_
  refine wp_seq ?_
  refine wp_seq ?_
  refine wN hs hI [] [0, 3, 4, 5, 6] [] (True ∧ True) .norm [(0, .row .strs l), (3, .row .strs m), (4, vi (i : Int)), (5, vb true), (6, vi 0)] [] (by kernel_rfl) ⟨tv, tv⟩ (fun a w hs => ?_)
  refine then_norm ?_
  refine wp_block ?_
  refine loop_L (N := Tryz.f43.ntmps) (w0 := w0) (ow := noO fz) (α := Nat) (fun p => [(0, .row .strs l), (3, .row .strs m), (4, vi (i : Int)), (5, vb (keepTo l i p)), (6, vi (p : Int))]) (fun p => []) (fun p => p ≤ l.length) (fun p => l.length - p) 0 ?_ ?_ ?_
  ·exact Nat.zero_le _
  ·exact (hs.cst [(0, .row .strs l), (3, .row .strs m), (4, vi (i : Int)), (5, vb (keepTo l i 0)), (6, vi ((0 : Nat) : Int))] [] rfl).rm [] (by kernel_rfl)
  rintro k hJ a w hs
  have hkl := hJ
  clear hJ
  rcases bt (decide ((k : Int) < (l.length : Int))) with b2 | b2
  ·skip
   have n2 := of_decide_eq_true b2
   rcases bt (startsF (l.getD k (dflt .strs)) (l.getD i (dflt .strs))) with b3 | b3
   ·skip
    rcases bt (decide (((l.getD k (dflt .strs)).length : Int) < ((l.getD i (dflt .strs)).length : Int))) with b4 | b4
    ·skip
     have n4 := of_decide_eq_true b4
     refine wL hs hI [(9, ⟨[(8, ciA 93 [.row .str (l.getD k (dflt .strs)), .row .str (l.getD i (dflt .strs))] [] [] (.val (vb (startsF (l.getD k (dflt .strs)) (l.getD i (dflt .strs))))))], gg [10, 11, 12, 13, 14, 15, 16, 17, 18, 19, 20, 21, 25, 1025, 1026] [22, 23, 24], []⟩)] [true, true] [0, 3, 4, 5, 6] [] (((tr 4 True) ∧ (ty b2) ∧ True) ∧ (((True ∧ True ∧ (0 ≤ (k : Int) ∧ (k : Int) < l.length) ∧ (tr 3 ((0 ≤ (i : Int) ∧ (i : Int) < l.length) ∧ True ∧ (okArgs [.row .str (l.getD k (dflt .strs)), .row .str (l.getD i (dflt .strs))]) ∧ True ∧ ((ty b3) ∧ True) ∧ ((ty b3) ∧ True) ∧ ((ty b3) ∧ 0 ≤ (k : Int) ∧ (k : Int) < l.length) ∧ ((ty b3) ∧ True) ∧ ((ty b3) ∧ True) ∧ ((ty b3) ∧ True) ∧ ((ty b3) ∧ True) ∧ ((ty b3) ∧ 0 ≤ (i : Int) ∧ (i : Int) < l.length) ∧ ((ty b3) ∧ True) ∧ ((ty b3) ∧ True) ∧ ((ty b3) ∧ True) ∧ ((ty b3) ∧ True) ∧ (ty b4) ∧ (ty b4) ∧ (ty b4) ∧ ((ty b3) ∧ (ty b4)) ∧ (ty b3) ∧ True))) ∧ (true = true) ∧ True ∧ True) ∧ True ∧ (InR .i64 ((k : Int) + 1)) ∧ True ∧ True)) .norm [(0, .row .strs l), (3, .row .strs m), (4, vi (i : Int)), (5, vb false), (6, vi ((k : Int) + 1))] [] ⟨⟨⟨ent93, con93 _ _ (by have := hp _ (getD_mem (l := l) (i := k) (by omega) (dflt .strs)); omega) (by have := hp _ (getD_mem (l := l) (i := i) (by omega) (dflt .strs)); omega)⟩, tv⟩, tv⟩ (by kernel_rfl) ⟨⟨tr_mk tv 4, b2, tv⟩, ⟨⟨tv, tv, (by omega), tr_mk (⟨(by omega), tv, rfl, tv, ⟨b3, tv⟩, ⟨b3, tv⟩, ⟨b3, (by omega)⟩, ⟨b3, tv⟩, ⟨b3, tv⟩, ⟨b3, tv⟩, ⟨b3, tv⟩, ⟨b3, (by omega)⟩, ⟨b3, tv⟩, ⟨b3, tv⟩, ⟨b3, tv⟩, ⟨b3, tv⟩, b4, b4, b4, ⟨b3, b4⟩, b3, tv⟩) 3⟩, rfl, tv, tv⟩, tv, (inR64 (by omega) (by omega)), tv, tv⟩ (fun a w hs => ?_)
     refine then_norm ⟨k + 1, by omega, by omega, ?_⟩
     (have e0_ : (false) = (keepTo l i (k + 1)) := (by first | rfl | (first | omega | (rw [keepTo_succ, show coverB l i k = true from by first | (simp only [coverB, pAt, b3, b4]; done) | (simp only [coverB, pAt, b3, b4]; rfl)]; simp))); have e1_ : ((k : Int) + 1) = ((((k + 1) : Nat) : Int)) := (by first | rfl | (first | omega | (rw [keepTo_succ, show coverB l i k = true from by first | (simp only [coverB, pAt, b3, b4]; done) | (simp only [coverB, pAt, b3, b4]; rfl)]; simp))); exact (hs.cst [(0, .row .strs l), (3, .row .strs m), (4, vi (i : Int)), (5, vb (keepTo l i (k + 1))), (6, vi (((k + 1) : Nat) : Int))] [] (by first | rfl | (rw [e0_, e1_]; done) | (simp only [e0_, e1_]; done) | (simp only [e0_, e1_]; rfl))).rm [] (by kernel_rfl))
    ·skip
     have n4 := of_decide_eq_false b4
     rcases bt (decide ((k : Int) < (i : Int))) with b5 | b5
     ·skip
      have n5 := of_decide_eq_true b5
      refine wL hs hI [(9, ⟨[(8, ciA 93 [.row .str (l.getD k (dflt .strs)), .row .str (l.getD i (dflt .strs))] [] [] (.val (vb (startsF (l.getD k (dflt .strs)) (l.getD i (dflt .strs))))))], gg [10, 11, 12, 13, 14, 15, 16, 17, 18, 19, 20, 21, 22, 23, 24, 25, 1026] [1025], []⟩)] [true, true] [0, 3, 4, 5, 6] [] (((tr 4 True) ∧ (ty b2) ∧ True) ∧ (((True ∧ True ∧ (0 ≤ (k : Int) ∧ (k : Int) < l.length) ∧ (tr 3 ((0 ≤ (i : Int) ∧ (i : Int) < l.length) ∧ True ∧ (okArgs [.row .str (l.getD k (dflt .strs)), .row .str (l.getD i (dflt .strs))]) ∧ True ∧ ((ty b3) ∧ True) ∧ ((ty b3) ∧ True) ∧ ((ty b3) ∧ 0 ≤ (k : Int) ∧ (k : Int) < l.length) ∧ ((ty b3) ∧ True) ∧ ((ty b3) ∧ True) ∧ ((ty b3) ∧ True) ∧ ((ty b3) ∧ True) ∧ ((ty b3) ∧ 0 ≤ (i : Int) ∧ (i : Int) < l.length) ∧ ((ty b3) ∧ True) ∧ ((ty b3) ∧ True) ∧ ((ty b3) ∧ True) ∧ ((ty b3) ∧ True) ∧ ((ty b4) ∧ True) ∧ ((ty b4) ∧ True) ∧ ((ty b4) ∧ True) ∧ ((ty b3) ∧ (ty b4)) ∧ (ty b3) ∧ True))) ∧ (ty b5) ∧ True ∧ True) ∧ True ∧ (InR .i64 ((k : Int) + 1)) ∧ True ∧ True)) .norm [(0, .row .strs l), (3, .row .strs m), (4, vi (i : Int)), (5, vb false), (6, vi ((k : Int) + 1))] [] ⟨⟨⟨ent93, con93 _ _ (by have := hp _ (getD_mem (l := l) (i := k) (by omega) (dflt .strs)); omega) (by have := hp _ (getD_mem (l := l) (i := i) (by omega) (dflt .strs)); omega)⟩, tv⟩, tv⟩ (by kernel_rfl) ⟨⟨tr_mk tv 4, b2, tv⟩, ⟨⟨tv, tv, (by omega), tr_mk (⟨(by omega), tv, rfl, tv, ⟨b3, tv⟩, ⟨b3, tv⟩, ⟨b3, (by omega)⟩, ⟨b3, tv⟩, ⟨b3, tv⟩, ⟨b3, tv⟩, ⟨b3, tv⟩, ⟨b3, (by omega)⟩, ⟨b3, tv⟩, ⟨b3, tv⟩, ⟨b3, tv⟩, ⟨b3, tv⟩, ⟨b4, tv⟩, ⟨b4, tv⟩, ⟨b4, tv⟩, ⟨b3, b4⟩, b3, tv⟩) 3⟩, b5, tv, tv⟩, tv, (inR64 (by omega) (by omega)), tv, tv⟩ (fun a w hs => ?_)
      refine then_norm ⟨k + 1, by omega, by omega, ?_⟩
      (have e0_ : (false) = (keepTo l i (k + 1)) := (by first | rfl | (first | omega | (rw [keepTo_succ, show coverB l i k = true from by first | (simp only [coverB, pAt, b3, b4, b5]; done) | (simp only [coverB, pAt, b3, b4, b5]; rfl)]; simp))); have e1_ : ((k : Int) + 1) = ((((k + 1) : Nat) : Int)) := (by first | rfl | (first | omega | (rw [keepTo_succ, show coverB l i k = true from by first | (simp only [coverB, pAt, b3, b4, b5]; done) | (simp only [coverB, pAt, b3, b4, b5]; rfl)]; simp))); exact (hs.cst [(0, .row .strs l), (3, .row .strs m), (4, vi (i : Int)), (5, vb (keepTo l i (k + 1))), (6, vi (((k + 1) : Nat) : Int))] [] (by first | rfl | (rw [e0_, e1_]; done) | (simp only [e0_, e1_]; done) | (simp only [e0_, e1_]; rfl))).rm [] (by kernel_rfl))
     ·skip
      have n5 := of_decide_eq_false b5
      refine wL hs hI [(9, ⟨[(8, ciA 93 [.row .str (l.getD k (dflt .strs)), .row .str (l.getD i (dflt .strs))] [] [] (.val (vb (startsF (l.getD k (dflt .strs)) (l.getD i (dflt .strs))))))], gg [10, 11, 12, 13, 14, 15, 16, 17, 18, 19, 20, 21, 22, 23, 24, 25, 1026] [1025], []⟩)] [true, false] [0, 3, 4, 5, 6] [] (((tr 4 True) ∧ (ty b2) ∧ True) ∧ (((True ∧ True ∧ (0 ≤ (k : Int) ∧ (k : Int) < l.length) ∧ (tr 3 ((0 ≤ (i : Int) ∧ (i : Int) < l.length) ∧ True ∧ (okArgs [.row .str (l.getD k (dflt .strs)), .row .str (l.getD i (dflt .strs))]) ∧ True ∧ ((ty b3) ∧ True) ∧ ((ty b3) ∧ True) ∧ ((ty b3) ∧ 0 ≤ (k : Int) ∧ (k : Int) < l.length) ∧ ((ty b3) ∧ True) ∧ ((ty b3) ∧ True) ∧ ((ty b3) ∧ True) ∧ ((ty b3) ∧ True) ∧ ((ty b3) ∧ 0 ≤ (i : Int) ∧ (i : Int) < l.length) ∧ ((ty b3) ∧ True) ∧ ((ty b3) ∧ True) ∧ ((ty b3) ∧ True) ∧ ((ty b3) ∧ True) ∧ ((ty b4) ∧ True) ∧ ((ty b4) ∧ True) ∧ ((ty b4) ∧ True) ∧ ((ty b3) ∧ (ty b4)) ∧ (ty b3) ∧ True))) ∧ (ty b5) ∧ True) ∧ True ∧ (InR .i64 ((k : Int) + 1)) ∧ True ∧ True)) .norm [(0, .row .strs l), (3, .row .strs m), (4, vi (i : Int)), (5, vb (keepTo l i k)), (6, vi ((k : Int) + 1))] [] ⟨⟨⟨ent93, con93 _ _ (by have := hp _ (getD_mem (l := l) (i := k) (by omega) (dflt .strs)); omega) (by have := hp _ (getD_mem (l := l) (i := i) (by omega) (dflt .strs)); omega)⟩, tv⟩, tv⟩ (by kernel_rfl) ⟨⟨tr_mk tv 4, b2, tv⟩, ⟨⟨tv, tv, (by omega), tr_mk (⟨(by omega), tv, rfl, tv, ⟨b3, tv⟩, ⟨b3, tv⟩, ⟨b3, (by omega)⟩, ⟨b3, tv⟩, ⟨b3, tv⟩, ⟨b3, tv⟩, ⟨b3, tv⟩, ⟨b3, (by omega)⟩, ⟨b3, tv⟩, ⟨b3, tv⟩, ⟨b3, tv⟩, ⟨b3, tv⟩, ⟨b4, tv⟩, ⟨b4, tv⟩, ⟨b4, tv⟩, ⟨b3, b4⟩, b3, tv⟩) 3⟩, b5, tv⟩, tv, (inR64 (by omega) (by omega)), tv, tv⟩ (fun a w hs => ?_)
      refine then_norm ⟨k + 1, by omega, by omega, ?_⟩
      (have e0_ : (keepTo l i k) = (keepTo l i (k + 1)) := (by first | rfl | (first | omega | (rw [keepTo_succ, show coverB l i k = false from by first | (simp only [coverB, pAt, b3, b4, b5]; done) | (simp only [coverB, pAt, b3, b4, b5]; rfl)]; simp))); have e1_ : ((k : Int) + 1) = ((((k + 1) : Nat) : Int)) := (by first | rfl | (first | omega | (rw [keepTo_succ, show coverB l i k = false from by first | (simp only [coverB, pAt, b3, b4, b5]; done) | (simp only [coverB, pAt, b3, b4, b5]; rfl)]; simp))); exact (hs.cst [(0, .row .strs l), (3, .row .strs m), (4, vi (i : Int)), (5, vb (keepTo l i (k + 1))), (6, vi (((k + 1) : Nat) : Int))] [] (by first | rfl | (rw [e0_, e1_]; done) | (simp only [e0_, e1_]; done) | (simp only [e0_, e1_]; rfl))).rm [] (by kernel_rfl))
   ·skip
    refine wL hs hI [(9, ⟨[(8, ciA 93 [.row .str (l.getD k (dflt .strs)), .row .str (l.getD i (dflt .strs))] [] [] (.val (vb (startsF (l.getD k (dflt .strs)) (l.getD i (dflt .strs))))))], gg [] [10, 11, 12, 13, 14, 15, 16, 17, 18, 19, 20, 21, 25, 1026], []⟩)] [true, false] [0, 3, 4, 5, 6] [] (((tr 4 True) ∧ (ty b2) ∧ True) ∧ (((True ∧ True ∧ (0 ≤ (k : Int) ∧ (k : Int) < l.length) ∧ (tr 3 ((0 ≤ (i : Int) ∧ (i : Int) < l.length) ∧ True ∧ (okArgs [.row .str (l.getD k (dflt .strs)), .row .str (l.getD i (dflt .strs))]) ∧ True ∧ (ty b3) ∧ (ty b3) ∧ (ty b3) ∧ (ty b3) ∧ (ty b3) ∧ (ty b3) ∧ (ty b3) ∧ (ty b3) ∧ (ty b3) ∧ (ty b3) ∧ (ty b3) ∧ (ty b3) ∧ (tr 3 ((ty b3) ∧ (ty b3) ∧ True))))) ∧ (false = false) ∧ True) ∧ True ∧ (InR .i64 ((k : Int) + 1)) ∧ True ∧ True)) .norm [(0, .row .strs l), (3, .row .strs m), (4, vi (i : Int)), (5, vb (keepTo l i k)), (6, vi ((k : Int) + 1))] [] ⟨⟨⟨ent93, con93 _ _ (by have := hp _ (getD_mem (l := l) (i := k) (by omega) (dflt .strs)); omega) (by have := hp _ (getD_mem (l := l) (i := i) (by omega) (dflt .strs)); omega)⟩, tv⟩, tv⟩ (by kernel_rfl) ⟨⟨tr_mk tv 4, b2, tv⟩, ⟨⟨tv, tv, (by omega), tr_mk (⟨(by omega), tv, rfl, tv, b3, b3, b3, b3, b3, b3, b3, b3, b3, b3, b3, b3, tr_mk (⟨b3, b3, tv⟩) 3⟩) 3⟩, rfl, tv⟩, tv, (inR64 (by omega) (by omega)), tv, tv⟩ (fun a w hs => ?_)
    refine then_norm ⟨k + 1, by omega, by omega, ?_⟩
    (have e0_ : (keepTo l i k) = (keepTo l i (k + 1)) := (by first | rfl | (first | omega | (rw [keepTo_succ, show coverB l i k = false from by first | (simp only [coverB, pAt, b3]; done) | (simp only [coverB, pAt, b3]; rfl)]; simp))); have e1_ : ((k : Int) + 1) = ((((k + 1) : Nat) : Int)) := (by first | rfl | (first | omega | (rw [keepTo_succ, show coverB l i k = false from by first | (simp only [coverB, pAt, b3]; done) | (simp only [coverB, pAt, b3]; rfl)]; simp))); exact (hs.cst [(0, .row .strs l), (3, .row .strs m), (4, vi (i : Int)), (5, vb (keepTo l i (k + 1))), (6, vi (((k + 1) : Nat) : Int))] [] (by first | rfl | (rw [e0_, e1_]; done) | (simp only [e0_, e1_]; done) | (simp only [e0_, e1_]; rfl))).rm [] (by kernel_rfl))
  ·skip
   have n2 := of_decide_eq_false b2
   refine wN hs hI [false] [0, 3, 4, 5] [] ((tr 4 True) ∧ ((ty b2) ∧ True)) (.exit 2) [(0, .row .strs l), (3, .row .strs m), (4, vi (i : Int)), (5, vb (keepTo l i k))] [] (by kernel_rfl) ⟨tr_mk tv 4, b2, tv⟩ (fun a w hs => ?_)
   refine then_exit ?_
   refine inb_hit ?_
   refine then_norm ?_
   refine wp_seq ?_
   rcases bt (keepTo l i k) with b6 | b6
   ·skip
    refine wN hs hI [false] [0, 3, 4] [] ((True ∧ True ∧ True) ∧ ((ty (ng1 b6)) ∧ True)) .norm [(0, .row .strs l), (3, .row .strs m), (4, vi (i : Int))] [] (by kernel_rfl) ⟨⟨tv, tv, tv⟩, (ng1 b6), tv⟩ (fun a w hs => ?_)
    refine then_norm ?_
    refine wp_seq ?_
    refine wN hs hI [] [0, 3, 4, 7] [] (tr 3 True) .norm [(0, .row .strs l), (3, .row .strs m), (4, vi (i : Int)), (7, vi (m.length : Int))] [] (by kernel_rfl) (tr_mk tv 3) (fun a w hs => ?_)
    refine then_norm ?_
    refine wp_seq ?_
    refine wp_block ?_
    refine loop_L (N := Tryz.f43.ntmps) (w0 := w0) (ow := noO fz) (α := Nat) (fun p => [(0, .row .strs l), (3, .row .strs m), (4, vi (i : Int)), (7, vi (p : Int))]) (fun p => []) (fun p => InsJ (pAt l i) m p) (fun p => p) m.length ?_ ?_ ?_
    ·exact InsJ.start _ _
    ·exact (hs.cst [(0, .row .strs l), (3, .row .strs m), (4, vi (i : Int)), (7, vi ((m.length : Nat) : Int))] [] rfl).rm [] (by kernel_rfl)
    rintro q hJ a w hs
    have hins := hJ
    clear hJ
    have hil := hins.le
    rcases bt (decide ((q : Int) > 0)) with b7 | b7
    ·skip
     have n7 := of_decide_eq_true b7
     rcases bt (decide (cmpS (l.getD i (dflt .strs)) (m.getD (((q : Int) - 1).toNat) (dflt .strs)) < 0)) with b8 | b8
     ·skip
      have n8 := of_decide_eq_true b8
      refine wL hs hI [(13, ⟨[(12, ciA 94 [.row .str (l.getD i (dflt .strs)), .row .str (m.getD (((q : Int) - 1).toNat) (dflt .strs))] [] [] (.val (vb (decide (cmpS (l.getD i (dflt .strs)) (m.getD (((q : Int) - 1).toNat) (dflt .strs)) < 0)))))], gg [3, 4, 5, 6, 7, 8, 9, 10, 11, 12, 1013] [], []⟩)] [true] [0, 3, 4, 7] [] (((tr 3 (((ty b7) ∧ True) ∧ ((ty b7) ∧ True) ∧ ((ty b7) ∧ 0 ≤ (i : Int) ∧ (i : Int) < l.length) ∧ ((ty b7) ∧ True) ∧ ((ty b7) ∧ True) ∧ ((ty b7) ∧ True) ∧ ((ty b7) ∧ (InR .i64 ((q : Int) - 1))) ∧ ((ty b7) ∧ 0 ≤ ((q : Int) - 1) ∧ ((q : Int) - 1) < m.length) ∧ ((ty b7) ∧ True) ∧ ((ty b7) ∧ (okArgs [.row .str (l.getD i (dflt .strs)), .row .str (m.getD (((q : Int) - 1).toNat) (dflt .strs))])) ∧ (ty b7) ∧ True)) ∧ (ty b8) ∧ True) ∧ (True ∧ (InR .i64 ((q : Int) - 1)) ∧ True ∧ True)) .norm [(0, .row .strs l), (3, .row .strs m), (4, vi (i : Int)), (7, vi ((q : Int) - 1))] [] ⟨⟨⟨ent94, con94 _ _ (by omega)⟩, tv⟩, tv⟩ (by kernel_rfl) ⟨⟨tr_mk (⟨⟨b7, tv⟩, ⟨b7, tv⟩, ⟨b7, (by omega)⟩, ⟨b7, tv⟩, ⟨b7, tv⟩, ⟨b7, tv⟩, ⟨b7, (inR64 (by omega) (by omega))⟩, ⟨b7, (by omega)⟩, ⟨b7, tv⟩, ⟨b7, rfl⟩, b7, tv⟩) 3, b8, tv⟩, tv, (inR64 (by omega) (by omega)), tv, tv⟩ (fun a w hs => ?_)
      refine then_norm ⟨q - 1, hins.on (by omega) (by have := of_decide_eq_true b8; rwa [show ((q : Int) - 1).toNat = q - 1 by omega] at this), by omega, ?_⟩
      (have e0_ : ((q : Int) - 1) = ((((q - 1) : Nat) : Int)) := (by first | rfl | (omega)); exact (hs.cst [(0, .row .strs l), (3, .row .strs m), (4, vi (i : Int)), (7, vi (((q - 1) : Nat) : Int))] [] (by first | rfl | (rw [e0_]; done) | (simp only [e0_]; done) | (simp only [e0_]; rfl))).rm [] (by kernel_rfl))
     ·skip
      have n8 := of_decide_eq_false b8
      refine wL hs hI [(13, ⟨[(12, ciA 94 [.row .str (l.getD i (dflt .strs)), .row .str (m.getD (((q : Int) - 1).toNat) (dflt .strs))] [] [] (.val (vb (decide (cmpS (l.getD i (dflt .strs)) (m.getD (((q : Int) - 1).toNat) (dflt .strs)) < 0)))))], gg [3, 4, 5, 6, 7, 8, 9, 10, 11, 12, 1013] [], []⟩)] [false] [0, 3, 4, 7] [] ((tr 3 (((ty b7) ∧ True) ∧ ((ty b7) ∧ True) ∧ ((ty b7) ∧ 0 ≤ (i : Int) ∧ (i : Int) < l.length) ∧ ((ty b7) ∧ True) ∧ ((ty b7) ∧ True) ∧ ((ty b7) ∧ True) ∧ ((ty b7) ∧ (InR .i64 ((q : Int) - 1))) ∧ ((ty b7) ∧ 0 ≤ ((q : Int) - 1) ∧ ((q : Int) - 1) < m.length) ∧ ((ty b7) ∧ True) ∧ ((ty b7) ∧ (okArgs [.row .str (l.getD i (dflt .strs)), .row .str (m.getD (((q : Int) - 1).toNat) (dflt .strs))])) ∧ (ty b7) ∧ True)) ∧ ((ty b8) ∧ True)) (.exit 4) [(0, .row .strs l), (3, .row .strs m), (4, vi (i : Int)), (7, vi (q : Int))] [] ⟨⟨⟨ent94, con94 _ _ (by omega)⟩, tv⟩, tv⟩ (by kernel_rfl) ⟨tr_mk (⟨⟨b7, tv⟩, ⟨b7, tv⟩, ⟨b7, (by omega)⟩, ⟨b7, tv⟩, ⟨b7, tv⟩, ⟨b7, tv⟩, ⟨b7, (inR64 (by omega) (by omega))⟩, ⟨b7, (by omega)⟩, ⟨b7, tv⟩, ⟨b7, rfl⟩, b7, tv⟩) 3, b8, tv⟩ (fun a w hs => ?_)
      refine then_exit ?_
      refine inb_hit ?_
      refine then_norm ?_
      refine wN hs hI [] [0, 3, 4] [17011] ((True ∧ True ∧ (0 ≤ (0 : Int) ∧ (0 : Int) ≤ (q : Int) ∧ (q : Int) ≤ (m.length : Int) ∧ (m.length : Int) ≤ (m.length : Int)) ∧ (((m.take q).length * 24 : Nat) ≤ 140737488355328 ∧ (m.take q).length ≤ 140737488355328) ∧ True ∧ True) ∧ (tr 3 ((0 ≤ (i : Int) ∧ (i : Int) < l.length) ∧ True ∧ (((l.getD i (dflt .strs)).length * 16 : Nat) ≤ 140737488355328 ∧ (l.getD i (dflt .strs)).length ≤ 140737488355328) ∧ True ∧ ((((m.take q).length + 1) * 24 : Nat) ≤ 140737488355328 ∧ (m.take q).length + 1 ≤ 140737488355328) ∧ True ∧ True ∧ (0 ≤ (q : Int) ∧ (q : Int) ≤ (m.length : Int) ∧ (m.length : Int) ≤ (m.length : Int) ∧ (m.length : Int) ≤ (m.length : Int)) ∧ (((((m.take q) ++ ([(l.getD i (dflt .strs))])).length + (m.drop q).length) * 24 : Nat) ≤ 140737488355328 ∧ ((m.take q) ++ ([(l.getD i (dflt .strs))])).length + (m.drop q).length ≤ 140737488355328) ∧ True ∧ True))) .norm [(0, .row .strs l), (3, .own 17011), (4, vi (i : Int))] [(17011, .sl 26 .strs (((m.take q) ++ ([(l.getD i (dflt .strs))])) ++ (m.drop q)))] (by kernel_rfl) ⟨⟨tv, tv, (by (repeat' apply And.intro) <;> (try split) <;> omega), (by skip; (try simp only [List.length_append, List.length_take, List.length_drop, List.length_cons, List.length_nil]); omega), tv, tv⟩, tr_mk (⟨(by omega), tv, (by skip; (try simp only [List.length_append, List.length_take, List.length_drop, List.length_cons, List.length_nil]); omega), tv, (by skip; (try simp only [List.length_append, List.length_take, List.length_drop, List.length_cons, List.length_nil]); omega), tv, tv, (by (repeat' apply And.intro) <;> (try split) <;> omega), (by skip; (try simp only [List.length_append, List.length_take, List.length_drop, List.length_cons, List.length_nil]); omega), tv, tv⟩) 3⟩ (fun a w hs => ?_)
      refine inb_norm ?_
      refine then_norm ?_
      refine wN hs hI [] [0, 3, 4] [17011] (True ∧ ((InR .i64 ((i : Int) + 1)) ∧ True ∧ True)) .norm [(0, .row .strs l), (3, .own 17011), (4, vi ((i : Int) + 1))] [(17011, .sl 26 .strs (((m.take q) ++ ([(l.getD i (dflt .strs))])) ++ (m.drop q)))] (by kernel_rfl) ⟨tv, (inR64 (by omega) (by omega)), tv, tv⟩ (fun a w hs => ?_)
      refine then_norm ⟨(i + 1, ((m.take q) ++ ([(l.getD i (dflt .strs))])) ++ (m.drop q)), hN.put (by omega) (by rw [← keepTo_end (k := k) (by omega)]; exact b6) hins (.inr (by have := of_decide_eq_false b8; rwa [show ((q : Int) - 1).toNat = q - 1 by omega] at this)), by omega, ?_⟩
      (have hs := (hs.letgo 3 17011 26 .strs (((m.take q) ++ ([(l.getD i (dflt .strs))])) ++ (m.drop q)) (by kernel_rfl) (by kernel_rfl)).rmT [(0, .row .strs l), (3, .row .strs (((m.take q) ++ ([(l.getD i (dflt .strs))])) ++ (m.drop q))), (4, vi ((i : Int) + 1))] [] [] (by kernel_rfl); have e0_ : (((m.take q) ++ ([(l.getD i (dflt .strs))])) ++ (m.drop q)) = ((((m.take q) ++ ([(l.getD i (dflt .strs))])) ++ (m.drop q))) := (by first | rfl | (first | rfl | omega)); have e1_ : ((i : Int) + 1) = ((((i + 1) : Nat) : Int)) := (by first | rfl | (first | rfl | omega)); exact (hs.cst [(0, .row .strs l), (3, .row .strs (((m.take q) ++ ([(l.getD i (dflt .strs))])) ++ (m.drop q))), (4, vi (((i + 1) : Nat) : Int))] [] (by first | rfl | (rw [e0_, e1_]; done) | (simp only [e0_, e1_]; done) | (simp only [e0_, e1_]; rfl))).rm [] (by kernel_rfl))
    ·skip
     have n7 := of_decide_eq_false b7
     refine wL hs hI [(13, ⟨[], gg [] [3, 4, 5, 6, 7, 8, 9, 10, 11, 12, 1013], []⟩)] [false] [0, 3, 4, 7] [] ((tr 3 ((ty b7) ∧ (ty b7) ∧ (ty b7) ∧ (ty b7) ∧ (ty b7) ∧ (ty b7) ∧ (ty b7) ∧ (ty b7) ∧ (ty b7) ∧ (ty b7) ∧ (ty b7) ∧ True)) ∧ ((false = false) ∧ True)) (.exit 4) [(0, .row .strs l), (3, .row .strs m), (4, vi (i : Int)), (7, vi (q : Int))] [] ⟨tv, tv⟩ (by kernel_rfl) ⟨tr_mk (⟨b7, b7, b7, b7, b7, b7, b7, b7, b7, b7, b7, tv⟩) 3, rfl, tv⟩ (fun a w hs => ?_)
     refine then_exit ?_
     refine inb_hit ?_
     refine then_norm ?_
     refine wN hs hI [] [0, 3, 4] [17011] ((True ∧ True ∧ (0 ≤ (0 : Int) ∧ (0 : Int) ≤ (q : Int) ∧ (q : Int) ≤ (m.length : Int) ∧ (m.length : Int) ≤ (m.length : Int)) ∧ (((m.take q).length * 24 : Nat) ≤ 140737488355328 ∧ (m.take q).length ≤ 140737488355328) ∧ True ∧ True) ∧ (tr 3 ((0 ≤ (i : Int) ∧ (i : Int) < l.length) ∧ True ∧ (((l.getD i (dflt .strs)).length * 16 : Nat) ≤ 140737488355328 ∧ (l.getD i (dflt .strs)).length ≤ 140737488355328) ∧ True ∧ ((((m.take q).length + 1) * 24 : Nat) ≤ 140737488355328 ∧ (m.take q).length + 1 ≤ 140737488355328) ∧ True ∧ True ∧ (0 ≤ (q : Int) ∧ (q : Int) ≤ (m.length : Int) ∧ (m.length : Int) ≤ (m.length : Int) ∧ (m.length : Int) ≤ (m.length : Int)) ∧ (((((m.take q) ++ ([(l.getD i (dflt .strs))])).length + (m.drop q).length) * 24 : Nat) ≤ 140737488355328 ∧ ((m.take q) ++ ([(l.getD i (dflt .strs))])).length + (m.drop q).length ≤ 140737488355328) ∧ True ∧ True))) .norm [(0, .row .strs l), (3, .own 17011), (4, vi (i : Int))] [(17011, .sl 26 .strs (((m.take q) ++ ([(l.getD i (dflt .strs))])) ++ (m.drop q)))] (by kernel_rfl) ⟨⟨tv, tv, (by (repeat' apply And.intro) <;> (try split) <;> omega), (by skip; (try simp only [List.length_append, List.length_take, List.length_drop, List.length_cons, List.length_nil]); omega), tv, tv⟩, tr_mk (⟨(by omega), tv, (by skip; (try simp only [List.length_append, List.length_take, List.length_drop, List.length_cons, List.length_nil]); omega), tv, (by skip; (try simp only [List.length_append, List.length_take, List.length_drop, List.length_cons, List.length_nil]); omega), tv, tv, (by (repeat' apply And.intro) <;> (try split) <;> omega), (by skip; (try simp only [List.length_append, List.length_take, List.length_drop, List.length_cons, List.length_nil]); omega), tv, tv⟩) 3⟩ (fun a w hs => ?_)
     refine inb_norm ?_
     refine then_norm ?_
     refine wN hs hI [] [0, 3, 4] [17011] (True ∧ ((InR .i64 ((i : Int) + 1)) ∧ True ∧ True)) .norm [(0, .row .strs l), (3, .own 17011), (4, vi ((i : Int) + 1))] [(17011, .sl 26 .strs (((m.take q) ++ ([(l.getD i (dflt .strs))])) ++ (m.drop q)))] (by kernel_rfl) ⟨tv, (inR64 (by omega) (by omega)), tv, tv⟩ (fun a w hs => ?_)
     refine then_norm ⟨(i + 1, ((m.take q) ++ ([(l.getD i (dflt .strs))])) ++ (m.drop q)), hN.put (by omega) (by rw [← keepTo_end (k := k) (by omega)]; exact b6) hins (.inl (by omega)), by omega, ?_⟩
     (have hs := (hs.letgo 3 17011 26 .strs (((m.take q) ++ ([(l.getD i (dflt .strs))])) ++ (m.drop q)) (by kernel_rfl) (by kernel_rfl)).rmT [(0, .row .strs l), (3, .row .strs (((m.take q) ++ ([(l.getD i (dflt .strs))])) ++ (m.drop q))), (4, vi ((i : Int) + 1))] [] [] (by kernel_rfl); have e0_ : (((m.take q) ++ ([(l.getD i (dflt .strs))])) ++ (m.drop q)) = ((((m.take q) ++ ([(l.getD i (dflt .strs))])) ++ (m.drop q))) := (by first | rfl | (first | rfl | omega)); have e1_ : ((i : Int) + 1) = ((((i + 1) : Nat) : Int)) := (by first | rfl | (first | rfl | omega)); exact (hs.cst [(0, .row .strs l), (3, .row .strs (((m.take q) ++ ([(l.getD i (dflt .strs))])) ++ (m.drop q))), (4, vi (((i + 1) : Nat) : Int))] [] (by first | rfl | (rw [e0_, e1_]; done) | (simp only [e0_, e1_]; done) | (simp only [e0_, e1_]; rfl))).rm [] (by kernel_rfl))
   ·skip
    refine wN hs hI [true] [0, 3, 4] [] ((True ∧ True ∧ True) ∧ ((ty (ng0 b6)) ∧ True)) (.exit 1) [(0, .row .strs l), (3, .row .strs m), (4, vi (i : Int))] [] (by kernel_rfl) ⟨⟨tv, tv, tv⟩, (ng0 b6), tv⟩ (fun a w hs => ?_)
    refine then_exit ?_
    refine inb_hit ?_
    refine then_norm ?_
    refine wN hs hI [] [0, 3, 4] [] (True ∧ ((InR .i64 ((i : Int) + 1)) ∧ True ∧ True)) .norm [(0, .row .strs l), (3, .row .strs m), (4, vi ((i : Int) + 1))] [] (by kernel_rfl) ⟨tv, (inR64 (by omega) (by omega)), tv, tv⟩ (fun a w hs => ?_)
    refine then_norm ⟨(i + 1, m), hN.skip (by omega) (by rw [← keepTo_end (k := k) (by omega)]; exact b6), by omega, ?_⟩
    (have e0_ : ((i : Int) + 1) = ((((i + 1) : Nat) : Int)) := (by first | rfl | (omega)); exact (hs.cst [(0, .row .strs l), (3, .row .strs m), (4, vi (((i + 1) : Nat) : Int))] [] (by first | rfl | (rw [e0_]; done) | (simp only [e0_]; done) | (simp only [e0_]; rfl))).rm [] (by kernel_rfl))
 ·skip
  have n1 := of_decide_eq_false b1
  refine wN hs hI [false] [3] [] ((tr 4 True) ∧ ((ty b1) ∧ True)) (.exit 0) [(3, .row .strs m)] [] (by kernel_rfl) ⟨tr_mk tv 4, b1, tv⟩ (fun a w hs => ?_)
  refine then_exit ?_
  refine then_exit ?_
  refine inb_hit ?_
  refine then_norm ?_
  refine wN hs hI [] [2] [] ((True ∧ True ∧ True) ∧ True) .ret [(2, .row .strs m)] [] (by kernel_rfl) ⟨⟨tv, tv, tv⟩, tv⟩ (fun a w hs => ?_)
  exact FnQ_cast (out := .val (.row .strs m)) (by rw [hN.fin (by omega)]) (ret_ok [] hs ⟨by kernel_rfl, rfl⟩)
end Go.Proofs.YtondpnipoogoiaaGreatDoor.F
