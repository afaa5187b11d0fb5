import Derived.Test.YtondpnipoogoiaaGreatDoorQ4
namespace Go.Proofs.YtondpnipoogoiaaGreatDoor.F
open Go Go.RowKit Go.Proofs.Tryz
set_option linter.unusedVariables false
set_option linter.unusedSimpArgs false

def nameOk (s : ByteArray) (i : Nat) : Bool :=
  ((decide (bitsOr .u8 (byteAt s (i : Int)) 32 ≥ 97) && decide (bitsOr .u8 (byteAt s (i : Int)) 32 ≤ 122)) || byteAt s (i : Int) == 95) || (!((i : Int) == 0) && (!decide (byteAt s (i : Int) < 48) && !decide (byteAt s (i : Int) > 57)))
def nameF (s : ByteArray) : Bool := (List.range s.size).all (nameOk s) && (decide (s.size ≠ 0) && decide ((s.size : Int) ≤ 2000))
theorem all_no {n : Nat} {q : Nat → Bool} {i : Nat} (h : i < n) (hn : q i = false) : (List.range n).all q = false := List.all_eq_false.2 ⟨i, by simpa using h, by simp [hn]⟩
theorem nameF_no {s : ByteArray} {i : Nat} (h : i < s.size) (hn : nameOk s i = false) : nameF s = false := by
  have : (List.range s.size).all (nameOk s) = false := List.all_eq_false.2 ⟨i, by simpa using h, by simp [hn]⟩
  simp [nameF, this]
theorem nameF_yes {s : ByteArray} (h : ∀ j, j < s.size → nameOk s j = true) : nameF s = (decide (s.size ≠ 0) && decide ((s.size : Int) ≤ 2000)) := by
  have : (List.range s.size).all (nameOk s) = true := List.all_eq_true.2 (fun j hj => h j (by simpa using hj))
  simp [nameF, this]
theorem ba_nil_ne (s : ByteArray) : (!(s.toList == (ba []).toList)) = decide (s.size ≠ 0) := by
  have h1 : (ba []).toList = [] := by rw [Lib.toList_data]
  have h2 : s.toList = s.data.toList := Lib.toList_data s
  have h3 := Lib.size_eq s
  rw [h1, h2, h3]
  cases s.data.toList with
  | nil => rfl
  | cons x l => rfl

set_option maxRecDepth 100000 in
theorem con37 (s : ByteArray) (hs0 : s.size < 4294967281) : Con Tryz.prog I0 37 [vs s] (.val (vb (nameF s))) := by
  refine con_of Tryz.func37 rfl (Nat.le_of_ble_eq_true rfl) stab (fun w0 fz a hI hs => ?_)
  refine wp_seq ?_
  refine way_L (tt := tt) (rs := []) (bs := []) (tk := [0]) (bk := []) (C := (True) ∧ (True)) (lv := .norm) (T' := [(0, vs s)]) (B' := []) mix hI hs ?_ ?_ ?_ ?_
  · exact trivial
  · kernel_rfl
  · exact ⟨trivial, trivial⟩
  intro a w hs
  refine then_norm ?_
  refine wp_seq ?_
  refine wp_seq ?_
  refine way_L (tt := tt) (rs := []) (bs := []) (tk := [0, 7, 8]) (bk := []) (C := tr 3 (True)) (lv := .norm) (T' := [(0, vs s), (7, vi (s.size : Int)), (8, vi 0)]) (B' := []) mix hI hs ?_ ?_ ?_ ?_
  · exact trivial
  · kernel_rfl
  · exact tr_mk (trivial) 3
  intro a w hs
  refine then_norm ?_
  refine wp_block ?_
  refine loop_L (N := Tryz.f37.ntmps) (w0 := w0) (ow := noO fz) (α := Nat) (fun p => [(0, vs s), (7, vi (s.size : Int)), (8, vi ((p : Nat) : Int))]) (fun p => []) (fun p => p ≤ s.size ∧ ∀ j, j < p → nameOk s j = true) (fun p => s.size - p) 0 ?_ ?_ ?_
  · exact ⟨Nat.zero_le _, fun j hj => absurd hj (Nat.not_lt_zero _)⟩
  · (have e0_ : (0) = (((0 : Nat) : Int)) := (by first | rfl | (rfl)); exact (SimL.cast hs (T' := [(0, vs s), (7, vi (s.size : Int)), (8, vi ((0 : Nat) : Int))]) (B' := []) (by first | rfl | (rw [e0_]; done) | (simp only [e0_]; done) | (simp only [e0_]; rfl)) (by first | rfl | (rw [e0_]; done) | (simp only [e0_]; done) | (simp only [e0_]; rfl))).ren [] (by kernel_rfl) (by kernel_rfl) (by kernel_rfl))
  rintro i hJ a w hs
  obtain ⟨hi, hall⟩ := hJ
  rcases Bool.eq_false_or_eq_true (decide (((i : Nat) : Int) < (s.size : Int))) with b1 | b1
  · skip
    have n1 := of_decide_eq_true b1
    rcases Bool.eq_false_or_eq_true (decide ((bitsOr .u8 (byteAt s ((i : Nat) : Int)) 32) ≥ 97)) with b2 | b2
    · skip
      have n2 := of_decide_eq_true b2
      rcases Bool.eq_false_or_eq_true (decide ((bitsOr .u8 (byteAt s ((i : Nat) : Int)) 32) ≤ 122)) with b3 | b3
      · skip
        have n3 := of_decide_eq_true b3
        refine way_L (tt := tt) (rs := [(5, ⟨[], [(3, true), (4, true), (1005, true), (7, false), (8, false), (9, false), (10, false), (1011, true)], []⟩), (6, ⟨[], [(3, false), (4, false), (5, false), (10, false), (11, false), (16, false), (1017, false)], []⟩)]) (bs := [true, false]) (tk := [0, 7, 8]) (bk := []) (C := ((True) ∧ (True)) ∧ ((((decide (((i : Nat) : Int) < (s.size : Int))) = true) ∧ (True)) ∧ ((((True) ∧ ((True) ∧ (True))) ∧ (((True) ∧ ((True) ∧ ((0 ≤ ((i : Nat) : Int) ∧ ((i : Nat) : Int) < s.size) ∧ ((True) ∧ ((True) ∧ (True)))))) ∧ ((tr 3 (((decide ((bitsOr .u8 (byteAt s ((i : Nat) : Int)) 32) ≥ 97)) = true) ∧ ((True) ∧ (((decide ((bitsOr .u8 (byteAt s ((i : Nat) : Int)) 32) ≥ 97)) = true) ∧ ((True) ∧ (((decide ((bitsOr .u8 (byteAt s ((i : Nat) : Int)) 32) ≥ 97)) = true) ∧ ((True) ∧ (((decide ((bitsOr .u8 (byteAt s ((i : Nat) : Int)) 32) ≤ 122)) = true) ∧ (((decide ((bitsOr .u8 (byteAt s ((i : Nat) : Int)) 32) ≤ 122)) = true) ∧ (((decide ((bitsOr .u8 (byteAt s ((i : Nat) : Int)) 32) ≤ 122)) = true) ∧ (((decide ((bitsOr .u8 (byteAt s ((i : Nat) : Int)) 32) ≤ 122)) = true) ∧ (((decide ((bitsOr .u8 (byteAt s ((i : Nat) : Int)) 32) ≤ 122)) = true) ∧ ((True) ∧ (True)))))))))))))) ∧ ((tr 3 ((false = false) ∧ ((false = false) ∧ ((false = false) ∧ (tr 4 ((false = false) ∧ ((false = false) ∧ (tr 4 ((false = false) ∧ ((false = false) ∧ (True))))))))))) ∧ ((false = false) ∧ (True)))))) ∧ ((InR .i64 (((i : Nat) : Int) + 1)) ∧ ((True) ∧ (True)))))) (lv := .norm) (T' := [(0, vs s), (7, vi (s.size : Int)), (8, vi (((i : Nat) : Int) + 1))]) (B' := []) mix hI hs ?_ ?_ ?_ ?_
        · exact ⟨trivial, ⟨trivial, trivial⟩⟩
        · kernel_rfl
        · exact ⟨⟨trivial, trivial⟩, ⟨⟨b1, trivial⟩, ⟨⟨⟨trivial, ⟨trivial, trivial⟩⟩, ⟨⟨trivial, ⟨trivial, ⟨⟨by omega, by omega⟩, ⟨trivial, ⟨trivial, trivial⟩⟩⟩⟩⟩, ⟨tr_mk (⟨b2, ⟨trivial, ⟨b2, ⟨trivial, ⟨b2, ⟨trivial, ⟨b3, ⟨b3, ⟨b3, ⟨b3, ⟨b3, ⟨trivial, trivial⟩⟩⟩⟩⟩⟩⟩⟩⟩⟩⟩⟩) 3, ⟨tr_mk (⟨rfl, ⟨rfl, ⟨rfl, tr_mk (⟨rfl, ⟨rfl, tr_mk (⟨rfl, ⟨rfl, trivial⟩⟩) 4⟩⟩) 4⟩⟩⟩) 3, ⟨rfl, trivial⟩⟩⟩⟩⟩, ⟨(inR64 (by omega) (by omega)), ⟨trivial, trivial⟩⟩⟩⟩⟩
        intro a w hs
        refine then_norm ⟨i + 1, ⟨by omega, fun j hj => by rcases Nat.lt_succ_iff_lt_or_eq.1 hj with h | rfl; exact hall j h; simp only [nameOk, b1, b2, b3]; rfl⟩, by omega, ?_⟩
        (have e0_ : (((i : Nat) : Int) + 1) = ((((i + 1) : Nat) : Int)) := (by first | rfl | (omega)); exact (SimL.cast hs (T' := [(0, vs s), (7, vi (s.size : Int)), (8, vi (((i + 1) : Nat) : Int))]) (B' := []) (by first | rfl | (rw [e0_]; done) | (simp only [e0_]; done) | (simp only [e0_]; rfl)) (by first | rfl | (rw [e0_]; done) | (simp only [e0_]; done) | (simp only [e0_]; rfl))).ren [] (by kernel_rfl) (by kernel_rfl) (by kernel_rfl))
      · skip
        have n3 := of_decide_eq_false b3
        rcases Bool.eq_false_or_eq_true ((byteAt s ((i : Nat) : Int)) == 95) with b4 | b4
        · skip
          have n4 := eq_of_beq b4
          refine way_L (tt := tt) (rs := [(5, ⟨[], [(3, true), (4, true), (1005, true), (7, true), (8, true), (9, true), (10, true), (1011, false)], []⟩), (6, ⟨[], [(3, false), (4, false), (5, false), (10, false), (11, false), (16, false), (1017, false)], []⟩)]) (bs := [true, false]) (tk := [0, 7, 8]) (bk := []) (C := ((True) ∧ (True)) ∧ ((((decide (((i : Nat) : Int) < (s.size : Int))) = true) ∧ (True)) ∧ ((((True) ∧ ((True) ∧ (True))) ∧ (((True) ∧ ((True) ∧ ((0 ≤ ((i : Nat) : Int) ∧ ((i : Nat) : Int) < s.size) ∧ ((True) ∧ ((True) ∧ (True)))))) ∧ ((tr 3 (((decide ((bitsOr .u8 (byteAt s ((i : Nat) : Int)) 32) ≥ 97)) = true) ∧ ((True) ∧ (((decide ((bitsOr .u8 (byteAt s ((i : Nat) : Int)) 32) ≥ 97)) = true) ∧ ((True) ∧ (((decide ((bitsOr .u8 (byteAt s ((i : Nat) : Int)) 32) ≥ 97)) = true) ∧ ((True) ∧ (((decide ((bitsOr .u8 (byteAt s ((i : Nat) : Int)) 32) ≤ 122)) = false) ∧ ((True) ∧ (((decide ((bitsOr .u8 (byteAt s ((i : Nat) : Int)) 32) ≤ 122)) = false) ∧ ((True) ∧ (((decide ((bitsOr .u8 (byteAt s ((i : Nat) : Int)) 32) ≤ 122)) = false) ∧ ((0 ≤ ((i : Nat) : Int) ∧ ((i : Nat) : Int) < s.size) ∧ (((decide ((bitsOr .u8 (byteAt s ((i : Nat) : Int)) 32) ≤ 122)) = false) ∧ ((True) ∧ (((decide ((bitsOr .u8 (byteAt s ((i : Nat) : Int)) 32) ≤ 122)) = false) ∧ ((True) ∧ (True)))))))))))))))))) ∧ ((tr 3 (((!((byteAt s ((i : Nat) : Int)) == 95)) = false) ∧ (((!((byteAt s ((i : Nat) : Int)) == 95)) = false) ∧ (((!((byteAt s ((i : Nat) : Int)) == 95)) = false) ∧ (tr 4 (((!((byteAt s ((i : Nat) : Int)) == 95)) = false) ∧ (((!((byteAt s ((i : Nat) : Int)) == 95)) = false) ∧ (tr 4 (((!((byteAt s ((i : Nat) : Int)) == 95)) = false) ∧ (((!((byteAt s ((i : Nat) : Int)) == 95)) = false) ∧ (True))))))))))) ∧ ((false = false) ∧ (True)))))) ∧ ((InR .i64 (((i : Nat) : Int) + 1)) ∧ ((True) ∧ (True)))))) (lv := .norm) (T' := [(0, vs s), (7, vi (s.size : Int)), (8, vi (((i : Nat) : Int) + 1))]) (B' := []) mix hI hs ?_ ?_ ?_ ?_
          · exact ⟨trivial, ⟨trivial, trivial⟩⟩
          · kernel_rfl
          · exact ⟨⟨trivial, trivial⟩, ⟨⟨b1, trivial⟩, ⟨⟨⟨trivial, ⟨trivial, trivial⟩⟩, ⟨⟨trivial, ⟨trivial, ⟨⟨by omega, by omega⟩, ⟨trivial, ⟨trivial, trivial⟩⟩⟩⟩⟩, ⟨tr_mk (⟨b2, ⟨trivial, ⟨b2, ⟨trivial, ⟨b2, ⟨trivial, ⟨b3, ⟨trivial, ⟨b3, ⟨trivial, ⟨b3, ⟨⟨by omega, by omega⟩, ⟨b3, ⟨trivial, ⟨b3, ⟨trivial, trivial⟩⟩⟩⟩⟩⟩⟩⟩⟩⟩⟩⟩⟩⟩⟩⟩) 3, ⟨tr_mk (⟨(by rw [b4]; rfl), ⟨(by rw [b4]; rfl), ⟨(by rw [b4]; rfl), tr_mk (⟨(by rw [b4]; rfl), ⟨(by rw [b4]; rfl), tr_mk (⟨(by rw [b4]; rfl), ⟨(by rw [b4]; rfl), trivial⟩⟩) 4⟩⟩) 4⟩⟩⟩) 3, ⟨rfl, trivial⟩⟩⟩⟩⟩, ⟨(inR64 (by omega) (by omega)), ⟨trivial, trivial⟩⟩⟩⟩⟩
          intro a w hs
          refine then_norm ⟨i + 1, ⟨by omega, fun j hj => by rcases Nat.lt_succ_iff_lt_or_eq.1 hj with h | rfl; exact hall j h; simp only [nameOk, b1, b2, b3, b4]; rfl⟩, by omega, ?_⟩
          (have e0_ : (((i : Nat) : Int) + 1) = ((((i + 1) : Nat) : Int)) := (by first | rfl | (omega)); exact (SimL.cast hs (T' := [(0, vs s), (7, vi (s.size : Int)), (8, vi (((i + 1) : Nat) : Int))]) (B' := []) (by first | rfl | (rw [e0_]; done) | (simp only [e0_]; done) | (simp only [e0_]; rfl)) (by first | rfl | (rw [e0_]; done) | (simp only [e0_]; done) | (simp only [e0_]; rfl))).ren [] (by kernel_rfl) (by kernel_rfl) (by kernel_rfl))
        · skip
          have n4 := beq_eq_false_iff_ne.1 b4
          rcases Bool.eq_false_or_eq_true (((i : Nat) : Int) == 0) with b5 | b5
          · skip
            have n5 := eq_of_beq b5
            refine way_L (tt := tt) (rs := [(5, ⟨[], [(3, true), (4, true), (1005, true), (7, true), (8, true), (9, true), (10, true), (1011, false)], []⟩), (6, ⟨[], [(3, true), (4, true), (5, true), (6, false), (7, false), (8, false), (9, false), (10, true), (1010, true), (11, true), (12, false), (13, false), (14, false), (15, false), (16, true), (1016, true), (1017, true)], []⟩)]) (bs := [true, true]) (tk := [2]) (bk := []) (C := ((True) ∧ (True)) ∧ ((((decide (((i : Nat) : Int) < (s.size : Int))) = true) ∧ (True)) ∧ (((True) ∧ ((True) ∧ (True))) ∧ (((True) ∧ ((True) ∧ ((0 ≤ ((i : Nat) : Int) ∧ ((i : Nat) : Int) < s.size) ∧ ((True) ∧ ((True) ∧ (True)))))) ∧ ((tr 3 (((decide ((bitsOr .u8 (byteAt s ((i : Nat) : Int)) 32) ≥ 97)) = true) ∧ ((True) ∧ (((decide ((bitsOr .u8 (byteAt s ((i : Nat) : Int)) 32) ≥ 97)) = true) ∧ ((True) ∧ (((decide ((bitsOr .u8 (byteAt s ((i : Nat) : Int)) 32) ≥ 97)) = true) ∧ ((True) ∧ (((decide ((bitsOr .u8 (byteAt s ((i : Nat) : Int)) 32) ≤ 122)) = false) ∧ ((True) ∧ (((decide ((bitsOr .u8 (byteAt s ((i : Nat) : Int)) 32) ≤ 122)) = false) ∧ ((True) ∧ (((decide ((bitsOr .u8 (byteAt s ((i : Nat) : Int)) 32) ≤ 122)) = false) ∧ ((0 ≤ ((i : Nat) : Int) ∧ ((i : Nat) : Int) < s.size) ∧ (((decide ((bitsOr .u8 (byteAt s ((i : Nat) : Int)) 32) ≤ 122)) = false) ∧ ((True) ∧ (((decide ((bitsOr .u8 (byteAt s ((i : Nat) : Int)) 32) ≤ 122)) = false) ∧ ((True) ∧ (True)))))))))))))))))) ∧ ((tr 3 (((!((byteAt s ((i : Nat) : Int)) == 95)) = true) ∧ ((True) ∧ (((!((byteAt s ((i : Nat) : Int)) == 95)) = true) ∧ ((True) ∧ (((!((byteAt s ((i : Nat) : Int)) == 95)) = true) ∧ ((True) ∧ (((((i : Nat) : Int) == 0) = true) ∧ (((((i : Nat) : Int) == 0) = true) ∧ (((((i : Nat) : Int) == 0) = true) ∧ (((((i : Nat) : Int) == 0) = true) ∧ (((!((byteAt s ((i : Nat) : Int)) == 95)) = true) ∧ (((((i : Nat) : Int) == 0) = true) ∧ (((!((byteAt s ((i : Nat) : Int)) == 95)) = true) ∧ ((True) ∧ ((true = true) ∧ ((true = true) ∧ ((true = true) ∧ ((true = true) ∧ (((!((byteAt s ((i : Nat) : Int)) == 95)) = true) ∧ ((true = true) ∧ (((!((byteAt s ((i : Nat) : Int)) == 95)) = true) ∧ (True))))))))))))))))))))))) ∧ ((true = true) ∧ (((True) ∧ (True)) ∧ (True))))))))) (lv := .ret) (T' := [(2, vb false)]) (B' := []) mix hI hs ?_ ?_ ?_ ?_
            · exact ⟨trivial, ⟨trivial, trivial⟩⟩
            · kernel_rfl
            · exact ⟨⟨trivial, trivial⟩, ⟨⟨b1, trivial⟩, ⟨⟨trivial, ⟨trivial, trivial⟩⟩, ⟨⟨trivial, ⟨trivial, ⟨⟨by omega, by omega⟩, ⟨trivial, ⟨trivial, trivial⟩⟩⟩⟩⟩, ⟨tr_mk (⟨b2, ⟨trivial, ⟨b2, ⟨trivial, ⟨b2, ⟨trivial, ⟨b3, ⟨trivial, ⟨b3, ⟨trivial, ⟨b3, ⟨⟨by omega, by omega⟩, ⟨b3, ⟨trivial, ⟨b3, ⟨trivial, trivial⟩⟩⟩⟩⟩⟩⟩⟩⟩⟩⟩⟩⟩⟩⟩⟩) 3, ⟨tr_mk (⟨(by rw [b4]; rfl), ⟨trivial, ⟨(by rw [b4]; rfl), ⟨trivial, ⟨(by rw [b4]; rfl), ⟨trivial, ⟨b5, ⟨b5, ⟨b5, ⟨b5, ⟨(by rw [b4]; rfl), ⟨b5, ⟨(by rw [b4]; rfl), ⟨trivial, ⟨rfl, ⟨rfl, ⟨rfl, ⟨rfl, ⟨(by rw [b4]; rfl), ⟨rfl, ⟨(by rw [b4]; rfl), trivial⟩⟩⟩⟩⟩⟩⟩⟩⟩⟩⟩⟩⟩⟩⟩⟩⟩⟩⟩⟩⟩) 3, ⟨rfl, ⟨⟨trivial, trivial⟩, trivial⟩⟩⟩⟩⟩⟩⟩⟩
            intro a w hs
            refine then_ret ?_
            refine inb_ret ?_
            refine then_ret ?_
            exact FnQ_cast (out := .val (vb false)) (by rw [nameF_no (s := s) (i := i) (by omega) (by simp only [nameOk, b1, b2, b3, b4, b5]; rfl)]) (ret_ok [] hs ⟨by kernel_rfl, rfl⟩)
          · skip
            have n5 := beq_eq_false_iff_ne.1 b5
            rcases Bool.eq_false_or_eq_true (decide ((byteAt s ((i : Nat) : Int)) < 48)) with b6 | b6
            · skip
              have n6 := of_decide_eq_true b6
              refine way_L (tt := tt) (rs := [(5, ⟨[], [(3, true), (4, true), (1005, true), (7, true), (8, true), (9, true), (10, true), (1011, false)], []⟩), (6, ⟨[], [(3, true), (4, true), (5, true), (6, true), (7, true), (8, true), (9, true), (10, true), (1010, false), (11, true), (12, false), (13, false), (14, false), (15, false), (16, true), (1016, true), (1017, true)], []⟩)]) (bs := [true, true]) (tk := [2]) (bk := []) (C := ((True) ∧ (True)) ∧ ((((decide (((i : Nat) : Int) < (s.size : Int))) = true) ∧ (True)) ∧ (((True) ∧ ((True) ∧ (True))) ∧ (((True) ∧ ((True) ∧ ((0 ≤ ((i : Nat) : Int) ∧ ((i : Nat) : Int) < s.size) ∧ ((True) ∧ ((True) ∧ (True)))))) ∧ ((tr 3 (((decide ((bitsOr .u8 (byteAt s ((i : Nat) : Int)) 32) ≥ 97)) = true) ∧ ((True) ∧ (((decide ((bitsOr .u8 (byteAt s ((i : Nat) : Int)) 32) ≥ 97)) = true) ∧ ((True) ∧ (((decide ((bitsOr .u8 (byteAt s ((i : Nat) : Int)) 32) ≥ 97)) = true) ∧ ((True) ∧ (((decide ((bitsOr .u8 (byteAt s ((i : Nat) : Int)) 32) ≤ 122)) = false) ∧ ((True) ∧ (((decide ((bitsOr .u8 (byteAt s ((i : Nat) : Int)) 32) ≤ 122)) = false) ∧ ((True) ∧ (((decide ((bitsOr .u8 (byteAt s ((i : Nat) : Int)) 32) ≤ 122)) = false) ∧ ((0 ≤ ((i : Nat) : Int) ∧ ((i : Nat) : Int) < s.size) ∧ (((decide ((bitsOr .u8 (byteAt s ((i : Nat) : Int)) 32) ≤ 122)) = false) ∧ ((True) ∧ (((decide ((bitsOr .u8 (byteAt s ((i : Nat) : Int)) 32) ≤ 122)) = false) ∧ ((True) ∧ (True)))))))))))))))))) ∧ ((tr 3 (((!((byteAt s ((i : Nat) : Int)) == 95)) = true) ∧ ((True) ∧ (((!((byteAt s ((i : Nat) : Int)) == 95)) = true) ∧ ((True) ∧ (((!((byteAt s ((i : Nat) : Int)) == 95)) = true) ∧ ((True) ∧ (((((i : Nat) : Int) == 0) = false) ∧ ((True) ∧ (((((i : Nat) : Int) == 0) = false) ∧ ((True) ∧ (((((i : Nat) : Int) == 0) = false) ∧ ((0 ≤ ((i : Nat) : Int) ∧ ((i : Nat) : Int) < s.size) ∧ (((((i : Nat) : Int) == 0) = false) ∧ ((True) ∧ (((!((byteAt s ((i : Nat) : Int)) == 95)) = true) ∧ (((((i : Nat) : Int) == 0) = false) ∧ (((!((byteAt s ((i : Nat) : Int)) == 95)) = true) ∧ ((True) ∧ (((decide ((byteAt s ((i : Nat) : Int)) < 48)) = true) ∧ (((decide ((byteAt s ((i : Nat) : Int)) < 48)) = true) ∧ (((decide ((byteAt s ((i : Nat) : Int)) < 48)) = true) ∧ (((decide ((byteAt s ((i : Nat) : Int)) < 48)) = true) ∧ (((!((byteAt s ((i : Nat) : Int)) == 95)) = true) ∧ (((decide ((byteAt s ((i : Nat) : Int)) < 48)) = true) ∧ (((!((byteAt s ((i : Nat) : Int)) == 95)) = true) ∧ (True))))))))))))))))))))))))))) ∧ ((true = true) ∧ (((True) ∧ (True)) ∧ (True))))))))) (lv := .ret) (T' := [(2, vb false)]) (B' := []) mix hI hs ?_ ?_ ?_ ?_
              · exact ⟨trivial, ⟨trivial, trivial⟩⟩
              · kernel_rfl
              · exact ⟨⟨trivial, trivial⟩, ⟨⟨b1, trivial⟩, ⟨⟨trivial, ⟨trivial, trivial⟩⟩, ⟨⟨trivial, ⟨trivial, ⟨⟨by omega, by omega⟩, ⟨trivial, ⟨trivial, trivial⟩⟩⟩⟩⟩, ⟨tr_mk (⟨b2, ⟨trivial, ⟨b2, ⟨trivial, ⟨b2, ⟨trivial, ⟨b3, ⟨trivial, ⟨b3, ⟨trivial, ⟨b3, ⟨⟨by omega, by omega⟩, ⟨b3, ⟨trivial, ⟨b3, ⟨trivial, trivial⟩⟩⟩⟩⟩⟩⟩⟩⟩⟩⟩⟩⟩⟩⟩⟩) 3, ⟨tr_mk (⟨(by rw [b4]; rfl), ⟨trivial, ⟨(by rw [b4]; rfl), ⟨trivial, ⟨(by rw [b4]; rfl), ⟨trivial, ⟨b5, ⟨trivial, ⟨b5, ⟨trivial, ⟨b5, ⟨⟨by omega, by omega⟩, ⟨b5, ⟨trivial, ⟨(by rw [b4]; rfl), ⟨b5, ⟨(by rw [b4]; rfl), ⟨trivial, ⟨b6, ⟨b6, ⟨b6, ⟨b6, ⟨(by rw [b4]; rfl), ⟨b6, ⟨(by rw [b4]; rfl), trivial⟩⟩⟩⟩⟩⟩⟩⟩⟩⟩⟩⟩⟩⟩⟩⟩⟩⟩⟩⟩⟩⟩⟩⟩⟩) 3, ⟨rfl, ⟨⟨trivial, trivial⟩, trivial⟩⟩⟩⟩⟩⟩⟩⟩
              intro a w hs
              refine then_ret ?_
              refine inb_ret ?_
              refine then_ret ?_
              exact FnQ_cast (out := .val (vb false)) (by rw [nameF_no (s := s) (i := i) (by omega) (by simp only [nameOk, b1, b2, b3, b4, b5, b6]; rfl)]) (ret_ok [] hs ⟨by kernel_rfl, rfl⟩)
            · skip
              have n6 := of_decide_eq_false b6
              rcases Bool.eq_false_or_eq_true (decide ((byteAt s ((i : Nat) : Int)) > 57)) with b7 | b7
              · skip
                have n7 := of_decide_eq_true b7
                refine way_L (tt := tt) (rs := [(5, ⟨[], [(3, true), (4, true), (1005, true), (7, true), (8, true), (9, true), (10, true), (1011, false)], []⟩), (6, ⟨[], [(3, true), (4, true), (5, true), (6, true), (7, true), (8, true), (9, true), (10, true), (1010, false), (11, true), (12, true), (13, true), (14, true), (15, true), (16, true), (1016, false), (1017, true)], []⟩)]) (bs := [true, true]) (tk := [2]) (bk := []) (C := ((True) ∧ (True)) ∧ ((((decide (((i : Nat) : Int) < (s.size : Int))) = true) ∧ (True)) ∧ (((True) ∧ ((True) ∧ (True))) ∧ (((True) ∧ ((True) ∧ ((0 ≤ ((i : Nat) : Int) ∧ ((i : Nat) : Int) < s.size) ∧ ((True) ∧ ((True) ∧ (True)))))) ∧ ((tr 3 (((decide ((bitsOr .u8 (byteAt s ((i : Nat) : Int)) 32) ≥ 97)) = true) ∧ ((True) ∧ (((decide ((bitsOr .u8 (byteAt s ((i : Nat) : Int)) 32) ≥ 97)) = true) ∧ ((True) ∧ (((decide ((bitsOr .u8 (byteAt s ((i : Nat) : Int)) 32) ≥ 97)) = true) ∧ ((True) ∧ (((decide ((bitsOr .u8 (byteAt s ((i : Nat) : Int)) 32) ≤ 122)) = false) ∧ ((True) ∧ (((decide ((bitsOr .u8 (byteAt s ((i : Nat) : Int)) 32) ≤ 122)) = false) ∧ ((True) ∧ (((decide ((bitsOr .u8 (byteAt s ((i : Nat) : Int)) 32) ≤ 122)) = false) ∧ ((0 ≤ ((i : Nat) : Int) ∧ ((i : Nat) : Int) < s.size) ∧ (((decide ((bitsOr .u8 (byteAt s ((i : Nat) : Int)) 32) ≤ 122)) = false) ∧ ((True) ∧ (((decide ((bitsOr .u8 (byteAt s ((i : Nat) : Int)) 32) ≤ 122)) = false) ∧ ((True) ∧ (True)))))))))))))))))) ∧ ((tr 3 (((!((byteAt s ((i : Nat) : Int)) == 95)) = true) ∧ ((True) ∧ (((!((byteAt s ((i : Nat) : Int)) == 95)) = true) ∧ ((True) ∧ (((!((byteAt s ((i : Nat) : Int)) == 95)) = true) ∧ ((True) ∧ (((((i : Nat) : Int) == 0) = false) ∧ ((True) ∧ (((((i : Nat) : Int) == 0) = false) ∧ ((True) ∧ (((((i : Nat) : Int) == 0) = false) ∧ ((0 ≤ ((i : Nat) : Int) ∧ ((i : Nat) : Int) < s.size) ∧ (((((i : Nat) : Int) == 0) = false) ∧ ((True) ∧ (((!((byteAt s ((i : Nat) : Int)) == 95)) = true) ∧ (((((i : Nat) : Int) == 0) = false) ∧ (((!((byteAt s ((i : Nat) : Int)) == 95)) = true) ∧ ((True) ∧ (((decide ((byteAt s ((i : Nat) : Int)) < 48)) = false) ∧ ((True) ∧ (((decide ((byteAt s ((i : Nat) : Int)) < 48)) = false) ∧ ((True) ∧ (((decide ((byteAt s ((i : Nat) : Int)) < 48)) = false) ∧ ((0 ≤ ((i : Nat) : Int) ∧ ((i : Nat) : Int) < s.size) ∧ (((decide ((byteAt s ((i : Nat) : Int)) < 48)) = false) ∧ ((True) ∧ (((!((byteAt s ((i : Nat) : Int)) == 95)) = true) ∧ (((decide ((byteAt s ((i : Nat) : Int)) < 48)) = false) ∧ (((!((byteAt s ((i : Nat) : Int)) == 95)) = true) ∧ (True))))))))))))))))))))))))))))))) ∧ (((decide ((byteAt s ((i : Nat) : Int)) > 57)) = true) ∧ (((True) ∧ (True)) ∧ (True))))))))) (lv := .ret) (T' := [(2, vb false)]) (B' := []) mix hI hs ?_ ?_ ?_ ?_
                · exact ⟨trivial, ⟨trivial, trivial⟩⟩
                · kernel_rfl
                · exact ⟨⟨trivial, trivial⟩, ⟨⟨b1, trivial⟩, ⟨⟨trivial, ⟨trivial, trivial⟩⟩, ⟨⟨trivial, ⟨trivial, ⟨⟨by omega, by omega⟩, ⟨trivial, ⟨trivial, trivial⟩⟩⟩⟩⟩, ⟨tr_mk (⟨b2, ⟨trivial, ⟨b2, ⟨trivial, ⟨b2, ⟨trivial, ⟨b3, ⟨trivial, ⟨b3, ⟨trivial, ⟨b3, ⟨⟨by omega, by omega⟩, ⟨b3, ⟨trivial, ⟨b3, ⟨trivial, trivial⟩⟩⟩⟩⟩⟩⟩⟩⟩⟩⟩⟩⟩⟩⟩⟩) 3, ⟨tr_mk (⟨(by rw [b4]; rfl), ⟨trivial, ⟨(by rw [b4]; rfl), ⟨trivial, ⟨(by rw [b4]; rfl), ⟨trivial, ⟨b5, ⟨trivial, ⟨b5, ⟨trivial, ⟨b5, ⟨⟨by omega, by omega⟩, ⟨b5, ⟨trivial, ⟨(by rw [b4]; rfl), ⟨b5, ⟨(by rw [b4]; rfl), ⟨trivial, ⟨b6, ⟨trivial, ⟨b6, ⟨trivial, ⟨b6, ⟨⟨by omega, by omega⟩, ⟨b6, ⟨trivial, ⟨(by rw [b4]; rfl), ⟨b6, ⟨(by rw [b4]; rfl), trivial⟩⟩⟩⟩⟩⟩⟩⟩⟩⟩⟩⟩⟩⟩⟩⟩⟩⟩⟩⟩⟩⟩⟩⟩⟩⟩⟩⟩⟩) 3, ⟨b7, ⟨⟨trivial, trivial⟩, trivial⟩⟩⟩⟩⟩⟩⟩⟩
                intro a w hs
                refine then_ret ?_
                refine inb_ret ?_
                refine then_ret ?_
                exact FnQ_cast (out := .val (vb false)) (by rw [nameF_no (s := s) (i := i) (by omega) (by simp only [nameOk, b1, b2, b3, b4, b5, b6, b7]; rfl)]) (ret_ok [] hs ⟨by kernel_rfl, rfl⟩)
              · skip
                have n7 := of_decide_eq_false b7
                refine way_L (tt := tt) (rs := [(5, ⟨[], [(3, true), (4, true), (1005, true), (7, true), (8, true), (9, true), (10, true), (1011, false)], []⟩), (6, ⟨[], [(3, true), (4, true), (5, true), (6, true), (7, true), (8, true), (9, true), (10, true), (1010, false), (11, true), (12, true), (13, true), (14, true), (15, true), (16, true), (1016, false), (1017, true)], []⟩)]) (bs := [true, false]) (tk := [0, 7, 8]) (bk := []) (C := ((True) ∧ (True)) ∧ ((((decide (((i : Nat) : Int) < (s.size : Int))) = true) ∧ (True)) ∧ ((((True) ∧ ((True) ∧ (True))) ∧ (((True) ∧ ((True) ∧ ((0 ≤ ((i : Nat) : Int) ∧ ((i : Nat) : Int) < s.size) ∧ ((True) ∧ ((True) ∧ (True)))))) ∧ ((tr 3 (((decide ((bitsOr .u8 (byteAt s ((i : Nat) : Int)) 32) ≥ 97)) = true) ∧ ((True) ∧ (((decide ((bitsOr .u8 (byteAt s ((i : Nat) : Int)) 32) ≥ 97)) = true) ∧ ((True) ∧ (((decide ((bitsOr .u8 (byteAt s ((i : Nat) : Int)) 32) ≥ 97)) = true) ∧ ((True) ∧ (((decide ((bitsOr .u8 (byteAt s ((i : Nat) : Int)) 32) ≤ 122)) = false) ∧ ((True) ∧ (((decide ((bitsOr .u8 (byteAt s ((i : Nat) : Int)) 32) ≤ 122)) = false) ∧ ((True) ∧ (((decide ((bitsOr .u8 (byteAt s ((i : Nat) : Int)) 32) ≤ 122)) = false) ∧ ((0 ≤ ((i : Nat) : Int) ∧ ((i : Nat) : Int) < s.size) ∧ (((decide ((bitsOr .u8 (byteAt s ((i : Nat) : Int)) 32) ≤ 122)) = false) ∧ ((True) ∧ (((decide ((bitsOr .u8 (byteAt s ((i : Nat) : Int)) 32) ≤ 122)) = false) ∧ ((True) ∧ (True)))))))))))))))))) ∧ ((tr 3 (((!((byteAt s ((i : Nat) : Int)) == 95)) = true) ∧ ((True) ∧ (((!((byteAt s ((i : Nat) : Int)) == 95)) = true) ∧ ((True) ∧ (((!((byteAt s ((i : Nat) : Int)) == 95)) = true) ∧ ((True) ∧ (((((i : Nat) : Int) == 0) = false) ∧ ((True) ∧ (((((i : Nat) : Int) == 0) = false) ∧ ((True) ∧ (((((i : Nat) : Int) == 0) = false) ∧ ((0 ≤ ((i : Nat) : Int) ∧ ((i : Nat) : Int) < s.size) ∧ (((((i : Nat) : Int) == 0) = false) ∧ ((True) ∧ (((!((byteAt s ((i : Nat) : Int)) == 95)) = true) ∧ (((((i : Nat) : Int) == 0) = false) ∧ (((!((byteAt s ((i : Nat) : Int)) == 95)) = true) ∧ ((True) ∧ (((decide ((byteAt s ((i : Nat) : Int)) < 48)) = false) ∧ ((True) ∧ (((decide ((byteAt s ((i : Nat) : Int)) < 48)) = false) ∧ ((True) ∧ (((decide ((byteAt s ((i : Nat) : Int)) < 48)) = false) ∧ ((0 ≤ ((i : Nat) : Int) ∧ ((i : Nat) : Int) < s.size) ∧ (((decide ((byteAt s ((i : Nat) : Int)) < 48)) = false) ∧ ((True) ∧ (((!((byteAt s ((i : Nat) : Int)) == 95)) = true) ∧ (((decide ((byteAt s ((i : Nat) : Int)) < 48)) = false) ∧ (((!((byteAt s ((i : Nat) : Int)) == 95)) = true) ∧ (True))))))))))))))))))))))))))))))) ∧ (((decide ((byteAt s ((i : Nat) : Int)) > 57)) = false) ∧ (True)))))) ∧ ((InR .i64 (((i : Nat) : Int) + 1)) ∧ ((True) ∧ (True)))))) (lv := .norm) (T' := [(0, vs s), (7, vi (s.size : Int)), (8, vi (((i : Nat) : Int) + 1))]) (B' := []) mix hI hs ?_ ?_ ?_ ?_
                · exact ⟨trivial, ⟨trivial, trivial⟩⟩
                · kernel_rfl
                · exact ⟨⟨trivial, trivial⟩, ⟨⟨b1, trivial⟩, ⟨⟨⟨trivial, ⟨trivial, trivial⟩⟩, ⟨⟨trivial, ⟨trivial, ⟨⟨by omega, by omega⟩, ⟨trivial, ⟨trivial, trivial⟩⟩⟩⟩⟩, ⟨tr_mk (⟨b2, ⟨trivial, ⟨b2, ⟨trivial, ⟨b2, ⟨trivial, ⟨b3, ⟨trivial, ⟨b3, ⟨trivial, ⟨b3, ⟨⟨by omega, by omega⟩, ⟨b3, ⟨trivial, ⟨b3, ⟨trivial, trivial⟩⟩⟩⟩⟩⟩⟩⟩⟩⟩⟩⟩⟩⟩⟩⟩) 3, ⟨tr_mk (⟨(by rw [b4]; rfl), ⟨trivial, ⟨(by rw [b4]; rfl), ⟨trivial, ⟨(by rw [b4]; rfl), ⟨trivial, ⟨b5, ⟨trivial, ⟨b5, ⟨trivial, ⟨b5, ⟨⟨by omega, by omega⟩, ⟨b5, ⟨trivial, ⟨(by rw [b4]; rfl), ⟨b5, ⟨(by rw [b4]; rfl), ⟨trivial, ⟨b6, ⟨trivial, ⟨b6, ⟨trivial, ⟨b6, ⟨⟨by omega, by omega⟩, ⟨b6, ⟨trivial, ⟨(by rw [b4]; rfl), ⟨b6, ⟨(by rw [b4]; rfl), trivial⟩⟩⟩⟩⟩⟩⟩⟩⟩⟩⟩⟩⟩⟩⟩⟩⟩⟩⟩⟩⟩⟩⟩⟩⟩⟩⟩⟩⟩) 3, ⟨b7, trivial⟩⟩⟩⟩⟩, ⟨(inR64 (by omega) (by omega)), ⟨trivial, trivial⟩⟩⟩⟩⟩
                intro a w hs
                refine then_norm ⟨i + 1, ⟨by omega, fun j hj => by rcases Nat.lt_succ_iff_lt_or_eq.1 hj with h | rfl; exact hall j h; simp only [nameOk, b1, b2, b3, b4, b5, b6, b7]; rfl⟩, by omega, ?_⟩
                (have e0_ : (((i : Nat) : Int) + 1) = ((((i + 1) : Nat) : Int)) := (by first | rfl | (omega)); exact (SimL.cast hs (T' := [(0, vs s), (7, vi (s.size : Int)), (8, vi (((i + 1) : Nat) : Int))]) (B' := []) (by first | rfl | (rw [e0_]; done) | (simp only [e0_]; done) | (simp only [e0_]; rfl)) (by first | rfl | (rw [e0_]; done) | (simp only [e0_]; done) | (simp only [e0_]; rfl))).ren [] (by kernel_rfl) (by kernel_rfl) (by kernel_rfl))
    · skip
      have n2 := of_decide_eq_false b2
      rcases Bool.eq_false_or_eq_true ((byteAt s ((i : Nat) : Int)) == 95) with b8 | b8
      · skip
        have n8 := eq_of_beq b8
        refine way_L (tt := tt) (rs := [(5, ⟨[], [(3, false), (4, false), (1005, false), (7, true), (8, true), (9, true), (10, true), (1011, false)], []⟩), (6, ⟨[], [(3, false), (4, false), (5, false), (10, false), (11, false), (16, false), (1017, false)], []⟩)]) (bs := [true, false]) (tk := [0, 7, 8]) (bk := []) (C := ((True) ∧ (True)) ∧ ((((decide (((i : Nat) : Int) < (s.size : Int))) = true) ∧ (True)) ∧ ((((True) ∧ ((True) ∧ (True))) ∧ (((True) ∧ ((True) ∧ ((0 ≤ ((i : Nat) : Int) ∧ ((i : Nat) : Int) < s.size) ∧ ((True) ∧ ((True) ∧ (True)))))) ∧ ((tr 3 (((decide ((bitsOr .u8 (byteAt s ((i : Nat) : Int)) 32) ≥ 97)) = false) ∧ (((decide ((bitsOr .u8 (byteAt s ((i : Nat) : Int)) 32) ≥ 97)) = false) ∧ (((decide ((bitsOr .u8 (byteAt s ((i : Nat) : Int)) 32) ≥ 97)) = false) ∧ ((True) ∧ ((false = false) ∧ ((True) ∧ ((false = false) ∧ ((True) ∧ ((false = false) ∧ ((0 ≤ ((i : Nat) : Int) ∧ ((i : Nat) : Int) < s.size) ∧ ((false = false) ∧ ((True) ∧ ((false = false) ∧ ((True) ∧ (True)))))))))))))))) ∧ ((tr 3 (((!((byteAt s ((i : Nat) : Int)) == 95)) = false) ∧ (((!((byteAt s ((i : Nat) : Int)) == 95)) = false) ∧ (((!((byteAt s ((i : Nat) : Int)) == 95)) = false) ∧ (tr 4 (((!((byteAt s ((i : Nat) : Int)) == 95)) = false) ∧ (((!((byteAt s ((i : Nat) : Int)) == 95)) = false) ∧ (tr 4 (((!((byteAt s ((i : Nat) : Int)) == 95)) = false) ∧ (((!((byteAt s ((i : Nat) : Int)) == 95)) = false) ∧ (True))))))))))) ∧ ((false = false) ∧ (True)))))) ∧ ((InR .i64 (((i : Nat) : Int) + 1)) ∧ ((True) ∧ (True)))))) (lv := .norm) (T' := [(0, vs s), (7, vi (s.size : Int)), (8, vi (((i : Nat) : Int) + 1))]) (B' := []) mix hI hs ?_ ?_ ?_ ?_
        · exact ⟨trivial, ⟨trivial, trivial⟩⟩
        · kernel_rfl
        · exact ⟨⟨trivial, trivial⟩, ⟨⟨b1, trivial⟩, ⟨⟨⟨trivial, ⟨trivial, trivial⟩⟩, ⟨⟨trivial, ⟨trivial, ⟨⟨by omega, by omega⟩, ⟨trivial, ⟨trivial, trivial⟩⟩⟩⟩⟩, ⟨tr_mk (⟨b2, ⟨b2, ⟨b2, ⟨trivial, ⟨rfl, ⟨trivial, ⟨rfl, ⟨trivial, ⟨rfl, ⟨⟨by omega, by omega⟩, ⟨rfl, ⟨trivial, ⟨rfl, ⟨trivial, trivial⟩⟩⟩⟩⟩⟩⟩⟩⟩⟩⟩⟩⟩⟩) 3, ⟨tr_mk (⟨(by rw [b8]; rfl), ⟨(by rw [b8]; rfl), ⟨(by rw [b8]; rfl), tr_mk (⟨(by rw [b8]; rfl), ⟨(by rw [b8]; rfl), tr_mk (⟨(by rw [b8]; rfl), ⟨(by rw [b8]; rfl), trivial⟩⟩) 4⟩⟩) 4⟩⟩⟩) 3, ⟨rfl, trivial⟩⟩⟩⟩⟩, ⟨(inR64 (by omega) (by omega)), ⟨trivial, trivial⟩⟩⟩⟩⟩
        intro a w hs
        refine then_norm ⟨i + 1, ⟨by omega, fun j hj => by rcases Nat.lt_succ_iff_lt_or_eq.1 hj with h | rfl; exact hall j h; simp only [nameOk, b1, b2, b8]; rfl⟩, by omega, ?_⟩
        (have e0_ : (((i : Nat) : Int) + 1) = ((((i + 1) : Nat) : Int)) := (by first | rfl | (omega)); exact (SimL.cast hs (T' := [(0, vs s), (7, vi (s.size : Int)), (8, vi (((i + 1) : Nat) : Int))]) (B' := []) (by first | rfl | (rw [e0_]; done) | (simp only [e0_]; done) | (simp only [e0_]; rfl)) (by first | rfl | (rw [e0_]; done) | (simp only [e0_]; done) | (simp only [e0_]; rfl))).ren [] (by kernel_rfl) (by kernel_rfl) (by kernel_rfl))
      · skip
        have n8 := beq_eq_false_iff_ne.1 b8
        rcases Bool.eq_false_or_eq_true (((i : Nat) : Int) == 0) with b9 | b9
        · skip
          have n9 := eq_of_beq b9
          refine way_L (tt := tt) (rs := [(5, ⟨[], [(3, false), (4, false), (1005, false), (7, true), (8, true), (9, true), (10, true), (1011, false)], []⟩), (6, ⟨[], [(3, true), (4, true), (5, true), (6, false), (7, false), (8, false), (9, false), (10, true), (1010, true), (11, true), (12, false), (13, false), (14, false), (15, false), (16, true), (1016, true), (1017, true)], []⟩)]) (bs := [true, true]) (tk := [2]) (bk := []) (C := ((True) ∧ (True)) ∧ ((((decide (((i : Nat) : Int) < (s.size : Int))) = true) ∧ (True)) ∧ (((True) ∧ ((True) ∧ (True))) ∧ (((True) ∧ ((True) ∧ ((0 ≤ ((i : Nat) : Int) ∧ ((i : Nat) : Int) < s.size) ∧ ((True) ∧ ((True) ∧ (True)))))) ∧ ((tr 3 (((decide ((bitsOr .u8 (byteAt s ((i : Nat) : Int)) 32) ≥ 97)) = false) ∧ (((decide ((bitsOr .u8 (byteAt s ((i : Nat) : Int)) 32) ≥ 97)) = false) ∧ (((decide ((bitsOr .u8 (byteAt s ((i : Nat) : Int)) 32) ≥ 97)) = false) ∧ ((True) ∧ ((false = false) ∧ ((True) ∧ ((false = false) ∧ ((True) ∧ ((false = false) ∧ ((0 ≤ ((i : Nat) : Int) ∧ ((i : Nat) : Int) < s.size) ∧ ((false = false) ∧ ((True) ∧ ((false = false) ∧ ((True) ∧ (True)))))))))))))))) ∧ ((tr 3 (((!((byteAt s ((i : Nat) : Int)) == 95)) = true) ∧ ((True) ∧ (((!((byteAt s ((i : Nat) : Int)) == 95)) = true) ∧ ((True) ∧ (((!((byteAt s ((i : Nat) : Int)) == 95)) = true) ∧ ((True) ∧ (((((i : Nat) : Int) == 0) = true) ∧ (((((i : Nat) : Int) == 0) = true) ∧ (((((i : Nat) : Int) == 0) = true) ∧ (((((i : Nat) : Int) == 0) = true) ∧ (((!((byteAt s ((i : Nat) : Int)) == 95)) = true) ∧ (((((i : Nat) : Int) == 0) = true) ∧ (((!((byteAt s ((i : Nat) : Int)) == 95)) = true) ∧ ((True) ∧ ((true = true) ∧ ((true = true) ∧ ((true = true) ∧ ((true = true) ∧ (((!((byteAt s ((i : Nat) : Int)) == 95)) = true) ∧ ((true = true) ∧ (((!((byteAt s ((i : Nat) : Int)) == 95)) = true) ∧ (True))))))))))))))))))))))) ∧ ((true = true) ∧ (((True) ∧ (True)) ∧ (True))))))))) (lv := .ret) (T' := [(2, vb false)]) (B' := []) mix hI hs ?_ ?_ ?_ ?_
          · exact ⟨trivial, ⟨trivial, trivial⟩⟩
          · kernel_rfl
          · exact ⟨⟨trivial, trivial⟩, ⟨⟨b1, trivial⟩, ⟨⟨trivial, ⟨trivial, trivial⟩⟩, ⟨⟨trivial, ⟨trivial, ⟨⟨by omega, by omega⟩, ⟨trivial, ⟨trivial, trivial⟩⟩⟩⟩⟩, ⟨tr_mk (⟨b2, ⟨b2, ⟨b2, ⟨trivial, ⟨rfl, ⟨trivial, ⟨rfl, ⟨trivial, ⟨rfl, ⟨⟨by omega, by omega⟩, ⟨rfl, ⟨trivial, ⟨rfl, ⟨trivial, trivial⟩⟩⟩⟩⟩⟩⟩⟩⟩⟩⟩⟩⟩⟩) 3, ⟨tr_mk (⟨(by rw [b8]; rfl), ⟨trivial, ⟨(by rw [b8]; rfl), ⟨trivial, ⟨(by rw [b8]; rfl), ⟨trivial, ⟨b9, ⟨b9, ⟨b9, ⟨b9, ⟨(by rw [b8]; rfl), ⟨b9, ⟨(by rw [b8]; rfl), ⟨trivial, ⟨rfl, ⟨rfl, ⟨rfl, ⟨rfl, ⟨(by rw [b8]; rfl), ⟨rfl, ⟨(by rw [b8]; rfl), trivial⟩⟩⟩⟩⟩⟩⟩⟩⟩⟩⟩⟩⟩⟩⟩⟩⟩⟩⟩⟩⟩) 3, ⟨rfl, ⟨⟨trivial, trivial⟩, trivial⟩⟩⟩⟩⟩⟩⟩⟩
          intro a w hs
          refine then_ret ?_
          refine inb_ret ?_
          refine then_ret ?_
          exact FnQ_cast (out := .val (vb false)) (by rw [nameF_no (s := s) (i := i) (by omega) (by simp only [nameOk, b1, b2, b8, b9]; rfl)]) (ret_ok [] hs ⟨by kernel_rfl, rfl⟩)
        · skip
          have n9 := beq_eq_false_iff_ne.1 b9
          rcases Bool.eq_false_or_eq_true (decide ((byteAt s ((i : Nat) : Int)) < 48)) with b10 | b10
          · skip
            have n10 := of_decide_eq_true b10
            refine way_L (tt := tt) (rs := [(5, ⟨[], [(3, false), (4, false), (1005, false), (7, true), (8, true), (9, true), (10, true), (1011, false)], []⟩), (6, ⟨[], [(3, true), (4, true), (5, true), (6, true), (7, true), (8, true), (9, true), (10, true), (1010, false), (11, true), (12, false), (13, false), (14, false), (15, false), (16, true), (1016, true), (1017, true)], []⟩)]) (bs := [true, true]) (tk := [2]) (bk := []) (C := ((True) ∧ (True)) ∧ ((((decide (((i : Nat) : Int) < (s.size : Int))) = true) ∧ (True)) ∧ (((True) ∧ ((True) ∧ (True))) ∧ (((True) ∧ ((True) ∧ ((0 ≤ ((i : Nat) : Int) ∧ ((i : Nat) : Int) < s.size) ∧ ((True) ∧ ((True) ∧ (True)))))) ∧ ((tr 3 (((decide ((bitsOr .u8 (byteAt s ((i : Nat) : Int)) 32) ≥ 97)) = false) ∧ (((decide ((bitsOr .u8 (byteAt s ((i : Nat) : Int)) 32) ≥ 97)) = false) ∧ (((decide ((bitsOr .u8 (byteAt s ((i : Nat) : Int)) 32) ≥ 97)) = false) ∧ ((True) ∧ ((false = false) ∧ ((True) ∧ ((false = false) ∧ ((True) ∧ ((false = false) ∧ ((0 ≤ ((i : Nat) : Int) ∧ ((i : Nat) : Int) < s.size) ∧ ((false = false) ∧ ((True) ∧ ((false = false) ∧ ((True) ∧ (True)))))))))))))))) ∧ ((tr 3 (((!((byteAt s ((i : Nat) : Int)) == 95)) = true) ∧ ((True) ∧ (((!((byteAt s ((i : Nat) : Int)) == 95)) = true) ∧ ((True) ∧ (((!((byteAt s ((i : Nat) : Int)) == 95)) = true) ∧ ((True) ∧ (((((i : Nat) : Int) == 0) = false) ∧ ((True) ∧ (((((i : Nat) : Int) == 0) = false) ∧ ((True) ∧ (((((i : Nat) : Int) == 0) = false) ∧ ((0 ≤ ((i : Nat) : Int) ∧ ((i : Nat) : Int) < s.size) ∧ (((((i : Nat) : Int) == 0) = false) ∧ ((True) ∧ (((!((byteAt s ((i : Nat) : Int)) == 95)) = true) ∧ (((((i : Nat) : Int) == 0) = false) ∧ (((!((byteAt s ((i : Nat) : Int)) == 95)) = true) ∧ ((True) ∧ (((decide ((byteAt s ((i : Nat) : Int)) < 48)) = true) ∧ (((decide ((byteAt s ((i : Nat) : Int)) < 48)) = true) ∧ (((decide ((byteAt s ((i : Nat) : Int)) < 48)) = true) ∧ (((decide ((byteAt s ((i : Nat) : Int)) < 48)) = true) ∧ (((!((byteAt s ((i : Nat) : Int)) == 95)) = true) ∧ (((decide ((byteAt s ((i : Nat) : Int)) < 48)) = true) ∧ (((!((byteAt s ((i : Nat) : Int)) == 95)) = true) ∧ (True))))))))))))))))))))))))))) ∧ ((true = true) ∧ (((True) ∧ (True)) ∧ (True))))))))) (lv := .ret) (T' := [(2, vb false)]) (B' := []) mix hI hs ?_ ?_ ?_ ?_
            · exact ⟨trivial, ⟨trivial, trivial⟩⟩
            · kernel_rfl
            · exact ⟨⟨trivial, trivial⟩, ⟨⟨b1, trivial⟩, ⟨⟨trivial, ⟨trivial, trivial⟩⟩, ⟨⟨trivial, ⟨trivial, ⟨⟨by omega, by omega⟩, ⟨trivial, ⟨trivial, trivial⟩⟩⟩⟩⟩, ⟨tr_mk (⟨b2, ⟨b2, ⟨b2, ⟨trivial, ⟨rfl, ⟨trivial, ⟨rfl, ⟨trivial, ⟨rfl, ⟨⟨by omega, by omega⟩, ⟨rfl, ⟨trivial, ⟨rfl, ⟨trivial, trivial⟩⟩⟩⟩⟩⟩⟩⟩⟩⟩⟩⟩⟩⟩) 3, ⟨tr_mk (⟨(by rw [b8]; rfl), ⟨trivial, ⟨(by rw [b8]; rfl), ⟨trivial, ⟨(by rw [b8]; rfl), ⟨trivial, ⟨b9, ⟨trivial, ⟨b9, ⟨trivial, ⟨b9, ⟨⟨by omega, by omega⟩, ⟨b9, ⟨trivial, ⟨(by rw [b8]; rfl), ⟨b9, ⟨(by rw [b8]; rfl), ⟨trivial, ⟨b10, ⟨b10, ⟨b10, ⟨b10, ⟨(by rw [b8]; rfl), ⟨b10, ⟨(by rw [b8]; rfl), trivial⟩⟩⟩⟩⟩⟩⟩⟩⟩⟩⟩⟩⟩⟩⟩⟩⟩⟩⟩⟩⟩⟩⟩⟩⟩) 3, ⟨rfl, ⟨⟨trivial, trivial⟩, trivial⟩⟩⟩⟩⟩⟩⟩⟩
            intro a w hs
            refine then_ret ?_
            refine inb_ret ?_
            refine then_ret ?_
            exact FnQ_cast (out := .val (vb false)) (by rw [nameF_no (s := s) (i := i) (by omega) (by simp only [nameOk, b1, b2, b8, b9, b10]; rfl)]) (ret_ok [] hs ⟨by kernel_rfl, rfl⟩)
          · skip
            have n10 := of_decide_eq_false b10
            rcases Bool.eq_false_or_eq_true (decide ((byteAt s ((i : Nat) : Int)) > 57)) with b11 | b11
            · skip
              have n11 := of_decide_eq_true b11
              refine way_L (tt := tt) (rs := [(5, ⟨[], [(3, false), (4, false), (1005, false), (7, true), (8, true), (9, true), (10, true), (1011, false)], []⟩), (6, ⟨[], [(3, true), (4, true), (5, true), (6, true), (7, true), (8, true), (9, true), (10, true), (1010, false), (11, true), (12, true), (13, true), (14, true), (15, true), (16, true), (1016, false), (1017, true)], []⟩)]) (bs := [true, true]) (tk := [2]) (bk := []) (C := ((True) ∧ (True)) ∧ ((((decide (((i : Nat) : Int) < (s.size : Int))) = true) ∧ (True)) ∧ (((True) ∧ ((True) ∧ (True))) ∧ (((True) ∧ ((True) ∧ ((0 ≤ ((i : Nat) : Int) ∧ ((i : Nat) : Int) < s.size) ∧ ((True) ∧ ((True) ∧ (True)))))) ∧ ((tr 3 (((decide ((bitsOr .u8 (byteAt s ((i : Nat) : Int)) 32) ≥ 97)) = false) ∧ (((decide ((bitsOr .u8 (byteAt s ((i : Nat) : Int)) 32) ≥ 97)) = false) ∧ (((decide ((bitsOr .u8 (byteAt s ((i : Nat) : Int)) 32) ≥ 97)) = false) ∧ ((True) ∧ ((false = false) ∧ ((True) ∧ ((false = false) ∧ ((True) ∧ ((false = false) ∧ ((0 ≤ ((i : Nat) : Int) ∧ ((i : Nat) : Int) < s.size) ∧ ((false = false) ∧ ((True) ∧ ((false = false) ∧ ((True) ∧ (True)))))))))))))))) ∧ ((tr 3 (((!((byteAt s ((i : Nat) : Int)) == 95)) = true) ∧ ((True) ∧ (((!((byteAt s ((i : Nat) : Int)) == 95)) = true) ∧ ((True) ∧ (((!((byteAt s ((i : Nat) : Int)) == 95)) = true) ∧ ((True) ∧ (((((i : Nat) : Int) == 0) = false) ∧ ((True) ∧ (((((i : Nat) : Int) == 0) = false) ∧ ((True) ∧ (((((i : Nat) : Int) == 0) = false) ∧ ((0 ≤ ((i : Nat) : Int) ∧ ((i : Nat) : Int) < s.size) ∧ (((((i : Nat) : Int) == 0) = false) ∧ ((True) ∧ (((!((byteAt s ((i : Nat) : Int)) == 95)) = true) ∧ (((((i : Nat) : Int) == 0) = false) ∧ (((!((byteAt s ((i : Nat) : Int)) == 95)) = true) ∧ ((True) ∧ (((decide ((byteAt s ((i : Nat) : Int)) < 48)) = false) ∧ ((True) ∧ (((decide ((byteAt s ((i : Nat) : Int)) < 48)) = false) ∧ ((True) ∧ (((decide ((byteAt s ((i : Nat) : Int)) < 48)) = false) ∧ ((0 ≤ ((i : Nat) : Int) ∧ ((i : Nat) : Int) < s.size) ∧ (((decide ((byteAt s ((i : Nat) : Int)) < 48)) = false) ∧ ((True) ∧ (((!((byteAt s ((i : Nat) : Int)) == 95)) = true) ∧ (((decide ((byteAt s ((i : Nat) : Int)) < 48)) = false) ∧ (((!((byteAt s ((i : Nat) : Int)) == 95)) = true) ∧ (True))))))))))))))))))))))))))))))) ∧ (((decide ((byteAt s ((i : Nat) : Int)) > 57)) = true) ∧ (((True) ∧ (True)) ∧ (True))))))))) (lv := .ret) (T' := [(2, vb false)]) (B' := []) mix hI hs ?_ ?_ ?_ ?_
              · exact ⟨trivial, ⟨trivial, trivial⟩⟩
              · kernel_rfl
              · exact ⟨⟨trivial, trivial⟩, ⟨⟨b1, trivial⟩, ⟨⟨trivial, ⟨trivial, trivial⟩⟩, ⟨⟨trivial, ⟨trivial, ⟨⟨by omega, by omega⟩, ⟨trivial, ⟨trivial, trivial⟩⟩⟩⟩⟩, ⟨tr_mk (⟨b2, ⟨b2, ⟨b2, ⟨trivial, ⟨rfl, ⟨trivial, ⟨rfl, ⟨trivial, ⟨rfl, ⟨⟨by omega, by omega⟩, ⟨rfl, ⟨trivial, ⟨rfl, ⟨trivial, trivial⟩⟩⟩⟩⟩⟩⟩⟩⟩⟩⟩⟩⟩⟩) 3, ⟨tr_mk (⟨(by rw [b8]; rfl), ⟨trivial, ⟨(by rw [b8]; rfl), ⟨trivial, ⟨(by rw [b8]; rfl), ⟨trivial, ⟨b9, ⟨trivial, ⟨b9, ⟨trivial, ⟨b9, ⟨⟨by omega, by omega⟩, ⟨b9, ⟨trivial, ⟨(by rw [b8]; rfl), ⟨b9, ⟨(by rw [b8]; rfl), ⟨trivial, ⟨b10, ⟨trivial, ⟨b10, ⟨trivial, ⟨b10, ⟨⟨by omega, by omega⟩, ⟨b10, ⟨trivial, ⟨(by rw [b8]; rfl), ⟨b10, ⟨(by rw [b8]; rfl), trivial⟩⟩⟩⟩⟩⟩⟩⟩⟩⟩⟩⟩⟩⟩⟩⟩⟩⟩⟩⟩⟩⟩⟩⟩⟩⟩⟩⟩⟩) 3, ⟨b11, ⟨⟨trivial, trivial⟩, trivial⟩⟩⟩⟩⟩⟩⟩⟩
              intro a w hs
              refine then_ret ?_
              refine inb_ret ?_
              refine then_ret ?_
              exact FnQ_cast (out := .val (vb false)) (by rw [nameF_no (s := s) (i := i) (by omega) (by simp only [nameOk, b1, b2, b8, b9, b10, b11]; rfl)]) (ret_ok [] hs ⟨by kernel_rfl, rfl⟩)
            · skip
              have n11 := of_decide_eq_false b11
              refine way_L (tt := tt) (rs := [(5, ⟨[], [(3, false), (4, false), (1005, false), (7, true), (8, true), (9, true), (10, true), (1011, false)], []⟩), (6, ⟨[], [(3, true), (4, true), (5, true), (6, true), (7, true), (8, true), (9, true), (10, true), (1010, false), (11, true), (12, true), (13, true), (14, true), (15, true), (16, true), (1016, false), (1017, true)], []⟩)]) (bs := [true, false]) (tk := [0, 7, 8]) (bk := []) (C := ((True) ∧ (True)) ∧ ((((decide (((i : Nat) : Int) < (s.size : Int))) = true) ∧ (True)) ∧ ((((True) ∧ ((True) ∧ (True))) ∧ (((True) ∧ ((True) ∧ ((0 ≤ ((i : Nat) : Int) ∧ ((i : Nat) : Int) < s.size) ∧ ((True) ∧ ((True) ∧ (True)))))) ∧ ((tr 3 (((decide ((bitsOr .u8 (byteAt s ((i : Nat) : Int)) 32) ≥ 97)) = false) ∧ (((decide ((bitsOr .u8 (byteAt s ((i : Nat) : Int)) 32) ≥ 97)) = false) ∧ (((decide ((bitsOr .u8 (byteAt s ((i : Nat) : Int)) 32) ≥ 97)) = false) ∧ ((True) ∧ ((false = false) ∧ ((True) ∧ ((false = false) ∧ ((True) ∧ ((false = false) ∧ ((0 ≤ ((i : Nat) : Int) ∧ ((i : Nat) : Int) < s.size) ∧ ((false = false) ∧ ((True) ∧ ((false = false) ∧ ((True) ∧ (True)))))))))))))))) ∧ ((tr 3 (((!((byteAt s ((i : Nat) : Int)) == 95)) = true) ∧ ((True) ∧ (((!((byteAt s ((i : Nat) : Int)) == 95)) = true) ∧ ((True) ∧ (((!((byteAt s ((i : Nat) : Int)) == 95)) = true) ∧ ((True) ∧ (((((i : Nat) : Int) == 0) = false) ∧ ((True) ∧ (((((i : Nat) : Int) == 0) = false) ∧ ((True) ∧ (((((i : Nat) : Int) == 0) = false) ∧ ((0 ≤ ((i : Nat) : Int) ∧ ((i : Nat) : Int) < s.size) ∧ (((((i : Nat) : Int) == 0) = false) ∧ ((True) ∧ (((!((byteAt s ((i : Nat) : Int)) == 95)) = true) ∧ (((((i : Nat) : Int) == 0) = false) ∧ (((!((byteAt s ((i : Nat) : Int)) == 95)) = true) ∧ ((True) ∧ (((decide ((byteAt s ((i : Nat) : Int)) < 48)) = false) ∧ ((True) ∧ (((decide ((byteAt s ((i : Nat) : Int)) < 48)) = false) ∧ ((True) ∧ (((decide ((byteAt s ((i : Nat) : Int)) < 48)) = false) ∧ ((0 ≤ ((i : Nat) : Int) ∧ ((i : Nat) : Int) < s.size) ∧ (((decide ((byteAt s ((i : Nat) : Int)) < 48)) = false) ∧ ((True) ∧ (((!((byteAt s ((i : Nat) : Int)) == 95)) = true) ∧ (((decide ((byteAt s ((i : Nat) : Int)) < 48)) = false) ∧ (((!((byteAt s ((i : Nat) : Int)) == 95)) = true) ∧ (True))))))))))))))))))))))))))))))) ∧ (((decide ((byteAt s ((i : Nat) : Int)) > 57)) = false) ∧ (True)))))) ∧ ((InR .i64 (((i : Nat) : Int) + 1)) ∧ ((True) ∧ (True)))))) (lv := .norm) (T' := [(0, vs s), (7, vi (s.size : Int)), (8, vi (((i : Nat) : Int) + 1))]) (B' := []) mix hI hs ?_ ?_ ?_ ?_
              · exact ⟨trivial, ⟨trivial, trivial⟩⟩
              · kernel_rfl
              · exact ⟨⟨trivial, trivial⟩, ⟨⟨b1, trivial⟩, ⟨⟨⟨trivial, ⟨trivial, trivial⟩⟩, ⟨⟨trivial, ⟨trivial, ⟨⟨by omega, by omega⟩, ⟨trivial, ⟨trivial, trivial⟩⟩⟩⟩⟩, ⟨tr_mk (⟨b2, ⟨b2, ⟨b2, ⟨trivial, ⟨rfl, ⟨trivial, ⟨rfl, ⟨trivial, ⟨rfl, ⟨⟨by omega, by omega⟩, ⟨rfl, ⟨trivial, ⟨rfl, ⟨trivial, trivial⟩⟩⟩⟩⟩⟩⟩⟩⟩⟩⟩⟩⟩⟩) 3, ⟨tr_mk (⟨(by rw [b8]; rfl), ⟨trivial, ⟨(by rw [b8]; rfl), ⟨trivial, ⟨(by rw [b8]; rfl), ⟨trivial, ⟨b9, ⟨trivial, ⟨b9, ⟨trivial, ⟨b9, ⟨⟨by omega, by omega⟩, ⟨b9, ⟨trivial, ⟨(by rw [b8]; rfl), ⟨b9, ⟨(by rw [b8]; rfl), ⟨trivial, ⟨b10, ⟨trivial, ⟨b10, ⟨trivial, ⟨b10, ⟨⟨by omega, by omega⟩, ⟨b10, ⟨trivial, ⟨(by rw [b8]; rfl), ⟨b10, ⟨(by rw [b8]; rfl), trivial⟩⟩⟩⟩⟩⟩⟩⟩⟩⟩⟩⟩⟩⟩⟩⟩⟩⟩⟩⟩⟩⟩⟩⟩⟩⟩⟩⟩⟩) 3, ⟨b11, trivial⟩⟩⟩⟩⟩, ⟨(inR64 (by omega) (by omega)), ⟨trivial, trivial⟩⟩⟩⟩⟩
              intro a w hs
              refine then_norm ⟨i + 1, ⟨by omega, fun j hj => by rcases Nat.lt_succ_iff_lt_or_eq.1 hj with h | rfl; exact hall j h; simp only [nameOk, b1, b2, b8, b9, b10, b11]; rfl⟩, by omega, ?_⟩
              (have e0_ : (((i : Nat) : Int) + 1) = ((((i + 1) : Nat) : Int)) := (by first | rfl | (omega)); exact (SimL.cast hs (T' := [(0, vs s), (7, vi (s.size : Int)), (8, vi (((i + 1) : Nat) : Int))]) (B' := []) (by first | rfl | (rw [e0_]; done) | (simp only [e0_]; done) | (simp only [e0_]; rfl)) (by first | rfl | (rw [e0_]; done) | (simp only [e0_]; done) | (simp only [e0_]; rfl))).ren [] (by kernel_rfl) (by kernel_rfl) (by kernel_rfl))
  · skip
    have n1 := of_decide_eq_false b1
    refine way_L (tt := tt) (rs := []) (bs := [false]) (tk := [0]) (bk := []) (C := ((True) ∧ (True)) ∧ (((decide (((i : Nat) : Int) < (s.size : Int))) = false) ∧ (True))) (lv := .exit 0) (T' := [(0, vs s)]) (B' := []) mix hI hs ?_ ?_ ?_ ?_
    · exact trivial
    · kernel_rfl
    · exact ⟨⟨trivial, trivial⟩, ⟨b1, trivial⟩⟩
    intro a w hs
    refine then_exit ?_
    refine inb_hit ?_
    refine then_norm ?_
    rcases Bool.eq_false_or_eq_true (s.toList == (ba []).toList) with b12 | b12
    · skip
      have n12 := eq_of_beq b12
      refine way_L (tt := tt) (rs := [(9, ⟨[], [(3, false), (4, false), (5, false), (1006, false)], []⟩)]) (bs := []) (tk := [2]) (bk := []) (C := (tr 3 (((!(s.toList == (ba []).toList)) = false) ∧ (((!(s.toList == (ba []).toList)) = false) ∧ (((!(s.toList == (ba []).toList)) = false) ∧ (((!(s.toList == (ba []).toList)) = false) ∧ ((True) ∧ (True))))))) ∧ (True)) (lv := .ret) (T' := [(2, vb false)]) (B' := []) mix hI hs ?_ ?_ ?_ ?_
      · exact ⟨trivial, trivial⟩
      · kernel_rfl
      · exact ⟨tr_mk (⟨(by rw [b12]; rfl), ⟨(by rw [b12]; rfl), ⟨(by rw [b12]; rfl), ⟨(by rw [b12]; rfl), ⟨trivial, trivial⟩⟩⟩⟩⟩) 3, trivial⟩
      intro a w hs
      exact FnQ_cast (out := .val (vb false)) (by rw [nameF_yes (s := s) (fun j hj => hall j (by omega)), ← ba_nil_ne]; simp only [b1, b12]; try rfl) (ret_ok [] hs ⟨by kernel_rfl, rfl⟩)
    · skip
      have n12 := beq_eq_false_iff_ne.1 b12
      refine way_L (tt := tt) (rs := [(9, ⟨[], [(3, true), (4, true), (5, true), (1006, true)], []⟩)]) (bs := []) (tk := [2]) (bk := []) (C := (tr 3 (((!(s.toList == (ba []).toList)) = true) ∧ ((True) ∧ (((!(s.toList == (ba []).toList)) = true) ∧ ((True) ∧ (((!(s.toList == (ba []).toList)) = true) ∧ ((True) ∧ (((!(s.toList == (ba []).toList)) = true) ∧ ((True) ∧ (True)))))))))) ∧ (True)) (lv := .ret) (T' := [(2, vb (decide ((s.size : Int) ≤ 2000)))]) (B' := []) mix hI hs ?_ ?_ ?_ ?_
      · exact ⟨trivial, trivial⟩
      · kernel_rfl
      · exact ⟨tr_mk (⟨(by rw [b12]; rfl), ⟨trivial, ⟨(by rw [b12]; rfl), ⟨trivial, ⟨(by rw [b12]; rfl), ⟨trivial, ⟨(by rw [b12]; rfl), ⟨trivial, trivial⟩⟩⟩⟩⟩⟩⟩⟩) 3, trivial⟩
      intro a w hs
      exact FnQ_cast (out := .val (vb (decide ((s.size : Int) ≤ 2000)))) (by rw [nameF_yes (s := s) (fun j hj => hall j (by omega)), ← ba_nil_ne]; simp only [b1, b12]; try rfl) (ret_ok [] hs ⟨by kernel_rfl, rfl⟩)

end Go.Proofs.YtondpnipoogoiaaGreatDoor.F
namespace Go.Proofs.YtondpnipoogoiaaGreatDoor.F
open Go Go.RowKit Go.Proofs.Tryz
set_option linter.unusedVariables false
set_option linter.unusedSimpArgs false

def idxF {α : Type} (q : α → Bool) : List α → Int
  | [] => -1
  | x :: l => if q x = true then 0 else if idxF q l < 0 then -1 else idxF q l + 1
theorem idxF_no {α : Type} {q : α → Bool} : ∀ {l : List α}, (∀ j, j < l.length → ∀ d, q (l.getD j d) = false) → idxF q l = -1
  | [], _ => rfl
  | x :: l, h => by
    have h0 : q x = false := h 0 (by simp) x
    have h1 := idxF_no (l := l) (fun j hj d => h (j + 1) (by simpa using hj) d)
    simp [idxF, h0, h1]
theorem idxF_at {α : Type} {q : α → Bool} : ∀ {l : List α} {i : Nat} (d : α), i < l.length → q (l.getD i d) = true → (∀ j, j < i → ∀ d, q (l.getD j d) = false) → idxF q l = (i : Int)
  | [], _, _, h, _, _ => by simp at h
  | x :: l, 0, d, h, hq, _ => by
    have hq' : q x = true := hq
    simp [idxF, hq']
  | x :: l, i + 1, d, h, hq, hn => by
    have h0 : q x = false := hn 0 (by omega) x
    have h1 := idxF_at (l := l) (i := i) d (by simpa using h) hq (fun j hj d => hn (j + 1) (by omega) d)
    simp only [idxF, h0, h1]
    rw [if_neg (by decide), if_neg (by omega)]
    omega
theorem idxF_any {α : Type} (q : α → Bool) : ∀ l : List α, decide (idxF q l ≥ 0) = l.any q
  | [] => rfl
  | x :: l => by
    have h1 := idxF_any q l
    by_cases hq : q x = true
    · have e : idxF q (x :: l) = 0 := by simp [idxF, hq]
      rw [decide_eq_true (by omega), List.any_cons, hq]; rfl
    · have hq' : q x = false := by simpa using hq
      by_cases hn : idxF q l < 0
      · have e : idxF q (x :: l) = -1 := by simp [idxF, hq', hn]
        rw [List.any_cons, ← h1, hq', decide_eq_false (by omega), decide_eq_false (by omega)]; rfl
      · have e : idxF q (x :: l) = idxF q l + 1 := by simp [idxF, hq', hn]
        rw [List.any_cons, ← h1, hq', decide_eq_true (by omega), decide_eq_true (by omega)]; rfl
theorem getD_mem {α : Type} {l : List α} {i : Nat} (h : i < l.length) (d : α) : l.getD i d ∈ l := by
  rw [List.getD_eq_getElem?_getD, List.getElem?_eq_getElem h]; exact List.getElem_mem h
theorem getD_any {α : Type} {l : List α} {i : Nat} (h : i < l.length) (d d' : α) : l.getD i d = l.getD i d' := by
  rw [List.getD_eq_getElem?_getD, List.getD_eq_getElem?_getD, List.getElem?_eq_getElem h]; rfl
def small (s : ByteArray) : Prop := s.size < 4294967281
def badPath (p : List ByteArray) : Bool := ((p.length : Int) == 0) || (decide ((p.length : Int) > 63) || p.any fun n => !nameF n)
def checkF (l : List (List ByteArray)) : Bool := decide ((l.length : Int) ≤ 60) && !(l.any badPath)

set_option maxRecDepth 100000 in
theorem con84 (s : ByteArray) (hs0 : s.size < 4294967281) : Con Tryz.prog I0 84 [vs s] (.val (vb (!nameF s))) := by
  refine con_of Tryz.func84 rfl (Nat.le_of_ble_eq_true rfl) stab (fun w0 fz a hI hs => ?_)
  refine way_L (tt := tt) (rs := [(1, ⟨[(1, ciA 37 [vs s] [] [] (.val (vb (nameF s))))], [], []⟩)]) (bs := []) (tk := [2]) (bk := []) (C := ((True) ∧ (True)) ∧ (((True) ∧ ((okArgs [vs s]) ∧ ((True) ∧ ((True) ∧ (True))))) ∧ (True))) (lv := .ret) (T' := [(2, vb (!(nameF s)))]) (B' := []) mix hI hs ?_ ?_ ?_ ?_
  · exact ⟨⟨⟨ent37, con37 _ (by assumption)⟩, trivial⟩, trivial⟩
  · kernel_rfl
  · exact ⟨⟨trivial, trivial⟩, ⟨⟨trivial, ⟨rfl, ⟨trivial, ⟨trivial, trivial⟩⟩⟩⟩, trivial⟩⟩
  intro a w hs
  exact FnQ_cast (out := .val (vb (!(nameF s)))) (rfl) (ret_ok [] hs ⟨by kernel_rfl, rfl⟩)

set_option maxRecDepth 100000 in
theorem con91 (s : ByteArray) (hs0 : s.size < 4294967281) : Con Tryz.prog I0 91 [vs s] (.val (vb (!nameF s))) := by
  refine con_of Tryz.func91 rfl (Nat.le_of_ble_eq_true rfl) stab (fun w0 fz a hI hs => ?_)
  refine way_L (tt := tt) (rs := [(1, ⟨[(1, ciA 37 [vs s] [] [] (.val (vb (nameF s))))], [], []⟩)]) (bs := []) (tk := [2]) (bk := []) (C := ((True) ∧ (True)) ∧ (((True) ∧ ((okArgs [vs s]) ∧ ((True) ∧ ((True) ∧ (True))))) ∧ (True))) (lv := .ret) (T' := [(2, vb (!(nameF s)))]) (B' := []) mix hI hs ?_ ?_ ?_ ?_
  · exact ⟨⟨⟨ent37, con37 _ (by assumption)⟩, trivial⟩, trivial⟩
  · kernel_rfl
  · exact ⟨⟨trivial, trivial⟩, ⟨⟨trivial, ⟨rfl, ⟨trivial, ⟨trivial, trivial⟩⟩⟩⟩, trivial⟩⟩
  intro a w hs
  exact FnQ_cast (out := .val (vb (!(nameF s)))) (rfl) (ret_ok [] hs ⟨by kernel_rfl, rfl⟩)

set_option maxRecDepth 100000 in
theorem con140_84 (xs : List ByteArray) (hxs : ∀ x ∈ xs, small x) (hlen : xs.length < 4294967281) : Con Tryz.prog I0 140 [.row .str xs, .lit (.func (.func 84) #[] #[])] (.val (vi (idxF (fun n => !nameF n) xs))) := by
  refine con_of Tryz.func140 rfl (Nat.le_of_ble_eq_true rfl) stab (fun w0 fz a hI hs => ?_)
  refine wp_seq ?_
  refine way_L (tt := tt) (rs := []) (bs := []) (tk := [0, 1]) (bk := []) (C := (True) ∧ (True)) (lv := .norm) (T' := [(0, .row .str xs), (1, .lit (.func (.func 84) #[] #[]))]) (B' := []) mix hI hs ?_ ?_ ?_ ?_
  · exact trivial
  · kernel_rfl
  · exact ⟨trivial, trivial⟩
  intro a w hs
  refine then_norm ?_
  refine wp_seq ?_
  refine wp_seq ?_
  refine way_L (tt := tt) (rs := []) (bs := []) (tk := [0, 1, 7, 8]) (bk := []) (C := tr 3 (True)) (lv := .norm) (T' := [(0, .row .str xs), (1, .lit (.func (.func 84) #[] #[])), (7, vi (xs.length : Int)), (8, vi 0)]) (B' := []) mix hI hs ?_ ?_ ?_ ?_
  · exact trivial
  · kernel_rfl
  · exact tr_mk (trivial) 3
  intro a w hs
  refine then_norm ?_
  refine wp_block ?_
  refine loop_L (N := Tryz.f140.ntmps) (w0 := w0) (ow := noO fz) (α := Nat) (fun p => [(0, .row .str xs), (1, .lit (.func (.func 84) #[] #[])), (7, vi (xs.length : Int)), (8, vi ((p : Nat) : Int))]) (fun p => []) (fun p => p ≤ xs.length ∧ ∀ j, j < p → ∀ d, (fun n => !nameF n) (xs.getD j d) = false) (fun p => xs.length - p) 0 ?_ ?_ ?_
  · exact ⟨Nat.zero_le _, fun j hj => absurd hj (Nat.not_lt_zero _)⟩
  · (have e0_ : (0) = (((0 : Nat) : Int)) := (by first | rfl | (rfl)); exact (SimL.cast hs (T' := [(0, .row .str xs), (1, .lit (.func (.func 84) #[] #[])), (7, vi (xs.length : Int)), (8, vi ((0 : Nat) : Int))]) (B' := []) (by first | rfl | (rw [e0_]; done) | (simp only [e0_]; done) | (simp only [e0_]; rfl)) (by first | rfl | (rw [e0_]; done) | (simp only [e0_]; done) | (simp only [e0_]; rfl))).ren [] (by kernel_rfl) (by kernel_rfl) (by kernel_rfl))
  rintro i hJ a w hs
  obtain ⟨hi, hall⟩ := hJ
  rcases Bool.eq_false_or_eq_true (decide (((i : Nat) : Int) < (xs.length : Int))) with b1 | b1
  · skip
    have n1 := of_decide_eq_true b1
    rcases Bool.eq_false_or_eq_true (!nameF (xs.getD i (dflt .str))) with b2 | b2
    · skip
      refine way_L (tt := tt) (rs := [(4, ⟨[(5, ciA 84 [vs (xs.getD i (dflt .str))] [] [] (.val (vb (!nameF (xs.getD i (dflt .str))))))], [], []⟩)]) (bs := [true, true]) (tk := [4]) (bk := []) (C := ((True) ∧ (True)) ∧ ((((decide (((i : Nat) : Int) < (xs.length : Int))) = true) ∧ (True)) ∧ (((True) ∧ ((True) ∧ (True))) ∧ ((tr 3 ((0 ≤ ((i : Nat) : Int) ∧ ((i : Nat) : Int) < xs.length) ∧ ((True) ∧ ((okArgs [vs (xs.getD i (dflt .str))]) ∧ (True))))) ∧ (((!nameF (xs.getD i (dflt .str))) = true) ∧ (((True) ∧ ((True) ∧ (True))) ∧ (True))))))) (lv := .ret) (T' := [(4, vi ((i : Nat) : Int))]) (B' := []) mix hI hs ?_ ?_ ?_ ?_
      · exact ⟨⟨⟨ent84, con84 _ (hxs _ (getD_mem (by omega) _))⟩, trivial⟩, trivial⟩
      · kernel_rfl
      · exact ⟨⟨trivial, trivial⟩, ⟨⟨b1, trivial⟩, ⟨⟨trivial, ⟨trivial, trivial⟩⟩, ⟨tr_mk (⟨⟨by omega, by omega⟩, ⟨trivial, ⟨rfl, trivial⟩⟩⟩) 3, ⟨b2, ⟨⟨trivial, ⟨trivial, trivial⟩⟩, trivial⟩⟩⟩⟩⟩⟩
      intro a w hs
      refine then_ret ?_
      refine inb_ret ?_
      refine then_ret ?_
      exact FnQ_cast (out := .val (vi ((i : Nat) : Int))) (by rw [idxF_at (q := (fun n => !nameF n)) (i := i) (dflt .str) (by omega) (by first | exact b2 | (simp only [b2]; rfl)) (fun j hj d => hall j hj d)]) (ret_ok [] hs ⟨by kernel_rfl, rfl⟩)
    · skip
      refine way_L (tt := tt) (rs := [(4, ⟨[(5, ciA 84 [vs (xs.getD i (dflt .str))] [] [] (.val (vb (!nameF (xs.getD i (dflt .str))))))], [], []⟩)]) (bs := [true, false]) (tk := [0, 1, 7, 8]) (bk := []) (C := ((True) ∧ (True)) ∧ ((((decide (((i : Nat) : Int) < (xs.length : Int))) = true) ∧ (True)) ∧ ((((True) ∧ ((True) ∧ (True))) ∧ ((tr 3 ((0 ≤ ((i : Nat) : Int) ∧ ((i : Nat) : Int) < xs.length) ∧ ((True) ∧ ((okArgs [vs (xs.getD i (dflt .str))]) ∧ (True))))) ∧ (((!nameF (xs.getD i (dflt .str))) = false) ∧ (True)))) ∧ ((InR .i64 (((i : Nat) : Int) + 1)) ∧ ((True) ∧ (True)))))) (lv := .norm) (T' := [(0, .row .str xs), (1, .lit (.func (.func 84) #[] #[])), (7, vi (xs.length : Int)), (8, vi (((i : Nat) : Int) + 1))]) (B' := []) mix hI hs ?_ ?_ ?_ ?_
      · exact ⟨⟨⟨ent84, con84 _ (hxs _ (getD_mem (by omega) _))⟩, trivial⟩, trivial⟩
      · kernel_rfl
      · exact ⟨⟨trivial, trivial⟩, ⟨⟨b1, trivial⟩, ⟨⟨⟨trivial, ⟨trivial, trivial⟩⟩, ⟨tr_mk (⟨⟨by omega, by omega⟩, ⟨trivial, ⟨rfl, trivial⟩⟩⟩) 3, ⟨b2, trivial⟩⟩⟩, ⟨(inR64 (by omega) (by omega)), ⟨trivial, trivial⟩⟩⟩⟩⟩
      intro a w hs
      refine then_norm ⟨i + 1, ⟨by omega, fun j hj d => by rcases Nat.lt_succ_iff_lt_or_eq.1 hj with h | h; exact hall j h d; subst h; rw [getD_any (by omega) d (dflt .str)]; exact b2⟩, by omega, ?_⟩
      (have e0_ : (((i : Nat) : Int) + 1) = ((((i + 1) : Nat) : Int)) := (by first | rfl | (omega)); exact (SimL.cast hs (T' := [(0, .row .str xs), (1, .lit (.func (.func 84) #[] #[])), (7, vi (xs.length : Int)), (8, vi (((i + 1) : Nat) : Int))]) (B' := []) (by first | rfl | (rw [e0_]; done) | (simp only [e0_]; done) | (simp only [e0_]; rfl)) (by first | rfl | (rw [e0_]; done) | (simp only [e0_]; done) | (simp only [e0_]; rfl))).ren [] (by kernel_rfl) (by kernel_rfl) (by kernel_rfl))
  · skip
    have n1 := of_decide_eq_false b1
    refine way_L (tt := tt) (rs := []) (bs := [false]) (tk := []) (bk := []) (C := ((True) ∧ (True)) ∧ (((decide (((i : Nat) : Int) < (xs.length : Int))) = false) ∧ (True))) (lv := .exit 0) (T' := []) (B' := []) mix hI hs ?_ ?_ ?_ ?_
    · exact trivial
    · kernel_rfl
    · exact ⟨⟨trivial, trivial⟩, ⟨b1, trivial⟩⟩
    intro a w hs
    refine then_exit ?_
    refine inb_hit ?_
    refine then_norm ?_
    refine way_L (tt := tt) (rs := []) (bs := []) (tk := [4]) (bk := []) (C := ((True) ∧ (True)) ∧ (True)) (lv := .ret) (T' := [(4, vi (-1))]) (B' := []) mix hI hs ?_ ?_ ?_ ?_
    · exact trivial
    · kernel_rfl
    · exact ⟨⟨trivial, trivial⟩, trivial⟩
    intro a w hs
    exact FnQ_cast (out := .val (vi (-1))) (by rw [idxF_no (q := (fun n => !nameF n)) (fun j hj d => hall j (by omega) d)]) (ret_ok [] hs ⟨by kernel_rfl, rfl⟩)

set_option maxRecDepth 100000 in
theorem con83_84 (xs : List ByteArray) (hxs : ∀ x ∈ xs, small x) (hlen : xs.length < 4294967281) : Con Tryz.prog I0 83 [.row .str xs, .lit (.func (.func 84) #[] #[])] (.val (vb (xs.any (fun n => !nameF n)))) := by
  refine con_of Tryz.func83 rfl (Nat.le_of_ble_eq_true rfl) stab (fun w0 fz a hI hs => ?_)
  refine way_L (tt := tt) (rs := [(1, ⟨[(2, ciA 140 [.row .str xs, .lit (.func (.func 84) #[] #[])] [] [] (.val (vi (idxF (fun n => !nameF n) xs))))], [], []⟩)]) (bs := []) (tk := [4]) (bk := []) (C := ((True) ∧ (True)) ∧ (((True) ∧ ((True) ∧ ((okArgs [.row .str xs, .lit (.func (.func 84) #[] #[])]) ∧ ((True) ∧ ((True) ∧ (True)))))) ∧ (True))) (lv := .ret) (T' := [(4, vb (decide ((idxF (fun n => !nameF n) xs) ≥ 0)))]) (B' := []) mix hI hs ?_ ?_ ?_ ?_
  · exact ⟨⟨⟨ent140, con140_84 _ hxs hlen⟩, trivial⟩, trivial⟩
  · kernel_rfl
  · exact ⟨⟨trivial, trivial⟩, ⟨⟨trivial, ⟨trivial, ⟨rfl, ⟨trivial, ⟨trivial, trivial⟩⟩⟩⟩⟩, trivial⟩⟩
  intro a w hs
  exact FnQ_cast (out := .val (vb (decide ((idxF (fun n => !nameF n) xs) ≥ 0)))) (by rw [← idxF_any]) (ret_ok [] hs ⟨by kernel_rfl, rfl⟩)

set_option maxRecDepth 100000 in
theorem con140_91 (xs : List ByteArray) (hxs : ∀ x ∈ xs, small x) (hlen : xs.length < 4294967281) : Con Tryz.prog I0 140 [.row .str xs, .lit (.func (.func 91) #[] #[])] (.val (vi (idxF (fun n => !nameF n) xs))) := by
  refine con_of Tryz.func140 rfl (Nat.le_of_ble_eq_true rfl) stab (fun w0 fz a hI hs => ?_)
  refine wp_seq ?_
  refine way_L (tt := tt) (rs := []) (bs := []) (tk := [0, 1]) (bk := []) (C := (True) ∧ (True)) (lv := .norm) (T' := [(0, .row .str xs), (1, .lit (.func (.func 91) #[] #[]))]) (B' := []) mix hI hs ?_ ?_ ?_ ?_
  · exact trivial
  · kernel_rfl
  · exact ⟨trivial, trivial⟩
  intro a w hs
  refine then_norm ?_
  refine wp_seq ?_
  refine wp_seq ?_
  refine way_L (tt := tt) (rs := []) (bs := []) (tk := [0, 1, 7, 8]) (bk := []) (C := tr 3 (True)) (lv := .norm) (T' := [(0, .row .str xs), (1, .lit (.func (.func 91) #[] #[])), (7, vi (xs.length : Int)), (8, vi 0)]) (B' := []) mix hI hs ?_ ?_ ?_ ?_
  · exact trivial
  · kernel_rfl
  · exact tr_mk (trivial) 3
  intro a w hs
  refine then_norm ?_
  refine wp_block ?_
  refine loop_L (N := Tryz.f140.ntmps) (w0 := w0) (ow := noO fz) (α := Nat) (fun p => [(0, .row .str xs), (1, .lit (.func (.func 91) #[] #[])), (7, vi (xs.length : Int)), (8, vi ((p : Nat) : Int))]) (fun p => []) (fun p => p ≤ xs.length ∧ ∀ j, j < p → ∀ d, (fun n => !nameF n) (xs.getD j d) = false) (fun p => xs.length - p) 0 ?_ ?_ ?_
  · exact ⟨Nat.zero_le _, fun j hj => absurd hj (Nat.not_lt_zero _)⟩
  · (have e0_ : (0) = (((0 : Nat) : Int)) := (by first | rfl | (rfl)); exact (SimL.cast hs (T' := [(0, .row .str xs), (1, .lit (.func (.func 91) #[] #[])), (7, vi (xs.length : Int)), (8, vi ((0 : Nat) : Int))]) (B' := []) (by first | rfl | (rw [e0_]; done) | (simp only [e0_]; done) | (simp only [e0_]; rfl)) (by first | rfl | (rw [e0_]; done) | (simp only [e0_]; done) | (simp only [e0_]; rfl))).ren [] (by kernel_rfl) (by kernel_rfl) (by kernel_rfl))
  rintro i hJ a w hs
  obtain ⟨hi, hall⟩ := hJ
  rcases Bool.eq_false_or_eq_true (decide (((i : Nat) : Int) < (xs.length : Int))) with b1 | b1
  · skip
    have n1 := of_decide_eq_true b1
    rcases Bool.eq_false_or_eq_true (!nameF (xs.getD i (dflt .str))) with b2 | b2
    · skip
      refine way_L (tt := tt) (rs := [(4, ⟨[(5, ciA 91 [vs (xs.getD i (dflt .str))] [] [] (.val (vb (!nameF (xs.getD i (dflt .str))))))], [], []⟩)]) (bs := [true, true]) (tk := [4]) (bk := []) (C := ((True) ∧ (True)) ∧ ((((decide (((i : Nat) : Int) < (xs.length : Int))) = true) ∧ (True)) ∧ (((True) ∧ ((True) ∧ (True))) ∧ ((tr 3 ((0 ≤ ((i : Nat) : Int) ∧ ((i : Nat) : Int) < xs.length) ∧ ((True) ∧ ((okArgs [vs (xs.getD i (dflt .str))]) ∧ (True))))) ∧ (((!nameF (xs.getD i (dflt .str))) = true) ∧ (((True) ∧ ((True) ∧ (True))) ∧ (True))))))) (lv := .ret) (T' := [(4, vi ((i : Nat) : Int))]) (B' := []) mix hI hs ?_ ?_ ?_ ?_
      · exact ⟨⟨⟨ent91, con91 _ (hxs _ (getD_mem (by omega) _))⟩, trivial⟩, trivial⟩
      · kernel_rfl
      · exact ⟨⟨trivial, trivial⟩, ⟨⟨b1, trivial⟩, ⟨⟨trivial, ⟨trivial, trivial⟩⟩, ⟨tr_mk (⟨⟨by omega, by omega⟩, ⟨trivial, ⟨rfl, trivial⟩⟩⟩) 3, ⟨b2, ⟨⟨trivial, ⟨trivial, trivial⟩⟩, trivial⟩⟩⟩⟩⟩⟩
      intro a w hs
      refine then_ret ?_
      refine inb_ret ?_
      refine then_ret ?_
      exact FnQ_cast (out := .val (vi ((i : Nat) : Int))) (by rw [idxF_at (q := (fun n => !nameF n)) (i := i) (dflt .str) (by omega) (by first | exact b2 | (simp only [b2]; rfl)) (fun j hj d => hall j hj d)]) (ret_ok [] hs ⟨by kernel_rfl, rfl⟩)
    · skip
      refine way_L (tt := tt) (rs := [(4, ⟨[(5, ciA 91 [vs (xs.getD i (dflt .str))] [] [] (.val (vb (!nameF (xs.getD i (dflt .str))))))], [], []⟩)]) (bs := [true, false]) (tk := [0, 1, 7, 8]) (bk := []) (C := ((True) ∧ (True)) ∧ ((((decide (((i : Nat) : Int) < (xs.length : Int))) = true) ∧ (True)) ∧ ((((True) ∧ ((True) ∧ (True))) ∧ ((tr 3 ((0 ≤ ((i : Nat) : Int) ∧ ((i : Nat) : Int) < xs.length) ∧ ((True) ∧ ((okArgs [vs (xs.getD i (dflt .str))]) ∧ (True))))) ∧ (((!nameF (xs.getD i (dflt .str))) = false) ∧ (True)))) ∧ ((InR .i64 (((i : Nat) : Int) + 1)) ∧ ((True) ∧ (True)))))) (lv := .norm) (T' := [(0, .row .str xs), (1, .lit (.func (.func 91) #[] #[])), (7, vi (xs.length : Int)), (8, vi (((i : Nat) : Int) + 1))]) (B' := []) mix hI hs ?_ ?_ ?_ ?_
      · exact ⟨⟨⟨ent91, con91 _ (hxs _ (getD_mem (by omega) _))⟩, trivial⟩, trivial⟩
      · kernel_rfl
      · exact ⟨⟨trivial, trivial⟩, ⟨⟨b1, trivial⟩, ⟨⟨⟨trivial, ⟨trivial, trivial⟩⟩, ⟨tr_mk (⟨⟨by omega, by omega⟩, ⟨trivial, ⟨rfl, trivial⟩⟩⟩) 3, ⟨b2, trivial⟩⟩⟩, ⟨(inR64 (by omega) (by omega)), ⟨trivial, trivial⟩⟩⟩⟩⟩
      intro a w hs
      refine then_norm ⟨i + 1, ⟨by omega, fun j hj d => by rcases Nat.lt_succ_iff_lt_or_eq.1 hj with h | h; exact hall j h d; subst h; rw [getD_any (by omega) d (dflt .str)]; exact b2⟩, by omega, ?_⟩
      (have e0_ : (((i : Nat) : Int) + 1) = ((((i + 1) : Nat) : Int)) := (by first | rfl | (omega)); exact (SimL.cast hs (T' := [(0, .row .str xs), (1, .lit (.func (.func 91) #[] #[])), (7, vi (xs.length : Int)), (8, vi (((i + 1) : Nat) : Int))]) (B' := []) (by first | rfl | (rw [e0_]; done) | (simp only [e0_]; done) | (simp only [e0_]; rfl)) (by first | rfl | (rw [e0_]; done) | (simp only [e0_]; done) | (simp only [e0_]; rfl))).ren [] (by kernel_rfl) (by kernel_rfl) (by kernel_rfl))
  · skip
    have n1 := of_decide_eq_false b1
    refine way_L (tt := tt) (rs := []) (bs := [false]) (tk := []) (bk := []) (C := ((True) ∧ (True)) ∧ (((decide (((i : Nat) : Int) < (xs.length : Int))) = false) ∧ (True))) (lv := .exit 0) (T' := []) (B' := []) mix hI hs ?_ ?_ ?_ ?_
    · exact trivial
    · kernel_rfl
    · exact ⟨⟨trivial, trivial⟩, ⟨b1, trivial⟩⟩
    intro a w hs
    refine then_exit ?_
    refine inb_hit ?_
    refine then_norm ?_
    refine way_L (tt := tt) (rs := []) (bs := []) (tk := [4]) (bk := []) (C := ((True) ∧ (True)) ∧ (True)) (lv := .ret) (T' := [(4, vi (-1))]) (B' := []) mix hI hs ?_ ?_ ?_ ?_
    · exact trivial
    · kernel_rfl
    · exact ⟨⟨trivial, trivial⟩, trivial⟩
    intro a w hs
    exact FnQ_cast (out := .val (vi (-1))) (by rw [idxF_no (q := (fun n => !nameF n)) (fun j hj d => hall j (by omega) d)]) (ret_ok [] hs ⟨by kernel_rfl, rfl⟩)

set_option maxRecDepth 100000 in
theorem con83_91 (xs : List ByteArray) (hxs : ∀ x ∈ xs, small x) (hlen : xs.length < 4294967281) : Con Tryz.prog I0 83 [.row .str xs, .lit (.func (.func 91) #[] #[])] (.val (vb (xs.any (fun n => !nameF n)))) := by
  refine con_of Tryz.func83 rfl (Nat.le_of_ble_eq_true rfl) stab (fun w0 fz a hI hs => ?_)
  refine way_L (tt := tt) (rs := [(1, ⟨[(2, ciA 140 [.row .str xs, .lit (.func (.func 91) #[] #[])] [] [] (.val (vi (idxF (fun n => !nameF n) xs))))], [], []⟩)]) (bs := []) (tk := [4]) (bk := []) (C := ((True) ∧ (True)) ∧ (((True) ∧ ((True) ∧ ((okArgs [.row .str xs, .lit (.func (.func 91) #[] #[])]) ∧ ((True) ∧ ((True) ∧ (True)))))) ∧ (True))) (lv := .ret) (T' := [(4, vb (decide ((idxF (fun n => !nameF n) xs) ≥ 0)))]) (B' := []) mix hI hs ?_ ?_ ?_ ?_
  · exact ⟨⟨⟨ent140, con140_91 _ hxs hlen⟩, trivial⟩, trivial⟩
  · kernel_rfl
  · exact ⟨⟨trivial, trivial⟩, ⟨⟨trivial, ⟨trivial, ⟨rfl, ⟨trivial, ⟨trivial, trivial⟩⟩⟩⟩⟩, trivial⟩⟩
  intro a w hs
  exact FnQ_cast (out := .val (vb (decide ((idxF (fun n => !nameF n) xs) ≥ 0)))) (by rw [← idxF_any]) (ret_ok [] hs ⟨by kernel_rfl, rfl⟩)

set_option maxRecDepth 100000 in
theorem con90 (xs : List ByteArray) (hxs : ∀ x ∈ xs, small x) (hlen : xs.length < 4294967281) : Con Tryz.prog I0 90 [.row .str xs] (.val (vb (badPath xs))) := by
  refine con_of Tryz.func90 rfl (Nat.le_of_ble_eq_true rfl) stab (fun w0 fz a hI hs => ?_)
  rcases Bool.eq_false_or_eq_true ((xs.length : Int) == 0) with b1 | b1
  · skip
    have n1 := eq_of_beq b1
    refine way_L (tt := tt) (rs := [(1, ⟨[], [(4, false), (5, false), (6, false), (1007, true), (9, false), (10, false), (1011, true)], []⟩)]) (bs := []) (tk := [2]) (bk := []) (C := ((True) ∧ (True)) ∧ ((tr 4 ((((xs.length : Int) == 0) = true) ∧ ((((xs.length : Int) == 0) = true) ∧ ((((xs.length : Int) == 0) = true) ∧ ((((xs.length : Int) == 0) = true) ∧ ((True) ∧ ((true = true) ∧ ((true = true) ∧ ((true = true) ∧ ((True) ∧ (True))))))))))) ∧ (True))) (lv := .ret) (T' := [(2, vb true)]) (B' := []) mix hI hs ?_ ?_ ?_ ?_
    · exact ⟨trivial, trivial⟩
    · kernel_rfl
    · exact ⟨⟨trivial, trivial⟩, ⟨tr_mk (⟨b1, ⟨b1, ⟨b1, ⟨b1, ⟨trivial, ⟨rfl, ⟨rfl, ⟨rfl, ⟨trivial, trivial⟩⟩⟩⟩⟩⟩⟩⟩⟩) 4, trivial⟩⟩
    intro a w hs
    exact FnQ_cast (out := .val (vb true)) (by simp only [badPath, b1]; try rfl) (ret_ok [] hs ⟨by kernel_rfl, rfl⟩)
  · skip
    have n1 := beq_eq_false_iff_ne.1 b1
    rcases Bool.eq_false_or_eq_true (decide ((xs.length : Int) > 63)) with b2 | b2
    · skip
      have n2 := of_decide_eq_true b2
      refine way_L (tt := tt) (rs := [(1, ⟨[], [(4, true), (5, true), (6, true), (1007, false), (9, false), (10, false), (1011, true)], []⟩)]) (bs := []) (tk := [2]) (bk := []) (C := ((True) ∧ (True)) ∧ ((tr 4 ((((xs.length : Int) == 0) = false) ∧ ((True) ∧ ((((xs.length : Int) == 0) = false) ∧ ((True) ∧ ((((xs.length : Int) == 0) = false) ∧ ((True) ∧ ((((xs.length : Int) == 0) = false) ∧ ((True) ∧ (((decide ((xs.length : Int) > 63)) = true) ∧ (((decide ((xs.length : Int) > 63)) = true) ∧ (((decide ((xs.length : Int) > 63)) = true) ∧ ((True) ∧ (True)))))))))))))) ∧ (True))) (lv := .ret) (T' := [(2, vb true)]) (B' := []) mix hI hs ?_ ?_ ?_ ?_
      · exact ⟨trivial, trivial⟩
      · kernel_rfl
      · exact ⟨⟨trivial, trivial⟩, ⟨tr_mk (⟨b1, ⟨trivial, ⟨b1, ⟨trivial, ⟨b1, ⟨trivial, ⟨b1, ⟨trivial, ⟨b2, ⟨b2, ⟨b2, ⟨trivial, trivial⟩⟩⟩⟩⟩⟩⟩⟩⟩⟩⟩⟩) 4, trivial⟩⟩
      intro a w hs
      exact FnQ_cast (out := .val (vb true)) (by simp only [badPath, b1, b2]; try rfl) (ret_ok [] hs ⟨by kernel_rfl, rfl⟩)
    · skip
      have n2 := of_decide_eq_false b2
      refine way_L (tt := tt) (rs := [(1, ⟨[(10, ciA 83 [.row .str xs, .lit (.func (.func 91) #[] #[])] [] [] (.val (vb (xs.any (fun n => !nameF n)))))], [(4, true), (5, true), (6, true), (1007, false), (9, true), (10, true), (1011, false)], []⟩)]) (bs := []) (tk := [2]) (bk := []) (C := ((True) ∧ (True)) ∧ ((tr 4 ((((xs.length : Int) == 0) = false) ∧ ((True) ∧ ((((xs.length : Int) == 0) = false) ∧ ((True) ∧ ((((xs.length : Int) == 0) = false) ∧ ((True) ∧ ((((xs.length : Int) == 0) = false) ∧ ((True) ∧ (((decide ((xs.length : Int) > 63)) = false) ∧ ((True) ∧ (((decide ((xs.length : Int) > 63)) = false) ∧ ((okArgs [.row .str xs, .lit (.func (.func 91) #[] #[])]) ∧ (((decide ((xs.length : Int) > 63)) = false) ∧ ((True) ∧ (True)))))))))))))))) ∧ (True))) (lv := .ret) (T' := [(2, vb (xs.any (fun n => !nameF n)))]) (B' := []) mix hI hs ?_ ?_ ?_ ?_
      · exact ⟨⟨⟨ent83, con83_91 _ hxs hlen⟩, trivial⟩, trivial⟩
      · kernel_rfl
      · exact ⟨⟨trivial, trivial⟩, ⟨tr_mk (⟨b1, ⟨trivial, ⟨b1, ⟨trivial, ⟨b1, ⟨trivial, ⟨b1, ⟨trivial, ⟨b2, ⟨trivial, ⟨b2, ⟨rfl, ⟨b2, ⟨trivial, trivial⟩⟩⟩⟩⟩⟩⟩⟩⟩⟩⟩⟩⟩⟩) 4, trivial⟩⟩
      intro a w hs
      exact FnQ_cast (out := .val (vb (xs.any (fun n => !nameF n)))) (by simp only [badPath, b1, b2]; try rfl) (ret_ok [] hs ⟨by kernel_rfl, rfl⟩)

def smalls (p : List ByteArray) : Prop := (∀ x ∈ p, small x) ∧ p.length < 4294967281
set_option maxRecDepth 100000 in
theorem con146 (xs : List (List ByteArray)) (hxs : ∀ x ∈ xs, smalls x) (hlen : xs.length < 4294967281) : Con Tryz.prog I0 146 [.row .strs xs, .lit (.func (.func 90) #[] #[])] (.val (vi (idxF badPath xs))) := by
  refine con_of Tryz.func146 rfl (Nat.le_of_ble_eq_true rfl) stab (fun w0 fz a hI hs => ?_)
  refine wp_seq ?_
  refine way_L (tt := tt) (rs := []) (bs := []) (tk := [0, 1]) (bk := []) (C := (True) ∧ (True)) (lv := .norm) (T' := [(0, .row .strs xs), (1, .lit (.func (.func 90) #[] #[]))]) (B' := []) mix hI hs ?_ ?_ ?_ ?_
  · exact trivial
  · kernel_rfl
  · exact ⟨trivial, trivial⟩
  intro a w hs
  refine then_norm ?_
  refine wp_seq ?_
  refine wp_seq ?_
  refine way_L (tt := tt) (rs := []) (bs := []) (tk := [0, 1, 7, 8]) (bk := []) (C := tr 3 (True)) (lv := .norm) (T' := [(0, .row .strs xs), (1, .lit (.func (.func 90) #[] #[])), (7, vi (xs.length : Int)), (8, vi 0)]) (B' := []) mix hI hs ?_ ?_ ?_ ?_
  · exact trivial
  · kernel_rfl
  · exact tr_mk (trivial) 3
  intro a w hs
  refine then_norm ?_
  refine wp_block ?_
  refine loop_L (N := Tryz.f146.ntmps) (w0 := w0) (ow := noO fz) (α := Nat) (fun p => [(0, .row .strs xs), (1, .lit (.func (.func 90) #[] #[])), (7, vi (xs.length : Int)), (8, vi ((p : Nat) : Int))]) (fun p => []) (fun p => p ≤ xs.length ∧ ∀ j, j < p → ∀ d, badPath (xs.getD j d) = false) (fun p => xs.length - p) 0 ?_ ?_ ?_
  · exact ⟨Nat.zero_le _, fun j hj => absurd hj (Nat.not_lt_zero _)⟩
  · (have e0_ : (0) = (((0 : Nat) : Int)) := (by first | rfl | (rfl)); exact (SimL.cast hs (T' := [(0, .row .strs xs), (1, .lit (.func (.func 90) #[] #[])), (7, vi (xs.length : Int)), (8, vi ((0 : Nat) : Int))]) (B' := []) (by first | rfl | (rw [e0_]; done) | (simp only [e0_]; done) | (simp only [e0_]; rfl)) (by first | rfl | (rw [e0_]; done) | (simp only [e0_]; done) | (simp only [e0_]; rfl))).ren [] (by kernel_rfl) (by kernel_rfl) (by kernel_rfl))
  rintro i hJ a w hs
  obtain ⟨hi, hall⟩ := hJ
  rcases Bool.eq_false_or_eq_true (decide (((i : Nat) : Int) < (xs.length : Int))) with b1 | b1
  · skip
    have n1 := of_decide_eq_true b1
    rcases Bool.eq_false_or_eq_true (badPath (xs.getD i (dflt .strs))) with b2 | b2
    · skip
      refine way_L (tt := tt) (rs := [(4, ⟨[(5, ciA 90 [.row .str (xs.getD i (dflt .strs))] [] [] (.val (vb (badPath (xs.getD i (dflt .strs))))))], [], []⟩)]) (bs := [true, true]) (tk := [4]) (bk := []) (C := ((True) ∧ (True)) ∧ ((((decide (((i : Nat) : Int) < (xs.length : Int))) = true) ∧ (True)) ∧ (((True) ∧ ((True) ∧ (True))) ∧ ((tr 3 ((0 ≤ ((i : Nat) : Int) ∧ ((i : Nat) : Int) < xs.length) ∧ ((True) ∧ ((okArgs [.row .str (xs.getD i (dflt .strs))]) ∧ (True))))) ∧ (((badPath (xs.getD i (dflt .strs))) = true) ∧ (((True) ∧ ((True) ∧ (True))) ∧ (True))))))) (lv := .ret) (T' := [(4, vi ((i : Nat) : Int))]) (B' := []) mix hI hs ?_ ?_ ?_ ?_
      · exact ⟨⟨⟨ent90, con90 _ (hxs _ (getD_mem (by omega) _)).1 (hxs _ (getD_mem (by omega) _)).2⟩, trivial⟩, trivial⟩
      · kernel_rfl
      · exact ⟨⟨trivial, trivial⟩, ⟨⟨b1, trivial⟩, ⟨⟨trivial, ⟨trivial, trivial⟩⟩, ⟨tr_mk (⟨⟨by omega, by omega⟩, ⟨trivial, ⟨rfl, trivial⟩⟩⟩) 3, ⟨b2, ⟨⟨trivial, ⟨trivial, trivial⟩⟩, trivial⟩⟩⟩⟩⟩⟩
      intro a w hs
      refine then_ret ?_
      refine inb_ret ?_
      refine then_ret ?_
      exact FnQ_cast (out := .val (vi ((i : Nat) : Int))) (by rw [idxF_at (q := badPath) (i := i) (dflt .strs) (by omega) b2 (fun j hj d => hall j hj d)]) (ret_ok [] hs ⟨by kernel_rfl, rfl⟩)
    · skip
      refine way_L (tt := tt) (rs := [(4, ⟨[(5, ciA 90 [.row .str (xs.getD i (dflt .strs))] [] [] (.val (vb (badPath (xs.getD i (dflt .strs))))))], [], []⟩)]) (bs := [true, false]) (tk := [0, 1, 7, 8]) (bk := []) (C := ((True) ∧ (True)) ∧ ((((decide (((i : Nat) : Int) < (xs.length : Int))) = true) ∧ (True)) ∧ ((((True) ∧ ((True) ∧ (True))) ∧ ((tr 3 ((0 ≤ ((i : Nat) : Int) ∧ ((i : Nat) : Int) < xs.length) ∧ ((True) ∧ ((okArgs [.row .str (xs.getD i (dflt .strs))]) ∧ (True))))) ∧ (((badPath (xs.getD i (dflt .strs))) = false) ∧ (True)))) ∧ ((InR .i64 (((i : Nat) : Int) + 1)) ∧ ((True) ∧ (True)))))) (lv := .norm) (T' := [(0, .row .strs xs), (1, .lit (.func (.func 90) #[] #[])), (7, vi (xs.length : Int)), (8, vi (((i : Nat) : Int) + 1))]) (B' := []) mix hI hs ?_ ?_ ?_ ?_
      · exact ⟨⟨⟨ent90, con90 _ (hxs _ (getD_mem (by omega) _)).1 (hxs _ (getD_mem (by omega) _)).2⟩, trivial⟩, trivial⟩
      · kernel_rfl
      · exact ⟨⟨trivial, trivial⟩, ⟨⟨b1, trivial⟩, ⟨⟨⟨trivial, ⟨trivial, trivial⟩⟩, ⟨tr_mk (⟨⟨by omega, by omega⟩, ⟨trivial, ⟨rfl, trivial⟩⟩⟩) 3, ⟨b2, trivial⟩⟩⟩, ⟨(inR64 (by omega) (by omega)), ⟨trivial, trivial⟩⟩⟩⟩⟩
      intro a w hs
      refine then_norm ⟨i + 1, ⟨by omega, fun j hj d => by rcases Nat.lt_succ_iff_lt_or_eq.1 hj with h | h; exact hall j h d; subst h; rw [getD_any (by omega) d (dflt .strs)]; exact b2⟩, by omega, ?_⟩
      (have e0_ : (((i : Nat) : Int) + 1) = ((((i + 1) : Nat) : Int)) := (by first | rfl | (omega)); exact (SimL.cast hs (T' := [(0, .row .strs xs), (1, .lit (.func (.func 90) #[] #[])), (7, vi (xs.length : Int)), (8, vi (((i + 1) : Nat) : Int))]) (B' := []) (by first | rfl | (rw [e0_]; done) | (simp only [e0_]; done) | (simp only [e0_]; rfl)) (by first | rfl | (rw [e0_]; done) | (simp only [e0_]; done) | (simp only [e0_]; rfl))).ren [] (by kernel_rfl) (by kernel_rfl) (by kernel_rfl))
  · skip
    have n1 := of_decide_eq_false b1
    refine way_L (tt := tt) (rs := []) (bs := [false]) (tk := []) (bk := []) (C := ((True) ∧ (True)) ∧ (((decide (((i : Nat) : Int) < (xs.length : Int))) = false) ∧ (True))) (lv := .exit 0) (T' := []) (B' := []) mix hI hs ?_ ?_ ?_ ?_
    · exact trivial
    · kernel_rfl
    · exact ⟨⟨trivial, trivial⟩, ⟨b1, trivial⟩⟩
    intro a w hs
    refine then_exit ?_
    refine inb_hit ?_
    refine then_norm ?_
    refine way_L (tt := tt) (rs := []) (bs := []) (tk := [4]) (bk := []) (C := ((True) ∧ (True)) ∧ (True)) (lv := .ret) (T' := [(4, vi (-1))]) (B' := []) mix hI hs ?_ ?_ ?_ ?_
    · exact trivial
    · kernel_rfl
    · exact ⟨⟨trivial, trivial⟩, trivial⟩
    intro a w hs
    exact FnQ_cast (out := .val (vi (-1))) (by rw [idxF_no (q := badPath) (fun j hj d => hall j (by omega) d)]) (ret_ok [] hs ⟨by kernel_rfl, rfl⟩)

set_option maxRecDepth 100000 in
theorem con89 (xs : List (List ByteArray)) (hxs : ∀ x ∈ xs, smalls x) (hlen : xs.length < 4294967281) : Con Tryz.prog I0 89 [.row .strs xs, .lit (.func (.func 90) #[] #[])] (.val (vb (xs.any badPath))) := by
  refine con_of Tryz.func89 rfl (Nat.le_of_ble_eq_true rfl) stab (fun w0 fz a hI hs => ?_)
  refine way_L (tt := tt) (rs := [(1, ⟨[(2, ciA 146 [.row .strs xs, .lit (.func (.func 90) #[] #[])] [] [] (.val (vi (idxF badPath xs))))], [], []⟩)]) (bs := []) (tk := [4]) (bk := []) (C := ((True) ∧ (True)) ∧ (((True) ∧ ((True) ∧ ((okArgs [.row .strs xs, .lit (.func (.func 90) #[] #[])]) ∧ ((True) ∧ ((True) ∧ (True)))))) ∧ (True))) (lv := .ret) (T' := [(4, vb (decide ((idxF badPath xs) ≥ 0)))]) (B' := []) mix hI hs ?_ ?_ ?_ ?_
  · exact ⟨⟨⟨ent146, con146 _ hxs hlen⟩, trivial⟩, trivial⟩
  · kernel_rfl
  · exact ⟨⟨trivial, trivial⟩, ⟨⟨trivial, ⟨trivial, ⟨rfl, ⟨trivial, ⟨trivial, trivial⟩⟩⟩⟩⟩, trivial⟩⟩
  intro a w hs
  exact FnQ_cast (out := .val (vb (decide ((idxF badPath xs) ≥ 0)))) (by rw [← idxF_any]) (ret_ok [] hs ⟨by kernel_rfl, rfl⟩)

set_option maxRecDepth 100000 in
theorem con39 (xs : List (List ByteArray)) (hxs : ∀ x ∈ xs, smalls x) (hlen : xs.length < 4294967281) : Con Tryz.prog I0 39 [.row .strs xs] (.val (vb (checkF xs))) := by
  refine con_of Tryz.func39 rfl (Nat.le_of_ble_eq_true rfl) stab (fun w0 fz a hI hs => ?_)
  rcases Bool.eq_false_or_eq_true (decide ((xs.length : Int) ≤ 60)) with b1 | b1
  · skip
    have n1 := of_decide_eq_true b1
    refine way_L (tt := tt) (rs := [(1, ⟨[(5, ciA 89 [.row .strs xs, .lit (.func (.func 90) #[] #[])] [] [] (.val (vb (xs.any badPath))))], [(4, true), (5, true), (6, true), (1007, true)], []⟩)]) (bs := []) (tk := [2]) (bk := []) (C := ((True) ∧ (True)) ∧ ((tr 4 (((decide ((xs.length : Int) ≤ 60)) = true) ∧ ((True) ∧ (((decide ((xs.length : Int) ≤ 60)) = true) ∧ ((okArgs [.row .strs xs, .lit (.func (.func 90) #[] #[])]) ∧ (((decide ((xs.length : Int) ≤ 60)) = true) ∧ ((True) ∧ (((decide ((xs.length : Int) ≤ 60)) = true) ∧ ((True) ∧ (True)))))))))) ∧ (True))) (lv := .ret) (T' := [(2, vb (!(xs.any badPath)))]) (B' := []) mix hI hs ?_ ?_ ?_ ?_
    · exact ⟨⟨⟨ent89, con89 _ hxs hlen⟩, trivial⟩, trivial⟩
    · kernel_rfl
    · exact ⟨⟨trivial, trivial⟩, ⟨tr_mk (⟨b1, ⟨trivial, ⟨b1, ⟨rfl, ⟨b1, ⟨trivial, ⟨b1, ⟨trivial, trivial⟩⟩⟩⟩⟩⟩⟩⟩) 4, trivial⟩⟩
    intro a w hs
    exact FnQ_cast (out := .val (vb (!(xs.any badPath)))) (by simp only [checkF, b1]; try rfl) (ret_ok [] hs ⟨by kernel_rfl, rfl⟩)
  · skip
    have n1 := of_decide_eq_false b1
    refine way_L (tt := tt) (rs := [(1, ⟨[], [(4, false), (5, false), (6, false), (1007, false)], []⟩)]) (bs := []) (tk := [2]) (bk := []) (C := ((True) ∧ (True)) ∧ ((tr 4 (((decide ((xs.length : Int) ≤ 60)) = false) ∧ (((decide ((xs.length : Int) ≤ 60)) = false) ∧ (((decide ((xs.length : Int) ≤ 60)) = false) ∧ (((decide ((xs.length : Int) ≤ 60)) = false) ∧ ((True) ∧ (True))))))) ∧ (True))) (lv := .ret) (T' := [(2, vb false)]) (B' := []) mix hI hs ?_ ?_ ?_ ?_
    · exact ⟨trivial, trivial⟩
    · kernel_rfl
    · exact ⟨⟨trivial, trivial⟩, ⟨tr_mk (⟨b1, ⟨b1, ⟨b1, ⟨b1, ⟨trivial, trivial⟩⟩⟩⟩⟩) 4, trivial⟩⟩
    intro a w hs
    exact FnQ_cast (out := .val (vb false)) (by simp only [checkF, b1]; try rfl) (ret_ok [] hs ⟨by kernel_rfl, rfl⟩)

end Go.Proofs.YtondpnipoogoiaaGreatDoor.F
namespace Go.Proofs.YtondpnipoogoiaaGreatDoor.F
open Go Go.RowKit Go.Proofs.Tryz
set_option linter.unusedVariables false
set_option linter.unusedSimpArgs false

theorem splitB_sizes (sep : ByteArray) : ∀ (k : Nat) (s : ByteArray), ∀ x ∈ Lib.splitB sep 0 k s, x.size ≤ s.size
  | 0, s, x, h => by simp [Lib.splitB] at h; subst h; exact Nat.le_refl _
  | k + 1, s, x, h => by
    unfold Lib.splitB at h
    split at h
    · simp at h; subst h; exact Nat.le_refl _
    · rcases List.mem_cons.1 h with rfl | h
      · rw [ByteArray.size_extract]; omega
      · have := splitB_sizes sep k _ x h
        rw [ByteArray.size_extract] at this; omega
theorem split_size {s : ByteArray} {c : UInt8} : ∀ x ∈ splitF s c, x.size ≤ s.size := splitB_sizes _ _ _
theorem split_len (s : ByteArray) (c : UInt8) : (splitF s c).length ≤ s.size + 1 := by
  have := Lib.splitB_length_le (ba [c]) 0 (Lib.countB s (ba [c])) s
  have := Lib.countB_le (ba [c]) (Nat.le_refl _) s.size s (Nat.le_refl _)
  unfold splitF; omega
theorem split_smalls {s : ByteArray} (c : UInt8) (h : s.size < 4294960000) : smalls (splitF s c) := ⟨fun x hx => by have := split_size x hx; unfold small; omega, by have := split_len s c; omega⟩
theorem sz_at {s : ByteArray} {c : UInt8} {i : Nat} (h : s.size < 4294960000) (hi : i < (splitF s c).length) (d : ByteArray) : ((splitF s c).getD i d).size < 4294960000 := by
  have := split_size _ (getD_mem hi d); omega
def badPiece (p : ByteArray) : Bool := (splitF p 46).any fun n => !nameF n
def cutsF (s : ByteArray) : List (List ByteArray) := (splitF s 44).map fun p => splitF p 46
def parseF (s : ByteArray) : List (List ByteArray) × Int :=
  if (s.toList == (ba []).toList) = true then ([], 0) else if (splitF s 44).any badPiece = true then ([], 2) else if checkF (cutsF s) = true then (cutsF s, 0) else ([], 4)
theorem any_at {α : Type} {q : α → Bool} {l : List α} {i : Nat} (h : i < l.length) (d : α) (hq : q (l.getD i d) = true) : l.any q = true := List.any_eq_true.2 ⟨_, getD_mem h d, hq⟩
theorem any_no {α : Type} {q : α → Bool} {l : List α} (h : ∀ j, j < l.length → ∀ d, q (l.getD j d) = false) : l.any q = false := by
  rw [List.any_eq_false]
  intro x hx
  obtain ⟨i, hi, rfl⟩ := List.getElem_of_mem hx
  have := h i hi l[i]
  rw [List.getD_eq_getElem?_getD, List.getElem?_eq_getElem hi] at this
  simpa using this
theorem take_map_succ {α β : Type} {f : α → β} {l : List α} {i : Nat} (h : i < l.length) (d : α) : (l.take i).map f ++ [f (l.getD i d)] = (l.take (i + 1)).map f := by
  rw [List.take_succ_eq_append_getElem h, List.map_append, List.getD_eq_getElem?_getD, List.getElem?_eq_getElem h]; rfl
theorem take_map_len {α β : Type} {f : α → β} {l : List α} {i : Nat} (h : i ≤ l.length) : ((l.take i).map f).length = i := by simp; omega

set_option maxRecDepth 100000 in
theorem con31 (s : ByteArray) (hs0 : s.size < 4294960000) : Con Tryz.prog I0 31 [vs s] (.val (.tup [.row .strs ((parseF s).1), vi ((parseF s).2)])) := by
  refine con_of Tryz.func31 rfl (Nat.le_of_ble_eq_true rfl) stab (fun w0 fz a hI hs => ?_)
  refine wp_seq ?_
  refine way_L (tt := tt) (rs := []) (bs := []) (tk := [0]) (bk := []) (C := (True) ∧ ((True) ∧ (True))) (lv := .norm) (T' := [(0, vs s)]) (B' := []) mix hI hs ?_ ?_ ?_ ?_
  · exact trivial
  · kernel_rfl
  · exact ⟨trivial, ⟨trivial, trivial⟩⟩
  intro a w hs
  refine then_norm ?_
  refine wp_seq ?_
  rcases Bool.eq_false_or_eq_true (s.toList == (ba []).toList) with b1 | b1
  · skip
    have n1 := eq_of_beq b1
    refine way_L (tt := tt) (rs := []) (bs := [true]) (tk := [2, 3]) (bk := []) (C := ((True) ∧ ((True) ∧ (True))) ∧ (((s.toList == (ba []).toList) = true) ∧ (((True) ∧ ((True) ∧ (True))) ∧ (True)))) (lv := .ret) (T' := [(2, nilv), (3, vi 0)]) (B' := []) mix hI hs ?_ ?_ ?_ ?_
    · exact trivial
    · kernel_rfl
    · exact ⟨⟨trivial, ⟨trivial, trivial⟩⟩, ⟨b1, ⟨⟨trivial, ⟨trivial, trivial⟩⟩, trivial⟩⟩⟩
    intro a w hs
    refine then_ret ?_
    exact FnQ_cast (out := .val (.tup [.row .strs ([]), vi 0])) (by simp only [parseF]; rw [if_pos b1]) (ret_ok [] hs ⟨by kernel_rfl, rfl⟩)
  · skip
    have n1 := beq_eq_false_iff_ne.1 b1
    refine way_L (tt := tt) (rs := []) (bs := [false]) (tk := [0]) (bk := []) (C := ((True) ∧ ((True) ∧ (True))) ∧ (((s.toList == (ba []).toList) = false) ∧ (True))) (lv := .norm) (T' := [(0, vs s)]) (B' := []) mix hI hs ?_ ?_ ?_ ?_
    · exact trivial
    · kernel_rfl
    · exact ⟨⟨trivial, ⟨trivial, trivial⟩⟩, ⟨b1, trivial⟩⟩
    intro a w hs
    refine then_norm ?_
    refine wp_seq ?_
    refine way_L (tt := tt) (rs := []) (bs := []) (tk := [0, 4]) (bk := []) (C := (True) ∧ (True)) (lv := .norm) (T' := [(0, vs s), (4, nilv)]) (B' := []) mix hI hs ?_ ?_ ?_ ?_
    · exact trivial
    · kernel_rfl
    · exact ⟨trivial, trivial⟩
    intro a w hs
    refine then_norm ?_
    refine wp_seq ?_
    refine wp_seq ?_
    refine way_L (tt := tt) (rs := [(4, ⟨[(1, ciA 82 [vs s, vs (ba [44])] [] [] (.own 9 .str (splitF s 44)))], [], []⟩)]) (bs := []) (tk := [4, 11, 12, 13]) (bk := [5001]) (C := (True) ∧ ((okArgs [vs s, vs (ba [44])]) ∧ ((True) ∧ ((True) ∧ (True))))) (lv := .norm) (T' := [(4, nilv), (11, .own 5001), (12, vi ((splitF s 44).length : Int)), (13, vi 0)]) (B' := [(5001, .sl 9 .str (splitF s 44))]) mix hI hs ?_ ?_ ?_ ?_
    · exact ⟨⟨⟨ent82, conSplit _ _ (by first | omega | (have := sz_at hs0 (c := 44) (i := i) (by omega) (dflt .str); omega))⟩, trivial⟩, trivial⟩
    · kernel_rfl
    · exact ⟨trivial, ⟨rfl, ⟨trivial, ⟨trivial, trivial⟩⟩⟩⟩
    intro a w hs
    refine then_norm ?_
    refine wp_block ?_
    refine loop_L (N := Tryz.f31.ntmps) (w0 := w0) (ow := noO fz) (α := Nat) (fun p => [(4, .own 90000001), (11, .own 5001), (12, vi ((splitF s 44).length : Int)), (13, vi ((p : Nat) : Int))]) (fun p => [(5001, .sl 9 .str (splitF s 44)), (90000001, .sl 26 .strs (((splitF s 44).take p).map (fun p => splitF p 46)))]) (fun p => p ≤ (splitF s 44).length ∧ ∀ j, j < p → ∀ d, badPiece ((splitF s 44).getD j d) = false) (fun p => (splitF s 44).length - p) 0 ?_ ?_ ?_
    · exact ⟨Nat.zero_le _, fun j hj => absurd hj (Nat.not_lt_zero _)⟩
    · (have hs := (hs.nil 10000001 4 26 .strs (by kernel_rfl) (by decide) (by kernel_rfl) (by kernel_rfl)).ren (T' := [(4, .own 10000001), (11, .own 5001), (12, vi ((splitF s 44).length : Int)), (13, vi 0)]) (B' := [(5001, .sl 9 .str (splitF s 44)), (10000001, .sl 26 .strs ([]))]) [(5001, 5001), (10000001, 10000001)] (by kernel_rfl) (by kernel_rfl) (by kernel_rfl); exact (SimL.cast hs (T' := [(4, .own 10000001), (11, .own 5001), (12, vi ((splitF s 44).length : Int)), (13, vi ((0 : Nat) : Int))]) (B' := [(5001, .sl 9 .str (splitF s 44)), (10000001, .sl 26 .strs (((splitF s 44).take 0).map (fun p => splitF p 46)))]) (by rfl) rfl).ren [(5001, 5001), (90000001, 10000001)] (by kernel_rfl) (by kernel_rfl) (by kernel_rfl))
    rintro i hJ a w hs
    obtain ⟨hi, hall⟩ := hJ
    have hspl := split_len s 44
    have htk := take_map_len (f := fun p => splitF p 46) hi
    rcases Bool.eq_false_or_eq_true (decide (((i : Nat) : Int) < ((splitF s 44).length : Int))) with b2 | b2
    · skip
      have n2 := of_decide_eq_true b2
      rcases Bool.eq_false_or_eq_true ((splitF ((splitF s 44).getD i (dflt .str)) 46).any (fun n => !nameF n)) with b3 | b3
      · skip
        refine way_L (tt := tt) (rs := [(7, ⟨[(1, ciA 82 [vs ((splitF s 44).getD i (dflt .str)), vs (ba [46])] [] [] (.own 9 .str (splitF ((splitF s 44).getD i (dflt .str)) 46)))], [], []⟩), (8, ⟨[(1, ciA 83 [.row .str (splitF ((splitF s 44).getD i (dflt .str)) 46), .lit (.func (.func 84) #[] #[])] [8001] [] (.val (vb ((splitF ((splitF s 44).getD i (dflt .str)) 46).any (fun n => !nameF n)))))], [], []⟩)]) (bs := [true, true]) (tk := [2, 3]) (bk := []) (C := ((True) ∧ (True)) ∧ ((((decide (((i : Nat) : Int) < ((splitF s 44).length : Int))) = true) ∧ (True)) ∧ (((0 ≤ ((i : Nat) : Int) ∧ ((i : Nat) : Int) < (splitF s 44).length) ∧ ((i < (splitF s 44).length) ∧ ((True) ∧ (True)))) ∧ (((True) ∧ ((okArgs [vs ((splitF s 44).getD i (dflt .str)), vs (ba [46])]) ∧ ((True) ∧ (True)))) ∧ (((True) ∧ ((okArgs [.row .str (splitF ((splitF s 44).getD i (dflt .str)) 46), .lit (.func (.func 84) #[] #[])]) ∧ (True))) ∧ ((((splitF ((splitF s 44).getD i (dflt .str)) 46).any (fun n => !nameF n)) = true) ∧ (((True) ∧ ((True) ∧ (True))) ∧ (True)))))))) (lv := .ret) (T' := [(2, nilv), (3, vi 2)]) (B' := []) mix hI hs ?_ ?_ ?_ ?_
        · exact ⟨⟨⟨ent82, conSplit _ _ (by first | omega | (have := sz_at hs0 (c := 44) (i := i) (by omega) (dflt .str); omega))⟩, trivial⟩, ⟨⟨⟨ent83, con83_84 _ (split_smalls 46 (sz_at hs0 (by omega) _)).1 (split_smalls 46 (sz_at hs0 (by omega) _)).2⟩, trivial⟩, trivial⟩⟩
        · kernel_rfl
        · exact ⟨⟨trivial, trivial⟩, ⟨⟨b2, trivial⟩, ⟨⟨⟨by omega, by omega⟩, ⟨(by omega), ⟨trivial, trivial⟩⟩⟩, ⟨⟨trivial, ⟨rfl, ⟨trivial, trivial⟩⟩⟩, ⟨⟨trivial, ⟨rfl, trivial⟩⟩, ⟨b3, ⟨⟨trivial, ⟨trivial, trivial⟩⟩, trivial⟩⟩⟩⟩⟩⟩⟩
        intro a w hs
        refine then_ret ?_
        refine inb_ret ?_
        refine then_ret ?_
        exact FnQ_cast (out := .val (.tup [.row .strs ([]), vi 2])) (by have h1 : (splitF s 44).any badPiece = true := any_at (by omega) (dflt .str) b3; simp only [parseF]; rw [if_neg (by rw [b1]; decide), if_pos h1]) (ret_ok [] hs ⟨by kernel_rfl, rfl⟩)
      · skip
        refine way_L (tt := tt) (rs := [(7, ⟨[(1, ciA 82 [vs ((splitF s 44).getD i (dflt .str)), vs (ba [46])] [] [] (.own 9 .str (splitF ((splitF s 44).getD i (dflt .str)) 46)))], [], []⟩), (8, ⟨[(1, ciA 83 [.row .str (splitF ((splitF s 44).getD i (dflt .str)) 46), .lit (.func (.func 84) #[] #[])] [8001] [] (.val (vb ((splitF ((splitF s 44).getD i (dflt .str)) 46).any (fun n => !nameF n)))))], [], []⟩)]) (bs := [true, false]) (tk := [4, 11, 12, 13]) (bk := [5001, 11003]) (C := ((True) ∧ (True)) ∧ ((((decide (((i : Nat) : Int) < ((splitF s 44).length : Int))) = true) ∧ (True)) ∧ ((((0 ≤ ((i : Nat) : Int) ∧ ((i : Nat) : Int) < (splitF s 44).length) ∧ ((i < (splitF s 44).length) ∧ ((True) ∧ (True)))) ∧ (((True) ∧ ((okArgs [vs ((splitF s 44).getD i (dflt .str)), vs (ba [46])]) ∧ ((True) ∧ (True)))) ∧ ((((True) ∧ ((okArgs [.row .str (splitF ((splitF s 44).getD i (dflt .str)) 46), .lit (.func (.func 84) #[] #[])]) ∧ (True))) ∧ ((((splitF ((splitF s 44).getD i (dflt .str)) 46).any (fun n => !nameF n)) = false) ∧ (True))) ∧ (tr 3 (((((((splitF s 44).take i).map (fun p => splitF p 46)).length + 1) * 24 : Nat) ≤ 140737488355328 ∧ (((splitF s 44).take i).map (fun p => splitF p 46)).length + 1 ≤ 140737488355328) ∧ ((True) ∧ (True))))))) ∧ ((InR .i64 (((i : Nat) : Int) + 1)) ∧ ((True) ∧ (True)))))) (lv := .norm) (T' := [(4, .own 11003), (11, .own 5001), (12, vi ((splitF s 44).length : Int)), (13, vi (((i : Nat) : Int) + 1))]) (B' := [(5001, .sl 9 .str (splitF s 44)), (11003, .sl 26 .strs ((((splitF s 44).take i).map (fun p => splitF p 46)) ++ ([splitF ((splitF s 44).getD i (dflt .str)) 46])))]) mix hI hs ?_ ?_ ?_ ?_
        · exact ⟨⟨⟨ent82, conSplit _ _ (by first | omega | (have := sz_at hs0 (c := 44) (i := i) (by omega) (dflt .str); omega))⟩, trivial⟩, ⟨⟨⟨ent83, con83_84 _ (split_smalls 46 (sz_at hs0 (by omega) _)).1 (split_smalls 46 (sz_at hs0 (by omega) _)).2⟩, trivial⟩, trivial⟩⟩
        · kernel_rfl
        · exact ⟨⟨trivial, trivial⟩, ⟨⟨b2, trivial⟩, ⟨⟨⟨⟨by omega, by omega⟩, ⟨(by omega), ⟨trivial, trivial⟩⟩⟩, ⟨⟨trivial, ⟨rfl, ⟨trivial, trivial⟩⟩⟩, ⟨⟨⟨trivial, ⟨rfl, trivial⟩⟩, ⟨b3, trivial⟩⟩, tr_mk (⟨⟨by omega, by omega⟩, ⟨trivial, trivial⟩⟩) 3⟩⟩⟩, ⟨(inR64 (by omega) (by omega)), ⟨trivial, trivial⟩⟩⟩⟩⟩
        intro a w hs
        refine then_norm ⟨i + 1, ⟨by omega, fun j hj d => by rcases Nat.lt_succ_iff_lt_or_eq.1 hj with h | h; exact hall j h d; subst h; rw [getD_any (by omega) d (dflt .str)]; exact b3⟩, by omega, ?_⟩
        (have e0_ : (((i : Nat) : Int) + 1) = ((((i + 1) : Nat) : Int)) := (by first | rfl | (omega)); have e1_ : ((((splitF s 44).take i).map (fun p => splitF p 46)) ++ ([splitF ((splitF s 44).getD i (dflt .str)) 46])) = (((splitF s 44).take (i + 1)).map (fun p => splitF p 46)) := (by first | rfl | (exact take_map_succ (f := fun p => splitF p 46) (by omega) _)); exact (SimL.cast hs (T' := [(4, .own 11003), (11, .own 5001), (12, vi ((splitF s 44).length : Int)), (13, vi (((i + 1) : Nat) : Int))]) (B' := [(5001, .sl 9 .str (splitF s 44)), (11003, .sl 26 .strs (((splitF s 44).take (i + 1)).map (fun p => splitF p 46)))]) (by first | rfl | (rw [e0_, e1_]; done) | (simp only [e0_, e1_]; done) | (simp only [e0_, e1_]; rfl)) (by first | rfl | (rw [e0_, e1_]; done) | (simp only [e0_, e1_]; done) | (simp only [e0_, e1_]; rfl))).ren [(5001, 5001), (90000001, 11003)] (by kernel_rfl) (by kernel_rfl) (by kernel_rfl))
    · skip
      have n2 := of_decide_eq_false b2
      refine way_L (tt := tt) (rs := []) (bs := [false]) (tk := [4]) (bk := [90000001]) (C := ((True) ∧ (True)) ∧ (((decide (((i : Nat) : Int) < ((splitF s 44).length : Int))) = false) ∧ (True))) (lv := .exit 0) (T' := [(4, .own 90000001)]) (B' := [(90000001, .sl 26 .strs (((splitF s 44).take i).map (fun p => splitF p 46)))]) mix hI hs ?_ ?_ ?_ ?_
      · exact trivial
      · kernel_rfl
      · exact ⟨⟨trivial, trivial⟩, ⟨b2, trivial⟩⟩
      intro a w hs
      refine then_exit ?_
      refine inb_hit ?_
      refine then_norm ?_
      rcases Bool.eq_false_or_eq_true (checkF (((splitF s 44).take i).map (fun p => splitF p 46))) with b4 | b4
      · skip
        refine way_L (tt := tt) (rs := [(12, ⟨[(1, ciA 39 [.row .strs (((splitF s 44).take i).map (fun p => splitF p 46))] [90000001] [] (.val (vb (checkF (((splitF s 44).take i).map (fun p => splitF p 46))))))], [], []⟩)]) (bs := [false]) (tk := [2, 3]) (bk := [90000001]) (C := (((True) ∧ ((okArgs [.row .strs (((splitF s 44).take i).map (fun p => splitF p 46))]) ∧ ((True) ∧ (True)))) ∧ (((!(checkF (((splitF s 44).take i).map (fun p => splitF p 46)))) = false) ∧ (True))) ∧ ((tr 3 (True)) ∧ (True))) (lv := .ret) (T' := [(2, .own 90000001), (3, vi 0)]) (B' := [(90000001, .sl 26 .strs (((splitF s 44).take i).map (fun p => splitF p 46)))]) mix hI hs ?_ ?_ ?_ ?_
        · exact ⟨⟨⟨ent39, con39 _ (by intro x hx; obtain ⟨p, hp, rfl⟩ := List.mem_map.1 hx; have := split_size (s := s) (c := 44) p (List.mem_of_mem_take hp); exact split_smalls 46 (by omega)) (by rw [take_map_len (by omega)]; have := split_len s 44; omega)⟩, trivial⟩, trivial⟩
        · kernel_rfl
        · exact ⟨⟨⟨trivial, ⟨rfl, ⟨trivial, trivial⟩⟩⟩, ⟨(by rw [b4]; rfl), trivial⟩⟩, ⟨tr_mk (trivial) 3, trivial⟩⟩
        intro a w hs
        exact FnQ_cast (out := .val (.tup [.row .strs (((splitF s 44).take i).map (fun p => splitF p 46)), vi 0])) (by have h1 : (splitF s 44).any badPiece = false := any_no (fun j hj d => hall j (by omega) d); have h2 : (splitF s 44).take i = splitF s 44 := List.take_of_length_le (by omega); rw [h2] at b4; first | (simp only [h2, parseF]; rw [if_neg (by rw [b1]; decide), if_neg (by rw [h1]; decide), if_pos (by first | exact b4 | (rw [show checkF (cutsF s) = false from b4]; decide))]; try rfl) | skip) (ret_ok [90000001] hs ⟨by kernel_rfl, rfl⟩)
      · skip
        refine way_L (tt := tt) (rs := [(12, ⟨[(1, ciA 39 [.row .strs (((splitF s 44).take i).map (fun p => splitF p 46))] [90000001] [] (.val (vb (checkF (((splitF s 44).take i).map (fun p => splitF p 46))))))], [], []⟩)]) (bs := [true]) (tk := [2, 3]) (bk := []) (C := ((True) ∧ ((okArgs [.row .strs (((splitF s 44).take i).map (fun p => splitF p 46))]) ∧ ((True) ∧ (True)))) ∧ (((!(checkF (((splitF s 44).take i).map (fun p => splitF p 46)))) = true) ∧ (((True) ∧ ((True) ∧ (True))) ∧ (True)))) (lv := .ret) (T' := [(2, nilv), (3, vi 4)]) (B' := []) mix hI hs ?_ ?_ ?_ ?_
        · exact ⟨⟨⟨ent39, con39 _ (by intro x hx; obtain ⟨p, hp, rfl⟩ := List.mem_map.1 hx; have := split_size (s := s) (c := 44) p (List.mem_of_mem_take hp); exact split_smalls 46 (by omega)) (by rw [take_map_len (by omega)]; have := split_len s 44; omega)⟩, trivial⟩, trivial⟩
        · kernel_rfl
        · exact ⟨⟨trivial, ⟨rfl, ⟨trivial, trivial⟩⟩⟩, ⟨(by rw [b4]; rfl), ⟨⟨trivial, ⟨trivial, trivial⟩⟩, trivial⟩⟩⟩
        intro a w hs
        exact FnQ_cast (out := .val (.tup [.row .strs ([]), vi 4])) (by have h1 : (splitF s 44).any badPiece = false := any_no (fun j hj d => hall j (by omega) d); have h2 : (splitF s 44).take i = splitF s 44 := List.take_of_length_le (by omega); rw [h2] at b4; first | (simp only [h2, parseF]; rw [if_neg (by rw [b1]; decide), if_neg (by rw [h1]; decide), if_neg (by first | exact b4 | (rw [show checkF (cutsF s) = false from b4]; decide))]; try rfl) | skip) (ret_ok [] hs ⟨by kernel_rfl, rfl⟩)

end Go.Proofs.YtondpnipoogoiaaGreatDoor.F
namespace Go.Proofs.YtondpnipoogoiaaGreatDoor.F
open Go Go.RowKit Go.Proofs.Tryz
set_option linter.unusedVariables false
set_option linter.unusedSimpArgs false

def placeF (n k : Int) : Int := if n.tmod k < 0 then n.tmod k + k else n.tmod k
theorem placeF_in (n k : Int) (hk : 0 < k) : 0 ≤ placeF n k ∧ placeF n k < k := by
  unfold placeF
  have h1 := Int.lt_tmod_of_pos n hk
  have h2 := Int.tmod_lt_of_pos n hk
  split <;> omega
def sameS (xs ys : List ByteArray) : Bool := ((xs.length : Int) == (ys.length : Int)) && (List.range xs.length).all fun j => (xs.getD j (dflt .str)).toList == (ys.getD j (dflt .str)).toList
def sameP (xs ys : List (List ByteArray)) : Bool := ((xs.length : Int) == (ys.length : Int)) && (List.range xs.length).all fun j => sameS (xs.getD j (dflt .strs)) (ys.getD j (dflt .strs))
theorem sameS_self (xs : List ByteArray) : sameS xs xs = true := by simp [sameS]
theorem sameP_self (xs : List (List ByteArray)) : sameP xs xs = true := by simp [sameP, sameS_self]
theorem lt_all {n : Nat} {q : Nat → Bool} (h : ∀ j, j < n → q j = true) : (List.range n).all q = true := List.all_eq_true.2 (fun j hj => h j (by simpa using hj))
theorem ne_of {a b : Int} (h : (a != b) = false) : (a == b) = true := by simpa [bne] using h
theorem ne_of' {a b : Int} (h : (a != b) = true) : (a == b) = false := by simpa [bne] using h

set_option maxRecDepth 100000 in
theorem con17 (n k : Int) (hk : 0 < k) (hk2 : k < 4294967296) : Con Tryz.prog I0 17 [vi n, vi k] (.val (vi (placeF n k))) := by
  refine con_of Tryz.func17 rfl (Nat.le_of_ble_eq_true rfl) stab (fun w0 fz a hI hs => ?_)
  rcases Bool.eq_false_or_eq_true (decide ((n.tmod k) < 0)) with b1 | b1
  · skip
    have n1 := of_decide_eq_true b1
    refine way_L (tt := tt) (rs := []) (bs := [true]) (tk := [4]) (bk := []) (C := ((True) ∧ (True)) ∧ (((True) ∧ ((True) ∧ ((k ≠ 0) ∧ ((True) ∧ (True))))) ∧ ((((True) ∧ ((True) ∧ (True))) ∧ (((decide ((n.tmod k) < 0)) = true) ∧ ((True) ∧ ((True) ∧ ((InR .i64 ((n.tmod k) + k)) ∧ ((True) ∧ (True))))))) ∧ (((True) ∧ ((True) ∧ (True))) ∧ (True))))) (lv := .ret) (T' := [(4, vi ((n.tmod k) + k))]) (B' := []) mix hI hs ?_ ?_ ?_ ?_
    · exact trivial
    · kernel_rfl
    · exact ⟨⟨trivial, trivial⟩, ⟨⟨trivial, ⟨trivial, ⟨(by omega), ⟨trivial, trivial⟩⟩⟩⟩, ⟨⟨⟨trivial, ⟨trivial, trivial⟩⟩, ⟨b1, ⟨trivial, ⟨trivial, ⟨(by exact inR64 (by have := Int.lt_tmod_of_pos n hk; omega) (by have := Int.tmod_lt_of_pos n hk; omega)), ⟨trivial, trivial⟩⟩⟩⟩⟩⟩, ⟨⟨trivial, ⟨trivial, trivial⟩⟩, trivial⟩⟩⟩⟩
    intro a w hs
    exact FnQ_cast (out := .val (vi ((n.tmod k) + k))) (by simp only [placeF]; rw [if_pos (by omega)]) (ret_ok [] hs ⟨by kernel_rfl, rfl⟩)
  · skip
    have n1 := of_decide_eq_false b1
    refine way_L (tt := tt) (rs := []) (bs := [false]) (tk := [4]) (bk := []) (C := ((True) ∧ (True)) ∧ (((True) ∧ ((True) ∧ ((k ≠ 0) ∧ ((True) ∧ (True))))) ∧ ((((True) ∧ ((True) ∧ (True))) ∧ (((decide ((n.tmod k) < 0)) = false) ∧ (True))) ∧ (((True) ∧ ((True) ∧ (True))) ∧ (True))))) (lv := .ret) (T' := [(4, vi (n.tmod k))]) (B' := []) mix hI hs ?_ ?_ ?_ ?_
    · exact trivial
    · kernel_rfl
    · exact ⟨⟨trivial, trivial⟩, ⟨⟨trivial, ⟨trivial, ⟨(by omega), ⟨trivial, trivial⟩⟩⟩⟩, ⟨⟨⟨trivial, ⟨trivial, trivial⟩⟩, ⟨b1, trivial⟩⟩, ⟨⟨trivial, ⟨trivial, trivial⟩⟩, trivial⟩⟩⟩⟩
    intro a w hs
    exact FnQ_cast (out := .val (vi (n.tmod k))) (by simp only [placeF]; rw [if_neg (by omega)]) (ret_ok [] hs ⟨by kernel_rfl, rfl⟩)

set_option maxRecDepth 100000 in
theorem con60 (xs ys : List ByteArray) (hx : xs.length < 4294967296) : Con Tryz.prog I0 60 [.row .str xs, .row .str ys] (.val (vb (sameS xs ys))) := by
  refine con_of Tryz.func60 rfl (Nat.le_of_ble_eq_true rfl) stab (fun w0 fz a hI hs => ?_)
  refine wp_seq ?_
  refine way_L (tt := tt) (rs := []) (bs := []) (tk := [0, 1]) (bk := []) (C := (True) ∧ (True)) (lv := .norm) (T' := [(0, .row .str xs), (1, .row .str ys)]) (B' := []) mix hI hs ?_ ?_ ?_ ?_
  · exact trivial
  · kernel_rfl
  · exact ⟨trivial, trivial⟩
  intro a w hs
  refine then_norm ?_
  refine wp_seq ?_
  rcases Bool.eq_false_or_eq_true ((xs.length : Int) != (ys.length : Int)) with b1 | b1
  · skip
    have n1 := bne_iff_ne.1 b1
    refine way_L (tt := tt) (rs := []) (bs := [true]) (tk := [4]) (bk := []) (C := (tr 5 (True)) ∧ ((((xs.length : Int) != (ys.length : Int)) = true) ∧ (((True) ∧ (True)) ∧ (True)))) (lv := .ret) (T' := [(4, vb false)]) (B' := []) mix hI hs ?_ ?_ ?_ ?_
    · exact trivial
    · kernel_rfl
    · exact ⟨tr_mk (trivial) 5, ⟨b1, ⟨⟨trivial, trivial⟩, trivial⟩⟩⟩
    intro a w hs
    refine then_ret ?_
    exact FnQ_cast (out := .val (vb false)) (by simp only [sameS, ne_of' b1, Bool.false_and]) (ret_ok [] hs ⟨by kernel_rfl, rfl⟩)
  · skip
    have n1 := bne_eq_false_iff_eq.1 b1
    refine way_L (tt := tt) (rs := []) (bs := [false]) (tk := [0, 1]) (bk := []) (C := (tr 5 (True)) ∧ ((((xs.length : Int) != (ys.length : Int)) = false) ∧ (True))) (lv := .norm) (T' := [(0, .row .str xs), (1, .row .str ys)]) (B' := []) mix hI hs ?_ ?_ ?_ ?_
    · exact trivial
    · kernel_rfl
    · exact ⟨tr_mk (trivial) 5, ⟨b1, trivial⟩⟩
    intro a w hs
    refine then_norm ?_
    refine wp_seq ?_
    refine wp_seq ?_
    refine way_L (tt := tt) (rs := []) (bs := []) (tk := [0, 1, 5]) (bk := []) (C := (True) ∧ (True)) (lv := .norm) (T' := [(0, .row .str xs), (1, .row .str ys), (5, vi 0)]) (B' := []) mix hI hs ?_ ?_ ?_ ?_
    · exact trivial
    · kernel_rfl
    · exact ⟨trivial, trivial⟩
    intro a w hs
    refine then_norm ?_
    refine wp_block ?_
    refine loop_L (N := Tryz.f60.ntmps) (w0 := w0) (ow := noO fz) (α := Nat) (fun p => [(0, .row .str xs), (1, .row .str ys), (5, vi ((p : Nat) : Int))]) (fun p => []) (fun p => p ≤ xs.length ∧ ∀ j, j < p → ((xs.getD j (dflt .str)).toList == (ys.getD j (dflt .str)).toList) = true) (fun p => xs.length - p) 0 ?_ ?_ ?_
    · exact ⟨Nat.zero_le _, fun j hj => absurd hj (Nat.not_lt_zero _)⟩
    · (have e0_ : (0) = (((0 : Nat) : Int)) := (by first | rfl | (rfl)); exact (SimL.cast hs (T' := [(0, .row .str xs), (1, .row .str ys), (5, vi ((0 : Nat) : Int))]) (B' := []) (by first | rfl | (rw [e0_]; done) | (simp only [e0_]; done) | (simp only [e0_]; rfl)) (by first | rfl | (rw [e0_]; done) | (simp only [e0_]; done) | (simp only [e0_]; rfl))).ren [] (by kernel_rfl) (by kernel_rfl) (by kernel_rfl))
    rintro i hJ a w hs
    obtain ⟨hi, hall⟩ := hJ
    rcases Bool.eq_false_or_eq_true (decide (((i : Nat) : Int) < (xs.length : Int))) with b2 | b2
    · skip
      have n2 := of_decide_eq_true b2
      rcases Bool.eq_false_or_eq_true ((xs.getD i (dflt .str)).toList == (ys.getD i (dflt .str)).toList) with b3 | b3
      · skip
        have n3 := eq_of_beq b3
        refine way_L (tt := tt) (rs := []) (bs := [true, false]) (tk := [0, 1, 5]) (bk := []) (C := ((tr 4 (True)) ∧ (((decide (((i : Nat) : Int) < (xs.length : Int))) = true) ∧ (True))) ∧ ((((True) ∧ ((True) ∧ ((0 ≤ ((i : Nat) : Int) ∧ ((i : Nat) : Int) < xs.length) ∧ (tr 3 ((0 ≤ ((i : Nat) : Int) ∧ ((i : Nat) : Int) < ys.length) ∧ ((True) ∧ ((True) ∧ (True)))))))) ∧ (((!((xs.getD i (dflt .str)).toList == (ys.getD i (dflt .str)).toList)) = false) ∧ (True))) ∧ ((True) ∧ ((InR .i64 (((i : Nat) : Int) + 1)) ∧ ((True) ∧ (True)))))) (lv := .norm) (T' := [(0, .row .str xs), (1, .row .str ys), (5, vi (((i : Nat) : Int) + 1))]) (B' := []) mix hI hs ?_ ?_ ?_ ?_
        · exact trivial
        · kernel_rfl
        · exact ⟨⟨tr_mk (trivial) 4, ⟨b2, trivial⟩⟩, ⟨⟨⟨trivial, ⟨trivial, ⟨⟨by omega, by omega⟩, tr_mk (⟨⟨by omega, by omega⟩, ⟨trivial, ⟨trivial, trivial⟩⟩⟩) 3⟩⟩⟩, ⟨(by rw [b3]; rfl), trivial⟩⟩, ⟨trivial, ⟨(inR64 (by omega) (by omega)), ⟨trivial, trivial⟩⟩⟩⟩⟩
        intro a w hs
        refine then_norm ⟨i + 1, ⟨by omega, fun j hj => by rcases Nat.lt_succ_iff_lt_or_eq.1 hj with h | h; exact hall j h; subst h; exact b3⟩, by omega, ?_⟩
        (have e0_ : (((i : Nat) : Int) + 1) = ((((i + 1) : Nat) : Int)) := (by first | rfl | (omega)); exact (SimL.cast hs (T' := [(0, .row .str xs), (1, .row .str ys), (5, vi (((i + 1) : Nat) : Int))]) (B' := []) (by first | rfl | (rw [e0_]; done) | (simp only [e0_]; done) | (simp only [e0_]; rfl)) (by first | rfl | (rw [e0_]; done) | (simp only [e0_]; done) | (simp only [e0_]; rfl))).ren [] (by kernel_rfl) (by kernel_rfl) (by kernel_rfl))
      · skip
        have n3 := beq_eq_false_iff_ne.1 b3
        refine way_L (tt := tt) (rs := []) (bs := [true, true]) (tk := [4]) (bk := []) (C := ((tr 4 (True)) ∧ (((decide (((i : Nat) : Int) < (xs.length : Int))) = true) ∧ (True))) ∧ (((True) ∧ ((True) ∧ ((0 ≤ ((i : Nat) : Int) ∧ ((i : Nat) : Int) < xs.length) ∧ (tr 3 ((0 ≤ ((i : Nat) : Int) ∧ ((i : Nat) : Int) < ys.length) ∧ ((True) ∧ ((True) ∧ (True)))))))) ∧ (((!((xs.getD i (dflt .str)).toList == (ys.getD i (dflt .str)).toList)) = true) ∧ (((True) ∧ (True)) ∧ (True))))) (lv := .ret) (T' := [(4, vb false)]) (B' := []) mix hI hs ?_ ?_ ?_ ?_
        · exact trivial
        · kernel_rfl
        · exact ⟨⟨tr_mk (trivial) 4, ⟨b2, trivial⟩⟩, ⟨⟨trivial, ⟨trivial, ⟨⟨by omega, by omega⟩, tr_mk (⟨⟨by omega, by omega⟩, ⟨trivial, ⟨trivial, trivial⟩⟩⟩) 3⟩⟩⟩, ⟨(by rw [b3]; rfl), ⟨⟨trivial, trivial⟩, trivial⟩⟩⟩⟩
        intro a w hs
        refine then_ret ?_
        refine inb_ret ?_
        refine then_ret ?_
        exact FnQ_cast (out := .val (vb false)) (by simp only [sameS]; rw [ne_of b1, all_no (i := i) (by omega) (by exact b3)]; rfl) (ret_ok [] hs ⟨by kernel_rfl, rfl⟩)
    · skip
      have n2 := of_decide_eq_false b2
      refine way_L (tt := tt) (rs := []) (bs := [false]) (tk := []) (bk := []) (C := (tr 4 (True)) ∧ (((decide (((i : Nat) : Int) < (xs.length : Int))) = false) ∧ (True))) (lv := .exit 0) (T' := []) (B' := []) mix hI hs ?_ ?_ ?_ ?_
      · exact trivial
      · kernel_rfl
      · exact ⟨tr_mk (trivial) 4, ⟨b2, trivial⟩⟩
      intro a w hs
      refine then_exit ?_
      refine inb_hit ?_
      refine then_norm ?_
      refine way_L (tt := tt) (rs := []) (bs := []) (tk := [4]) (bk := []) (C := ((True) ∧ (True)) ∧ (True)) (lv := .ret) (T' := [(4, vb true)]) (B' := []) mix hI hs ?_ ?_ ?_ ?_
      · exact trivial
      · kernel_rfl
      · exact ⟨⟨trivial, trivial⟩, trivial⟩
      intro a w hs
      exact FnQ_cast (out := .val (vb true)) (by simp only [sameS]; rw [ne_of b1, lt_all (fun j hj => hall j (by omega))]; rfl) (ret_ok [] hs ⟨by kernel_rfl, rfl⟩)

set_option maxRecDepth 100000 in
theorem con35 (xs ys : List (List ByteArray)) (hx : xs.length < 4294967296) (hxs : ∀ x ∈ xs, x.length < 4294967296) : Con Tryz.prog I0 35 [.row .strs xs, .row .strs ys] (.val (vb (sameP xs ys))) := by
  refine con_of Tryz.func35 rfl (Nat.le_of_ble_eq_true rfl) stab (fun w0 fz a hI hs => ?_)
  refine wp_seq ?_
  refine way_L (tt := tt) (rs := []) (bs := []) (tk := [0, 1]) (bk := []) (C := (True) ∧ (True)) (lv := .norm) (T' := [(0, .row .strs xs), (1, .row .strs ys)]) (B' := []) mix hI hs ?_ ?_ ?_ ?_
  · exact trivial
  · kernel_rfl
  · exact ⟨trivial, trivial⟩
  intro a w hs
  refine then_norm ?_
  refine wp_seq ?_
  rcases Bool.eq_false_or_eq_true ((xs.length : Int) != (ys.length : Int)) with b1 | b1
  · skip
    have n1 := bne_iff_ne.1 b1
    refine way_L (tt := tt) (rs := []) (bs := [true]) (tk := [4]) (bk := []) (C := (tr 5 (True)) ∧ ((((xs.length : Int) != (ys.length : Int)) = true) ∧ (((True) ∧ (True)) ∧ (True)))) (lv := .ret) (T' := [(4, vb false)]) (B' := []) mix hI hs ?_ ?_ ?_ ?_
    · exact trivial
    · kernel_rfl
    · exact ⟨tr_mk (trivial) 5, ⟨b1, ⟨⟨trivial, trivial⟩, trivial⟩⟩⟩
    intro a w hs
    refine then_ret ?_
    exact FnQ_cast (out := .val (vb false)) (by simp only [sameP, ne_of' b1, Bool.false_and]) (ret_ok [] hs ⟨by kernel_rfl, rfl⟩)
  · skip
    have n1 := bne_eq_false_iff_eq.1 b1
    refine way_L (tt := tt) (rs := []) (bs := [false]) (tk := [0, 1]) (bk := []) (C := (tr 5 (True)) ∧ ((((xs.length : Int) != (ys.length : Int)) = false) ∧ (True))) (lv := .norm) (T' := [(0, .row .strs xs), (1, .row .strs ys)]) (B' := []) mix hI hs ?_ ?_ ?_ ?_
    · exact trivial
    · kernel_rfl
    · exact ⟨tr_mk (trivial) 5, ⟨b1, trivial⟩⟩
    intro a w hs
    refine then_norm ?_
    refine wp_seq ?_
    refine wp_seq ?_
    refine way_L (tt := tt) (rs := []) (bs := []) (tk := [0, 1, 5]) (bk := []) (C := (True) ∧ (True)) (lv := .norm) (T' := [(0, .row .strs xs), (1, .row .strs ys), (5, vi 0)]) (B' := []) mix hI hs ?_ ?_ ?_ ?_
    · exact trivial
    · kernel_rfl
    · exact ⟨trivial, trivial⟩
    intro a w hs
    refine then_norm ?_
    refine wp_block ?_
    refine loop_L (N := Tryz.f35.ntmps) (w0 := w0) (ow := noO fz) (α := Nat) (fun p => [(0, .row .strs xs), (1, .row .strs ys), (5, vi ((p : Nat) : Int))]) (fun p => []) (fun p => p ≤ xs.length ∧ ∀ j, j < p → (sameS (xs.getD j (dflt .strs)) (ys.getD j (dflt .strs))) = true) (fun p => xs.length - p) 0 ?_ ?_ ?_
    · exact ⟨Nat.zero_le _, fun j hj => absurd hj (Nat.not_lt_zero _)⟩
    · (have e0_ : (0) = (((0 : Nat) : Int)) := (by first | rfl | (rfl)); exact (SimL.cast hs (T' := [(0, .row .strs xs), (1, .row .strs ys), (5, vi ((0 : Nat) : Int))]) (B' := []) (by first | rfl | (rw [e0_]; done) | (simp only [e0_]; done) | (simp only [e0_]; rfl)) (by first | rfl | (rw [e0_]; done) | (simp only [e0_]; done) | (simp only [e0_]; rfl))).ren [] (by kernel_rfl) (by kernel_rfl) (by kernel_rfl))
    rintro i hJ a w hs
    obtain ⟨hi, hall⟩ := hJ
    rcases Bool.eq_false_or_eq_true (decide (((i : Nat) : Int) < (xs.length : Int))) with b2 | b2
    · skip
      have n2 := of_decide_eq_true b2
      rcases Bool.eq_false_or_eq_true (sameS (xs.getD i (dflt .strs)) (ys.getD i (dflt .strs))) with b3 | b3
      · skip
        refine way_L (tt := tt) (rs := [(6, ⟨[(8, ciA 60 [.row .str (xs.getD i (dflt .strs)), .row .str (ys.getD i (dflt .strs))] [] [] (.val (vb (sameS (xs.getD i (dflt .strs)) (ys.getD i (dflt .strs))))))], [], []⟩)]) (bs := [true, false]) (tk := [0, 1, 5]) (bk := []) (C := ((tr 4 (True)) ∧ (((decide (((i : Nat) : Int) < (xs.length : Int))) = true) ∧ (True))) ∧ ((((True) ∧ ((True) ∧ ((0 ≤ ((i : Nat) : Int) ∧ ((i : Nat) : Int) < xs.length) ∧ (tr 3 ((0 ≤ ((i : Nat) : Int) ∧ ((i : Nat) : Int) < ys.length) ∧ ((True) ∧ ((okArgs [.row .str (xs.getD i (dflt .strs)), .row .str (ys.getD i (dflt .strs))]) ∧ ((True) ∧ (True))))))))) ∧ (((!(sameS (xs.getD i (dflt .strs)) (ys.getD i (dflt .strs)))) = false) ∧ (True))) ∧ ((True) ∧ ((InR .i64 (((i : Nat) : Int) + 1)) ∧ ((True) ∧ (True)))))) (lv := .norm) (T' := [(0, .row .strs xs), (1, .row .strs ys), (5, vi (((i : Nat) : Int) + 1))]) (B' := []) mix hI hs ?_ ?_ ?_ ?_
        · exact ⟨⟨⟨ent60, con60 _ _ (hxs _ (getD_mem (by omega) _))⟩, trivial⟩, trivial⟩
        · kernel_rfl
        · exact ⟨⟨tr_mk (trivial) 4, ⟨b2, trivial⟩⟩, ⟨⟨⟨trivial, ⟨trivial, ⟨⟨by omega, by omega⟩, tr_mk (⟨⟨by omega, by omega⟩, ⟨trivial, ⟨rfl, ⟨trivial, trivial⟩⟩⟩⟩) 3⟩⟩⟩, ⟨(by rw [b3]; rfl), trivial⟩⟩, ⟨trivial, ⟨(inR64 (by omega) (by omega)), ⟨trivial, trivial⟩⟩⟩⟩⟩
        intro a w hs
        refine then_norm ⟨i + 1, ⟨by omega, fun j hj => by rcases Nat.lt_succ_iff_lt_or_eq.1 hj with h | h; exact hall j h; subst h; exact b3⟩, by omega, ?_⟩
        (have e0_ : (((i : Nat) : Int) + 1) = ((((i + 1) : Nat) : Int)) := (by first | rfl | (omega)); exact (SimL.cast hs (T' := [(0, .row .strs xs), (1, .row .strs ys), (5, vi (((i + 1) : Nat) : Int))]) (B' := []) (by first | rfl | (rw [e0_]; done) | (simp only [e0_]; done) | (simp only [e0_]; rfl)) (by first | rfl | (rw [e0_]; done) | (simp only [e0_]; done) | (simp only [e0_]; rfl))).ren [] (by kernel_rfl) (by kernel_rfl) (by kernel_rfl))
      · skip
        refine way_L (tt := tt) (rs := [(6, ⟨[(8, ciA 60 [.row .str (xs.getD i (dflt .strs)), .row .str (ys.getD i (dflt .strs))] [] [] (.val (vb (sameS (xs.getD i (dflt .strs)) (ys.getD i (dflt .strs))))))], [], []⟩)]) (bs := [true, true]) (tk := [4]) (bk := []) (C := ((tr 4 (True)) ∧ (((decide (((i : Nat) : Int) < (xs.length : Int))) = true) ∧ (True))) ∧ (((True) ∧ ((True) ∧ ((0 ≤ ((i : Nat) : Int) ∧ ((i : Nat) : Int) < xs.length) ∧ (tr 3 ((0 ≤ ((i : Nat) : Int) ∧ ((i : Nat) : Int) < ys.length) ∧ ((True) ∧ ((okArgs [.row .str (xs.getD i (dflt .strs)), .row .str (ys.getD i (dflt .strs))]) ∧ ((True) ∧ (True))))))))) ∧ (((!(sameS (xs.getD i (dflt .strs)) (ys.getD i (dflt .strs)))) = true) ∧ (((True) ∧ (True)) ∧ (True))))) (lv := .ret) (T' := [(4, vb false)]) (B' := []) mix hI hs ?_ ?_ ?_ ?_
        · exact ⟨⟨⟨ent60, con60 _ _ (hxs _ (getD_mem (by omega) _))⟩, trivial⟩, trivial⟩
        · kernel_rfl
        · exact ⟨⟨tr_mk (trivial) 4, ⟨b2, trivial⟩⟩, ⟨⟨trivial, ⟨trivial, ⟨⟨by omega, by omega⟩, tr_mk (⟨⟨by omega, by omega⟩, ⟨trivial, ⟨rfl, ⟨trivial, trivial⟩⟩⟩⟩) 3⟩⟩⟩, ⟨(by rw [b3]; rfl), ⟨⟨trivial, trivial⟩, trivial⟩⟩⟩⟩
        intro a w hs
        refine then_ret ?_
        refine inb_ret ?_
        refine then_ret ?_
        exact FnQ_cast (out := .val (vb false)) (by simp only [sameP]; rw [ne_of b1, all_no (i := i) (by omega) (by exact b3)]; rfl) (ret_ok [] hs ⟨by kernel_rfl, rfl⟩)
    · skip
      have n2 := of_decide_eq_false b2
      refine way_L (tt := tt) (rs := []) (bs := [false]) (tk := []) (bk := []) (C := (tr 4 (True)) ∧ (((decide (((i : Nat) : Int) < (xs.length : Int))) = false) ∧ (True))) (lv := .exit 0) (T' := []) (B' := []) mix hI hs ?_ ?_ ?_ ?_
      · exact trivial
      · kernel_rfl
      · exact ⟨tr_mk (trivial) 4, ⟨b2, trivial⟩⟩
      intro a w hs
      refine then_exit ?_
      refine inb_hit ?_
      refine then_norm ?_
      refine way_L (tt := tt) (rs := []) (bs := []) (tk := [4]) (bk := []) (C := ((True) ∧ (True)) ∧ (True)) (lv := .ret) (T' := [(4, vb true)]) (B' := []) mix hI hs ?_ ?_ ?_ ?_
      · exact trivial
      · kernel_rfl
      · exact ⟨⟨trivial, trivial⟩, trivial⟩
      intro a w hs
      exact FnQ_cast (out := .val (vb true)) (by simp only [sameP]; rw [ne_of b1, lt_all (fun j hj => hall j (by omega))]; rfl) (ret_ok [] hs ⟨by kernel_rfl, rfl⟩)

end Go.Proofs.YtondpnipoogoiaaGreatDoor.F
namespace Go.Proofs.YtondpnipoogoiaaGreatDoor.F
open Go Go.RowKit Go.Proofs.Tryz
set_option linter.unusedVariables false
set_option linter.unusedSimpArgs false

theorem joinF_size (xs : List ByteArray) (sep : ByteArray) : (joinF xs sep).size ≤ (xs.map (·.size)).sum + xs.length * sep.size := by
  have h1 : (joinF xs sep).size = (Lib.join (xs.map (·.data.toList)) sep.data.toList).length := by simp [joinF, ByteArray.size]
  rw [h1]
  cases xs with
  | nil => simp [Lib.join_nil]
  | cons x r =>
    rw [List.map_cons, Lib.join_length]
    have h2 : Lib.lens (x.data.toList :: r.map (·.data.toList)) = ((x :: r).map (·.size)).sum := by
      show Lib.lens ((x :: r).map (·.data.toList)) = _
      unfold Lib.lens
      rw [List.map_map]
      exact congrArg List.sum (List.map_congr_left (fun y _ => (Lib.size_eq y).symm))
    have h3 : sep.data.toList.length = sep.size := (Lib.size_eq sep).symm
    rw [h2, h3, List.length_map, List.length_cons, Nat.add_mul, Nat.mul_comm sep.size]
    omega
theorem sum_le {xs : List ByteArray} {b : Nat} (h : ∀ x ∈ xs, x.size ≤ b) : (xs.map (·.size)).sum ≤ xs.length * b := by
  induction xs with
  | nil => simp
  | cons x r ih =>
    have h1 := h x (List.mem_cons_self ..)
    have h2 := ih (fun y hy => h y (List.mem_cons_of_mem _ hy))
    simp only [List.map_cons, List.sum_cons, List.length_cons, Nat.add_mul]; omega
theorem checkF_in {xs : List (List ByteArray)} (h : checkF xs = true) : xs.length ≤ 60 ∧ ∀ p ∈ xs, p.length ≤ 63 ∧ p ≠ [] ∧ ∀ n ∈ p, nameF n = true := by
  simp only [checkF, Bool.and_eq_true, decide_eq_true_eq, Bool.not_eq_true', List.any_eq_false] at h
  obtain ⟨h1, h2⟩ := h
  refine ⟨by omega, fun p hp => ?_⟩
  have h3 := h2 p hp
  simp only [badPath, Bool.or_eq_true, beq_iff_eq, decide_eq_true_eq, List.any_eq_true, not_or, not_exists, not_and] at h3
  refine ⟨by omega, fun e => h3.1 (by simp [e]), fun n hn => ?_⟩
  have := h3.2.2 n hn
  simpa using this
theorem nameF_size {s : ByteArray} (h : nameF s = true) : s.size ≤ 2000 := by
  simp only [nameF, Bool.and_eq_true, decide_eq_true_eq] at h
  omega
def dotF (p : List ByteArray) : ByteArray := joinF p (ba [46])
theorem path_join {p : List ByteArray} (h1 : p.length ≤ 63) (h2 : ∀ n ∈ p, nameF n = true) : (dotF p).size ≤ 126063 := by
  have h3 := joinF_size p (ba [46])
  have h4 := sum_le (b := 2000) (fun x hx => nameF_size (h2 x hx))
  have h5 : (ba [46]).size = 1 := rfl
  rw [h5] at h3
  unfold dotF; omega
theorem path_at {xs : List (List ByteArray)} {i : Nat} (h : checkF xs = true) (hi : i < xs.length) (d : List ByteArray) : (dotF (xs.getD i d)).size ≤ 126063 ∧ (xs.getD i d).length ≤ 63 := by
  obtain ⟨h1, _, h2⟩ := (checkF_in h).2 _ (getD_mem hi d)
  exact ⟨path_join h1 h2, h1⟩
def textF (xs : List (List ByteArray)) : ByteArray := if checkF xs = true then joinF (xs.map dotF) (ba [44]) else ba []
theorem text_join {xs : List (List ByteArray)} (h : checkF xs = true) : (joinF (xs.map dotF) (ba [44])).size ≤ 7563840 := by
  obtain ⟨h1, h2⟩ := checkF_in h
  have h3 := joinF_size (xs.map dotF) (ba [44])
  have h4 := sum_le (xs := xs.map dotF) (b := 126063) (fun x hx => by
    obtain ⟨p, hp, rfl⟩ := List.mem_map.1 hx
    exact path_join (h2 p hp).1 (h2 p hp).2.2)
  have h5 : (ba [44]).size = 1 := rfl
  rw [h5] at h3
  rw [List.length_map] at h3 h4
  omega

set_option maxRecDepth 100000 in
theorem con41 (xs : List (List ByteArray)) (hxs : ∀ x ∈ xs, smalls x) (hlen : xs.length < 4294967281) : Con Tryz.prog I0 41 [.row .strs xs] (.val (vs (textF xs))) := by
  refine con_of Tryz.func41 rfl (Nat.le_of_ble_eq_true rfl) stab (fun w0 fz a hI hs => ?_)
  refine wp_seq ?_
  refine way_L (tt := tt) (rs := []) (bs := []) (tk := [0]) (bk := []) (C := (True) ∧ (True)) (lv := .norm) (T' := [(0, .row .strs xs)]) (B' := []) mix hI hs ?_ ?_ ?_ ?_
  · exact trivial
  · kernel_rfl
  · exact ⟨trivial, trivial⟩
  intro a w hs
  refine then_norm ?_
  refine wp_seq ?_
  rcases Bool.eq_false_or_eq_true (checkF xs) with b1 | b1
  · skip
    refine way_L (tt := tt) (rs := [(1, ⟨[(1, ciA 39 [.row .strs xs] [] [] (.val (vb (checkF xs))))], [], []⟩)]) (bs := [false]) (tk := [0]) (bk := []) (C := ((True) ∧ ((okArgs [.row .strs xs]) ∧ ((True) ∧ (True)))) ∧ (((!(checkF xs)) = false) ∧ (True))) (lv := .norm) (T' := [(0, .row .strs xs)]) (B' := []) mix hI hs ?_ ?_ ?_ ?_
    · exact ⟨⟨⟨ent39, con39 _ hxs hlen⟩, trivial⟩, trivial⟩
    · kernel_rfl
    · exact ⟨⟨trivial, ⟨rfl, ⟨trivial, trivial⟩⟩⟩, ⟨(by rw [b1]; rfl), trivial⟩⟩
    intro a w hs
    refine then_norm ?_
    refine wp_seq ?_
    refine way_L (tt := tt) (rs := []) (bs := []) (tk := [0, 3]) (bk := []) (C := (True) ∧ (True)) (lv := .norm) (T' := [(0, .row .strs xs), (3, nilv)]) (B' := []) mix hI hs ?_ ?_ ?_ ?_
    · exact trivial
    · kernel_rfl
    · exact ⟨trivial, trivial⟩
    intro a w hs
    refine then_norm ?_
    refine wp_seq ?_
    refine wp_seq ?_
    refine way_L (tt := tt) (rs := []) (bs := []) (tk := [3, 9, 10, 11]) (bk := []) (C := tr 3 (True)) (lv := .norm) (T' := [(3, nilv), (9, .row .strs xs), (10, vi (xs.length : Int)), (11, vi 0)]) (B' := []) mix hI hs ?_ ?_ ?_ ?_
    · exact trivial
    · kernel_rfl
    · exact tr_mk (trivial) 3
    intro a w hs
    refine then_norm ?_
    refine wp_block ?_
    have hck : checkF xs = true := b1
    have hxl := (checkF_in hck).1
    refine loop_L (N := Tryz.f41.ntmps) (w0 := w0) (ow := noO fz) (α := Nat) (fun p => [(3, .own 90000001), (9, .row .strs xs), (10, vi (xs.length : Int)), (11, vi ((p : Nat) : Int))]) (fun p => [(90000001, .sl 9 .str ((xs.take p).map dotF))]) (fun p => p ≤ xs.length) (fun p => xs.length - p) 0 ?_ ?_ ?_
    · exact Nat.zero_le _
    · (have hs := (hs.nil 10000002 3 9 .str (by kernel_rfl) (by decide) (by kernel_rfl) (by kernel_rfl)).ren (T' := [(3, .own 10000002), (9, .row .strs xs), (10, vi (xs.length : Int)), (11, vi 0)]) (B' := [(10000002, .sl 9 .str ([]))]) [(10000002, 10000002)] (by kernel_rfl) (by kernel_rfl) (by kernel_rfl); exact (SimL.cast hs (T' := [(3, .own 10000002), (9, .row .strs xs), (10, vi (xs.length : Int)), (11, vi ((0 : Nat) : Int))]) (B' := [(10000002, .sl 9 .str ((xs.take 0).map dotF))]) (by rfl) rfl).ren [(90000001, 10000002)] (by kernel_rfl) (by kernel_rfl) (by kernel_rfl))
    rintro i hJ a w hs
    have hl2 := take_map_len (f := dotF) hJ
    rcases Bool.eq_false_or_eq_true (decide (((i : Nat) : Int) < (xs.length : Int))) with b2 | b2
    · skip
      have n2 := of_decide_eq_true b2
      refine way_L (tt := tt) (rs := [(7, ⟨[(2, ciA 92 [.row .str (xs.getD i (dflt .strs)), vs (ba [46])] [] [] (.val (vs (dotF (xs.getD i (dflt .strs))))))], [], []⟩)]) (bs := [true]) (tk := [3, 9, 10, 11]) (bk := [8004]) (C := ((True) ∧ (True)) ∧ ((((decide (((i : Nat) : Int) < (xs.length : Int))) = true) ∧ (True)) ∧ ((((0 ≤ ((i : Nat) : Int) ∧ ((i : Nat) : Int) < xs.length) ∧ ((True) ∧ ((True) ∧ (True)))) ∧ ((True) ∧ ((True) ∧ ((okArgs [.row .str (xs.getD i (dflt .strs)), vs (ba [46])]) ∧ ((True) ∧ ((((((xs.take i).map dotF).length + 1) * 16 : Nat) ≤ 140737488355328 ∧ ((xs.take i).map dotF).length + 1 ≤ 140737488355328) ∧ ((True) ∧ (True)))))))) ∧ ((InR .i64 (((i : Nat) : Int) + 1)) ∧ ((True) ∧ (True)))))) (lv := .norm) (T' := [(3, .own 8004), (9, .row .strs xs), (10, vi (xs.length : Int)), (11, vi (((i : Nat) : Int) + 1))]) (B' := [(8004, .sl 9 .str (((xs.take i).map dotF) ++ ([dotF (xs.getD i (dflt .strs))])))]) mix hI hs ?_ ?_ ?_ ?_
      · exact ⟨⟨⟨ent92, conJoin _ _ (Nat.le_trans (path_at hck (by omega) _).1 (by decide)) (Nat.le_trans (path_at hck (by omega) _).2 (by decide))⟩, trivial⟩, trivial⟩
      · kernel_rfl
      · exact ⟨⟨trivial, trivial⟩, ⟨⟨b2, trivial⟩, ⟨⟨⟨⟨by omega, by omega⟩, ⟨trivial, ⟨trivial, trivial⟩⟩⟩, ⟨trivial, ⟨trivial, ⟨rfl, ⟨trivial, ⟨⟨by omega, by omega⟩, ⟨trivial, trivial⟩⟩⟩⟩⟩⟩⟩, ⟨(inR64 (by omega) (by omega)), ⟨trivial, trivial⟩⟩⟩⟩⟩
      intro a w hs
      refine then_norm ⟨i + 1, by omega, by omega, ?_⟩
      (have e0_ : (((i : Nat) : Int) + 1) = ((((i + 1) : Nat) : Int)) := (by first | rfl | (omega)); have e1_ : (((xs.take i).map dotF) ++ ([dotF (xs.getD i (dflt .strs))])) = ((xs.take (i + 1)).map dotF) := (by first | rfl | (exact take_map_succ (f := dotF) (by omega) _)); exact (SimL.cast hs (T' := [(3, .own 8004), (9, .row .strs xs), (10, vi (xs.length : Int)), (11, vi (((i + 1) : Nat) : Int))]) (B' := [(8004, .sl 9 .str ((xs.take (i + 1)).map dotF))]) (by first | rfl | (rw [e0_, e1_]; done) | (simp only [e0_, e1_]; done) | (simp only [e0_, e1_]; rfl)) (by first | rfl | (rw [e0_, e1_]; done) | (simp only [e0_, e1_]; done) | (simp only [e0_, e1_]; rfl))).ren [(90000001, 8004)] (by kernel_rfl) (by kernel_rfl) (by kernel_rfl))
    · skip
      have n2 := of_decide_eq_false b2
      have htk : (xs.take i).map dotF = xs.map dotF := by rw [List.take_of_length_le (by omega)]
      refine way_L (tt := tt) (rs := []) (bs := [false]) (tk := [3]) (bk := [90000001]) (C := ((True) ∧ (True)) ∧ (((decide (((i : Nat) : Int) < (xs.length : Int))) = false) ∧ (True))) (lv := .exit 0) (T' := [(3, .own 90000001)]) (B' := [(90000001, .sl 9 .str ((xs.take i).map dotF))]) mix hI hs ?_ ?_ ?_ ?_
      · exact trivial
      · kernel_rfl
      · exact ⟨⟨trivial, trivial⟩, ⟨b2, trivial⟩⟩
      intro a w hs
      refine then_exit ?_
      refine inb_hit ?_
      refine then_norm ?_
      refine way_L (tt := tt) (rs := [(9, ⟨[(1, ciA 92 [.row .str ((xs.take i).map dotF), vs (ba [44])] [90000001] [] (.val (vs (joinF ((xs.take i).map dotF) (ba [44])))))], [], []⟩)]) (bs := []) (tk := [2]) (bk := []) (C := ((True) ∧ ((okArgs [.row .str ((xs.take i).map dotF), vs (ba [44])]) ∧ ((True) ∧ (True)))) ∧ (True)) (lv := .ret) (T' := [(2, vs (joinF ((xs.take i).map dotF) (ba [44])))]) (B' := []) mix hI hs ?_ ?_ ?_ ?_
      · exact ⟨⟨⟨ent92, conJoin _ _ (by rw [htk]; exact Nat.le_trans (text_join hck) (by decide)) (by rw [htk, List.length_map]; omega)⟩, trivial⟩, trivial⟩
      · kernel_rfl
      · exact ⟨⟨trivial, ⟨rfl, ⟨trivial, trivial⟩⟩⟩, trivial⟩
      intro a w hs
      exact FnQ_cast (out := .val (vs (joinF ((xs.take i).map dotF) (ba [44])))) (by simp only [textF]; rw [if_pos hck, ← htk]) (ret_ok [] hs ⟨by kernel_rfl, rfl⟩)
  · skip
    refine way_L (tt := tt) (rs := [(1, ⟨[(1, ciA 39 [.row .strs xs] [] [] (.val (vb (checkF xs))))], [], []⟩)]) (bs := [true]) (tk := [2]) (bk := []) (C := ((True) ∧ ((okArgs [.row .strs xs]) ∧ ((True) ∧ (True)))) ∧ (((!(checkF xs)) = true) ∧ (((True) ∧ (True)) ∧ (True)))) (lv := .ret) (T' := [(2, vs (ba []))]) (B' := []) mix hI hs ?_ ?_ ?_ ?_
    · exact ⟨⟨⟨ent39, con39 _ hxs hlen⟩, trivial⟩, trivial⟩
    · kernel_rfl
    · exact ⟨⟨trivial, ⟨rfl, ⟨trivial, trivial⟩⟩⟩, ⟨(by rw [b1]; rfl), ⟨⟨trivial, trivial⟩, trivial⟩⟩⟩
    intro a w hs
    refine then_ret ?_
    exact FnQ_cast (out := .val (vs (ba []))) (by simp only [textF]; rw [if_neg (by rw [b1]; decide)]) (ret_ok [] hs ⟨by kernel_rfl, rfl⟩)

end Go.Proofs.YtondpnipoogoiaaGreatDoor.F
