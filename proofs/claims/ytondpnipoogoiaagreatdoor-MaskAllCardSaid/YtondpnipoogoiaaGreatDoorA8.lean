import Derived.Test.YtondpnipoogoiaaGreatDoorA7
import Derived.Test.YtondpnipoogoiaaGreatDoorA5
set_option maxRecDepth 100000
set_option linter.unusedVariables false
set_option linter.unusedSimpArgs false
namespace Go.Proofs.YtondpnipoogoiaaGreatDoor.F
open Go Go.RowKit Go.Proofs.Tryz
def sameS (xs ys : List ByteArray) : Bool := ((xs.length : Int) == (ys.length : Int)) && (List.range xs.length).all fun j => (xs.getD j (dflt .str)).toList == (ys.getD j (dflt .str)).toList
def sameP (xs ys : List (List ByteArray)) : Bool := ((xs.length : Int) == (ys.length : Int)) && (List.range xs.length).all fun j => sameS (xs.getD j (dflt .strs)) (ys.getD j (dflt .strs))
theorem sameS_self (xs : List ByteArray) : sameS xs xs = true := by simp [sameS]
theorem sameP_self (xs : List (List ByteArray)) : sameP xs xs = true := by simp [sameP, sameS_self]
theorem lt_all {n : Nat} {q : Nat → Bool} (h : ∀ j, j < n → q j = true) : (List.range n).all q = true := List.all_eq_true.2 (fun j hj => h j (by simpa using hj))
theorem ne_of {a b : Int} (h : (a != b) = false) : (a == b) = true := by simpa [bne] using h
theorem ne_of' {a b : Int} (h : (a != b) = true) : (a == b) = false := by simpa [bne] using h
theorem con60 (xs ys : List ByteArray) (hx : xs.length < 4294967296) : Con Tryz.prog I0 60 [.row .str xs, .row .str ys] (.val (vb (sameS xs ys))) := by
 refine con_of Tryz.func60 rfl (Nat.le_of_ble_eq_true rfl) stab (fun w0 fz a hI hs => ?_)
 refine wp_seq ?_
 refine wN hs hI [] [0, 1] [] (True ∧ True) .norm [(0, .row .str xs), (1, .row .str ys)] [] (by kernel_rfl) ⟨tv, tv⟩ (fun a w hs => ?_)
 refine then_norm ?_
 refine wp_seq ?_
 rcases bt ((xs.length : Int) != (ys.length : Int)) with b1 | b1
 ·skip
  have n1 := bne_iff_ne.1 b1
  refine wN hs hI [true] [4] [] ((tr 5 True) ∧ ((ty b1) ∧ (True ∧ True) ∧ True)) .ret [(4, vb false)] [] (by kernel_rfl) ⟨tr_mk tv 5, b1, ⟨tv, tv⟩, tv⟩ (fun a w hs => ?_)
  refine then_ret ?_
  exact FnQ_cast (out := .val (vb false)) (by simp only [sameS, ne_of' b1, Bool.false_and]) (ret_ok [] hs ⟨by kernel_rfl, rfl⟩)
 ·skip
  have n1 := bne_eq_false_iff_eq.1 b1
  refine wN hs hI [false] [0, 1] [] ((tr 5 True) ∧ ((ty b1) ∧ True)) .norm [(0, .row .str xs), (1, .row .str ys)] [] (by kernel_rfl) ⟨tr_mk tv 5, b1, tv⟩ (fun a w hs => ?_)
  refine then_norm ?_
  refine wp_seq ?_
  refine wp_seq ?_
  refine wN hs hI [] [0, 1, 5] [] (True ∧ True) .norm [(0, .row .str xs), (1, .row .str ys), (5, vi 0)] [] (by kernel_rfl) ⟨tv, tv⟩ (fun a w hs => ?_)
  refine then_norm ?_
  refine wp_block ?_
  refine loop_L (N := Tryz.f60.ntmps) (w0 := w0) (ow := noO fz) (α := Nat) (fun p => [(0, .row .str xs), (1, .row .str ys), (5, vi (p : Int))]) (fun p => []) (fun p => p ≤ xs.length ∧ ∀ j, j < p → ((xs.getD j (dflt .str)).toList == (ys.getD j (dflt .str)).toList) = true) (fun p => xs.length - p) 0 ?_ ?_ ?_
  ·exact ⟨Nat.zero_le _, fun j hj => absurd hj (Nat.not_lt_zero _)⟩
  ·(have e0_ : (0) = (((0 : Nat) : Int)) := (by first | rfl | (rfl)); exact (hs.cst [(0, .row .str xs), (1, .row .str ys), (5, vi ((0 : Nat) : Int))] [] (by first | rfl | (rw [e0_]; done) | (simp only [e0_]; done) | (simp only [e0_]; rfl))).rm [] (by kernel_rfl))
  rintro i hJ a w hs
  obtain ⟨hi, hall⟩ := hJ
  rcases bt (decide ((i : Int) < (xs.length : Int))) with b2 | b2
  ·skip
   have n2 := of_decide_eq_true b2
   rcases bt ((xs.getD i (dflt .str)).toList == (ys.getD i (dflt .str)).toList) with b3 | b3
   ·skip
    have n3 := eq_of_beq b3
    refine wN hs hI [true, false] [0, 1, 5] [] (((tr 4 True) ∧ (ty b2) ∧ True) ∧ (((True ∧ True ∧ (0 ≤ (i : Int) ∧ (i : Int) < xs.length) ∧ (tr 3 ((0 ≤ (i : Int) ∧ (i : Int) < ys.length) ∧ True ∧ True ∧ True))) ∧ (ty (ng1 b3)) ∧ True) ∧ True ∧ (InR .i64 ((i : Int) + 1)) ∧ True ∧ True)) .norm [(0, .row .str xs), (1, .row .str ys), (5, vi ((i : Int) + 1))] [] (by kernel_rfl) ⟨⟨tr_mk tv 4, b2, tv⟩, ⟨⟨tv, tv, (by omega), tr_mk (⟨(by omega), tv, tv, tv⟩) 3⟩, (ng1 b3), tv⟩, tv, (inR64 (by omega) (by omega)), tv, tv⟩ (fun a w hs => ?_)
    refine then_norm ⟨i + 1, ⟨by omega, fun j hj => by rcases Nat.lt_succ_iff_lt_or_eq.1 hj with h | h; exact hall j h; subst h; exact b3⟩, by omega, ?_⟩
    (have e0_ : ((i : Int) + 1) = ((((i + 1) : Nat) : Int)) := (by first | rfl | (omega)); exact (hs.cst [(0, .row .str xs), (1, .row .str ys), (5, vi (((i + 1) : Nat) : Int))] [] (by first | rfl | (rw [e0_]; done) | (simp only [e0_]; done) | (simp only [e0_]; rfl))).rm [] (by kernel_rfl))
   ·skip
    have n3 := beq_eq_false_iff_ne.1 b3
    refine wN hs hI [true, true] [4] [] (((tr 4 True) ∧ (ty b2) ∧ True) ∧ ((True ∧ True ∧ (0 ≤ (i : Int) ∧ (i : Int) < xs.length) ∧ (tr 3 ((0 ≤ (i : Int) ∧ (i : Int) < ys.length) ∧ True ∧ True ∧ True))) ∧ (ty (ng0 b3)) ∧ (True ∧ True) ∧ True)) .ret [(4, vb false)] [] (by kernel_rfl) ⟨⟨tr_mk tv 4, b2, tv⟩, ⟨tv, tv, (by omega), tr_mk (⟨(by omega), tv, tv, tv⟩) 3⟩, (ng0 b3), ⟨tv, tv⟩, tv⟩ (fun a w hs => ?_)
    refine then_ret ?_
    refine inb_ret ?_
    refine then_ret ?_
    exact FnQ_cast (out := .val (vb false)) (by simp only [sameS]; rw [ne_of b1, all_no (i := i) (by omega) (by exact b3)]; rfl) (ret_ok [] hs ⟨by kernel_rfl, rfl⟩)
  ·skip
   have n2 := of_decide_eq_false b2
   refine wN hs hI [false] [] [] ((tr 4 True) ∧ ((ty b2) ∧ True)) (.exit 0) [] [] (by kernel_rfl) ⟨tr_mk tv 4, b2, tv⟩ (fun a w hs => ?_)
   refine then_exit ?_
   refine inb_hit ?_
   refine then_norm ?_
   refine wN hs hI [] [4] [] ((True ∧ True) ∧ True) .ret [(4, vb true)] [] (by kernel_rfl) ⟨⟨tv, tv⟩, tv⟩ (fun a w hs => ?_)
   exact FnQ_cast (out := .val (vb true)) (by simp only [sameS]; rw [ne_of b1, lt_all (fun j hj => hall j (by omega))]; rfl) (ret_ok [] hs ⟨by kernel_rfl, rfl⟩)
theorem con35 (xs ys : List (List ByteArray)) (hx : xs.length < 4294967296) (hxs : ∀ x ∈ xs, x.length < 4294967296) : Con Tryz.prog I0 35 [.row .strs xs, .row .strs ys] (.val (vb (sameP xs ys))) := by
 refine con_of Tryz.func35 rfl (Nat.le_of_ble_eq_true rfl) stab (fun w0 fz a hI hs => ?_)
 refine wp_seq ?_
 refine wN hs hI [] [0, 1] [] (True ∧ True) .norm [(0, .row .strs xs), (1, .row .strs ys)] [] (by kernel_rfl) ⟨tv, tv⟩ (fun a w hs => ?_)
 refine then_norm ?_
 refine wp_seq ?_
 rcases bt ((xs.length : Int) != (ys.length : Int)) with b1 | b1
 ·skip
  have n1 := bne_iff_ne.1 b1
  refine wN hs hI [true] [4] [] ((tr 5 True) ∧ ((ty b1) ∧ (True ∧ True) ∧ True)) .ret [(4, vb false)] [] (by kernel_rfl) ⟨tr_mk tv 5, b1, ⟨tv, tv⟩, tv⟩ (fun a w hs => ?_)
  refine then_ret ?_
  exact FnQ_cast (out := .val (vb false)) (by simp only [sameP, ne_of' b1, Bool.false_and]) (ret_ok [] hs ⟨by kernel_rfl, rfl⟩)
 ·skip
  have n1 := bne_eq_false_iff_eq.1 b1
  refine wN hs hI [false] [0, 1] [] ((tr 5 True) ∧ ((ty b1) ∧ True)) .norm [(0, .row .strs xs), (1, .row .strs ys)] [] (by kernel_rfl) ⟨tr_mk tv 5, b1, tv⟩ (fun a w hs => ?_)
  refine then_norm ?_
  refine wp_seq ?_
  refine wp_seq ?_
  refine wN hs hI [] [0, 1, 5] [] (True ∧ True) .norm [(0, .row .strs xs), (1, .row .strs ys), (5, vi 0)] [] (by kernel_rfl) ⟨tv, tv⟩ (fun a w hs => ?_)
  refine then_norm ?_
  refine wp_block ?_
  refine loop_L (N := Tryz.f35.ntmps) (w0 := w0) (ow := noO fz) (α := Nat) (fun p => [(0, .row .strs xs), (1, .row .strs ys), (5, vi (p : Int))]) (fun p => []) (fun p => p ≤ xs.length ∧ ∀ j, j < p → (sameS (xs.getD j (dflt .strs)) (ys.getD j (dflt .strs))) = true) (fun p => xs.length - p) 0 ?_ ?_ ?_
  ·exact ⟨Nat.zero_le _, fun j hj => absurd hj (Nat.not_lt_zero _)⟩
  ·(have e0_ : (0) = (((0 : Nat) : Int)) := (by first | rfl | (rfl)); exact (hs.cst [(0, .row .strs xs), (1, .row .strs ys), (5, vi ((0 : Nat) : Int))] [] (by first | rfl | (rw [e0_]; done) | (simp only [e0_]; done) | (simp only [e0_]; rfl))).rm [] (by kernel_rfl))
  rintro i hJ a w hs
  obtain ⟨hi, hall⟩ := hJ
  rcases bt (decide ((i : Int) < (xs.length : Int))) with b2 | b2
  ·skip
   have n2 := of_decide_eq_true b2
   rcases bt (sameS (xs.getD i (dflt .strs)) (ys.getD i (dflt .strs))) with b3 | b3
   ·skip
    refine wL hs hI [(6, ⟨[(8, ciA 60 [.row .str (xs.getD i (dflt .strs)), .row .str (ys.getD i (dflt .strs))] [] [] (.val (vb (sameS (xs.getD i (dflt .strs)) (ys.getD i (dflt .strs))))))], [], []⟩)] [true, false] [0, 1, 5] [] (((tr 4 True) ∧ (ty b2) ∧ True) ∧ (((True ∧ True ∧ (0 ≤ (i : Int) ∧ (i : Int) < xs.length) ∧ (tr 3 ((0 ≤ (i : Int) ∧ (i : Int) < ys.length) ∧ True ∧ (okArgs [.row .str (xs.getD i (dflt .strs)), .row .str (ys.getD i (dflt .strs))]) ∧ True ∧ True))) ∧ (ty (ng1 b3)) ∧ True) ∧ True ∧ (InR .i64 ((i : Int) + 1)) ∧ True ∧ True)) .norm [(0, .row .strs xs), (1, .row .strs ys), (5, vi ((i : Int) + 1))] [] ⟨⟨⟨ent60, con60 _ _ (hxs _ (getD_mem (by omega) _))⟩, tv⟩, tv⟩ (by kernel_rfl) ⟨⟨tr_mk tv 4, b2, tv⟩, ⟨⟨tv, tv, (by omega), tr_mk (⟨(by omega), tv, rfl, tv, tv⟩) 3⟩, (ng1 b3), tv⟩, tv, (inR64 (by omega) (by omega)), tv, tv⟩ (fun a w hs => ?_)
    refine then_norm ⟨i + 1, ⟨by omega, fun j hj => by rcases Nat.lt_succ_iff_lt_or_eq.1 hj with h | h; exact hall j h; subst h; exact b3⟩, by omega, ?_⟩
    (have e0_ : ((i : Int) + 1) = ((((i + 1) : Nat) : Int)) := (by first | rfl | (omega)); exact (hs.cst [(0, .row .strs xs), (1, .row .strs ys), (5, vi (((i + 1) : Nat) : Int))] [] (by first | rfl | (rw [e0_]; done) | (simp only [e0_]; done) | (simp only [e0_]; rfl))).rm [] (by kernel_rfl))
   ·skip
    refine wL hs hI [(6, ⟨[(8, ciA 60 [.row .str (xs.getD i (dflt .strs)), .row .str (ys.getD i (dflt .strs))] [] [] (.val (vb (sameS (xs.getD i (dflt .strs)) (ys.getD i (dflt .strs))))))], [], []⟩)] [true, true] [4] [] (((tr 4 True) ∧ (ty b2) ∧ True) ∧ ((True ∧ True ∧ (0 ≤ (i : Int) ∧ (i : Int) < xs.length) ∧ (tr 3 ((0 ≤ (i : Int) ∧ (i : Int) < ys.length) ∧ True ∧ (okArgs [.row .str (xs.getD i (dflt .strs)), .row .str (ys.getD i (dflt .strs))]) ∧ True ∧ True))) ∧ (ty (ng0 b3)) ∧ (True ∧ True) ∧ True)) .ret [(4, vb false)] [] ⟨⟨⟨ent60, con60 _ _ (hxs _ (getD_mem (by omega) _))⟩, tv⟩, tv⟩ (by kernel_rfl) ⟨⟨tr_mk tv 4, b2, tv⟩, ⟨tv, tv, (by omega), tr_mk (⟨(by omega), tv, rfl, tv, tv⟩) 3⟩, (ng0 b3), ⟨tv, tv⟩, tv⟩ (fun a w hs => ?_)
    refine then_ret ?_
    refine inb_ret ?_
    refine then_ret ?_
    exact FnQ_cast (out := .val (vb false)) (by simp only [sameP]; rw [ne_of b1, all_no (i := i) (by omega) (by exact b3)]; rfl) (ret_ok [] hs ⟨by kernel_rfl, rfl⟩)
  ·skip
   have n2 := of_decide_eq_false b2
   refine wN hs hI [false] [] [] ((tr 4 True) ∧ ((ty b2) ∧ True)) (.exit 0) [] [] (by kernel_rfl) ⟨tr_mk tv 4, b2, tv⟩ (fun a w hs => ?_)
   refine then_exit ?_
   refine inb_hit ?_
   refine then_norm ?_
   refine wN hs hI [] [4] [] ((True ∧ True) ∧ True) .ret [(4, vb true)] [] (by kernel_rfl) ⟨⟨tv, tv⟩, tv⟩ (fun a w hs => ?_)
   exact FnQ_cast (out := .val (vb true)) (by simp only [sameP]; rw [ne_of b1, lt_all (fun j hj => hall j (by omega))]; rfl) (ret_ok [] hs ⟨by kernel_rfl, rfl⟩)
theorem joinF_size (xs : List ByteArray) (sep : ByteArray) : (joinF xs sep).size ≤ (xs.map (·.size)).sum + xs.length * sep.size := by
 have h1 : (joinF xs sep).size = (Lib.join (xs.map (·.data.toList)) sep.data.toList).length := by simp [joinF, ByteArray.size]
 rw [h1]
 cases xs with
 | nil => simp [Lib.join_nil]
 | cons x r =>
  rw [List.map_cons, Lib.join_length]
  have h2 : Lib.lens (x.data.toList :: r.map (·.data.toList)) = ((x :: r).map (·.size)).sum := by
   show Lib.lens ((x :: r).map (·.data.toList)) = _
   unfold Lib.lens
   rw [List.map_map]
   exact congrArg List.sum (List.map_congr_left (fun y _ => (Lib.size_eq y).symm))
  have h3 : sep.data.toList.length = sep.size := (Lib.size_eq sep).symm
  rw [h2, h3, List.length_map, List.length_cons, Nat.add_mul, Nat.mul_comm sep.size]
  omega
theorem sum_le {xs : List ByteArray} {b : Nat} (h : ∀ x ∈ xs, x.size ≤ b) : (xs.map (·.size)).sum ≤ xs.length * b := by
 induction xs with
 | nil => simp
 | cons x r ih =>
  have h1 := h x (List.mem_cons_self ..)
  have h2 := ih (fun y hy => h y (List.mem_cons_of_mem _ hy))
  simp only [List.map_cons, List.sum_cons, List.length_cons, Nat.add_mul]; omega
theorem checkF_in {xs : List (List ByteArray)} (h : checkF xs = true) : xs.length ≤ 60 ∧ ∀ p ∈ xs, p.length ≤ 63 ∧ p ≠ [] ∧ ∀ n ∈ p, nameF n = true := by
 simp only [checkF, Bool.and_eq_true, decide_eq_true_eq, Bool.not_eq_true', List.any_eq_false] at h
 obtain ⟨h1, h2⟩ := h
 refine ⟨by omega, fun p hp => ?_⟩
 have h3 := h2 p hp
 simp only [badPath, Bool.or_eq_true, beq_iff_eq, decide_eq_true_eq, List.any_eq_true, not_or, not_exists, not_and] at h3
 refine ⟨by omega, fun e => h3.1 (by simp [e]), fun n hn => ?_⟩
 have := h3.2.2 n hn
 simpa using this
theorem nameF_size {s : ByteArray} (h : nameF s = true) : s.size ≤ 2000 := by
 simp only [nameF, Bool.and_eq_true, decide_eq_true_eq] at h
 omega
def dotF (p : List ByteArray) : ByteArray := joinF p (ba [46])
theorem path_join {p : List ByteArray} (h1 : p.length ≤ 63) (h2 : ∀ n ∈ p, nameF n = true) : (dotF p).size ≤ 126063 := by
 have h3 := joinF_size p (ba [46])
 have h4 := sum_le (b := 2000) (fun x hx => nameF_size (h2 x hx))
 have h5 : (ba [46]).size = 1 := rfl
 rw [h5] at h3
 unfold dotF; omega
theorem path_at {xs : List (List ByteArray)} {i : Nat} (h : checkF xs = true) (hi : i < xs.length) (d : List ByteArray) : (dotF (xs.getD i d)).size ≤ 126063 ∧ (xs.getD i d).length ≤ 63 := by
 obtain ⟨h1, _, h2⟩ := (checkF_in h).2 _ (getD_mem hi d)
 exact ⟨path_join h1 h2, h1⟩
def textF (xs : List (List ByteArray)) : ByteArray := if checkF xs = true then joinF (xs.map dotF) (ba [44]) else ba []
theorem text_join {xs : List (List ByteArray)} (h : checkF xs = true) : (joinF (xs.map dotF) (ba [44])).size ≤ 7563840 := by
 obtain ⟨h1, h2⟩ := checkF_in h
 have h3 := joinF_size (xs.map dotF) (ba [44])
 have h4 := sum_le (xs := xs.map dotF) (b := 126063) (fun x hx => by
  obtain ⟨p, hp, rfl⟩ := List.mem_map.1 hx
  exact path_join (h2 p hp).1 (h2 p hp).2.2)
 have h5 : (ba [44]).size = 1 := rfl
 rw [h5] at h3
 rw [List.length_map] at h3 h4
 omega
theorem con41 (xs : List (List ByteArray)) (hxs : ∀ x ∈ xs, smalls x) (hlen : xs.length < 4294967281) : Con Tryz.prog I0 41 [.row .strs xs] (.val (vs (textF xs))) := by
 refine con_of Tryz.func41 rfl (Nat.le_of_ble_eq_true rfl) stab (fun w0 fz a hI hs => ?_)
 refine wp_seq ?_
 refine wN hs hI [] [0] [] (True ∧ True) .norm [(0, .row .strs xs)] [] (by kernel_rfl) ⟨tv, tv⟩ (fun a w hs => ?_)
 refine then_norm ?_
 refine wp_seq ?_
 rcases bt (checkF xs) with b1 | b1
 ·skip
  refine wL hs hI [(1, ⟨[(1, ciA 39 [.row .strs xs] [] [] (.val (vb (checkF xs))))], [], []⟩)] [false] [0] [] ((True ∧ (okArgs [.row .strs xs]) ∧ True ∧ True) ∧ ((ty (ng1 b1)) ∧ True)) .norm [(0, .row .strs xs)] [] ⟨⟨⟨ent39, con39 _ hxs hlen⟩, tv⟩, tv⟩ (by kernel_rfl) ⟨⟨tv, rfl, tv, tv⟩, (ng1 b1), tv⟩ (fun a w hs => ?_)
  refine then_norm ?_
  refine wp_seq ?_
  refine wN hs hI [] [0, 3] [] (True ∧ True) .norm [(0, .row .strs xs), (3, nilv)] [] (by kernel_rfl) ⟨tv, tv⟩ (fun a w hs => ?_)
  refine then_norm ?_
  refine wp_seq ?_
  refine wp_seq ?_
  refine wN hs hI [] [3, 9, 10, 11] [] (tr 3 True) .norm [(3, nilv), (9, .row .strs xs), (10, vi (xs.length : Int)), (11, vi 0)] [] (by kernel_rfl) (tr_mk tv 3) (fun a w hs => ?_)
  refine then_norm ?_
  refine wp_block ?_
  have hck : checkF xs = true := b1
  have hxl := (checkF_in hck).1
  refine loop_L (N := Tryz.f41.ntmps) (w0 := w0) (ow := noO fz) (α := Nat) (fun p => [(3, .own 90000001), (9, .row .strs xs), (10, vi (xs.length : Int)), (11, vi (p : Int))]) (fun p => [(90000001, .sl 9 .str ((xs.take p).map dotF))]) (fun p => p ≤ xs.length) (fun p => xs.length - p) 0 ?_ ?_ ?_
  ·exact Nat.zero_le _
  ·(have hs := (hs.nil 10000002 3 9 .str (by kernel_rfl) (by decide) (by kernel_rfl) (by kernel_rfl)).rmT [(3, .own 10000002), (9, .row .strs xs), (10, vi (xs.length : Int)), (11, vi 0)] [(10000002, .sl 9 .str ([]))] [(10000002, 10000002)] (by kernel_rfl); exact (hs.cst [(3, .own 10000002), (9, .row .strs xs), (10, vi (xs.length : Int)), (11, vi ((0 : Nat) : Int))] [(10000002, .sl 9 .str ((xs.take 0).map dotF))] rfl).rm [(90000001, 10000002)] (by kernel_rfl))
  rintro i hJ a w hs
  have hl2 := take_map_len (f := dotF) hJ
  rcases bt (decide ((i : Int) < (xs.length : Int))) with b2 | b2
  ·skip
   have n2 := of_decide_eq_true b2
   refine wL hs hI [(7, ⟨[(2, ciA 92 [.row .str (xs.getD i (dflt .strs)), vs (ba [46])] [] [] (.val (vs (dotF (xs.getD i (dflt .strs))))))], [], []⟩)] [true] [3, 9, 10, 11] [8004] ((True ∧ True) ∧ (((ty b2) ∧ True) ∧ (((0 ≤ (i : Int) ∧ (i : Int) < xs.length) ∧ True ∧ True ∧ True) ∧ True ∧ True ∧ (okArgs [.row .str (xs.getD i (dflt .strs)), vs (ba [46])]) ∧ True ∧ (((((xs.take i).map dotF).length + 1) * 16 : Nat) ≤ 140737488355328 ∧ ((xs.take i).map dotF).length + 1 ≤ 140737488355328) ∧ True ∧ True) ∧ (InR .i64 ((i : Int) + 1)) ∧ True ∧ True)) .norm [(3, .own 8004), (9, .row .strs xs), (10, vi (xs.length : Int)), (11, vi ((i : Int) + 1))] [(8004, .sl 9 .str (((xs.take i).map dotF) ++ ([dotF (xs.getD i (dflt .strs))])))] ⟨⟨⟨ent92, conJoin _ _ (Nat.le_trans (path_at hck (by omega) _).1 (by decide)) (Nat.le_trans (path_at hck (by omega) _).2 (by decide))⟩, tv⟩, tv⟩ (by kernel_rfl) ⟨⟨tv, tv⟩, ⟨b2, tv⟩, ⟨⟨(by omega), tv, tv, tv⟩, tv, tv, rfl, tv, (by omega), tv, tv⟩, (inR64 (by omega) (by omega)), tv, tv⟩ (fun a w hs => ?_)
   refine then_norm ⟨i + 1, by omega, by omega, ?_⟩
   (have e0_ : ((i : Int) + 1) = ((((i + 1) : Nat) : Int)) := (by first | rfl | (omega)); have e1_ : (((xs.take i).map dotF) ++ ([dotF (xs.getD i (dflt .strs))])) = ((xs.take (i + 1)).map dotF) := (by first | rfl | (exact take_map_succ (f := dotF) (by omega) _)); exact (hs.cst [(3, .own 8004), (9, .row .strs xs), (10, vi (xs.length : Int)), (11, vi (((i + 1) : Nat) : Int))] [(8004, .sl 9 .str ((xs.take (i + 1)).map dotF))] (by first | rfl | (rw [e0_, e1_]; done) | (simp only [e0_, e1_]; done) | (simp only [e0_, e1_]; rfl))).rm [(90000001, 8004)] (by kernel_rfl))
  ·skip
   have n2 := of_decide_eq_false b2
   have htk : (xs.take i).map dotF = xs.map dotF := by rw [List.take_of_length_le (by omega)]
   refine wN hs hI [false] [3] [90000001] ((True ∧ True) ∧ ((ty b2) ∧ True)) (.exit 0) [(3, .own 90000001)] [(90000001, .sl 9 .str ((xs.take i).map dotF))] (by kernel_rfl) ⟨⟨tv, tv⟩, b2, tv⟩ (fun a w hs => ?_)
   refine then_exit ?_
   refine inb_hit ?_
   refine then_norm ?_
   refine wL hs hI [(9, ⟨[(1, ciA 92 [.row .str ((xs.take i).map dotF), vs (ba [44])] [90000001] [] (.val (vs (joinF ((xs.take i).map dotF) (ba [44])))))], [], []⟩)] [] [2] [] ((True ∧ (okArgs [.row .str ((xs.take i).map dotF), vs (ba [44])]) ∧ True ∧ True) ∧ True) .ret [(2, vs (joinF ((xs.take i).map dotF) (ba [44])))] [] ⟨⟨⟨ent92, conJoin _ _ (by rw [htk]; exact Nat.le_trans (text_join hck) (by decide)) (by rw [htk, List.length_map]; omega)⟩, tv⟩, tv⟩ (by kernel_rfl) ⟨⟨tv, rfl, tv, tv⟩, tv⟩ (fun a w hs => ?_)
   exact FnQ_cast (out := .val (vs (joinF ((xs.take i).map dotF) (ba [44])))) (by simp only [textF]; rw [if_pos hck, ← htk]) (ret_ok [] hs ⟨by kernel_rfl, rfl⟩)
 ·skip
  refine wL hs hI [(1, ⟨[(1, ciA 39 [.row .strs xs] [] [] (.val (vb (checkF xs))))], [], []⟩)] [true] [2] [] ((True ∧ (okArgs [.row .strs xs]) ∧ True ∧ True) ∧ ((ty (ng0 b1)) ∧ (True ∧ True) ∧ True)) .ret [(2, vs (ba []))] [] ⟨⟨⟨ent39, con39 _ hxs hlen⟩, tv⟩, tv⟩ (by kernel_rfl) ⟨⟨tv, rfl, tv, tv⟩, (ng0 b1), ⟨tv, tv⟩, tv⟩ (fun a w hs => ?_)
  refine then_ret ?_
  exact FnQ_cast (out := .val (vs (ba []))) (by simp only [textF]; rw [if_neg (by rw [b1]; decide)]) (ret_ok [] hs ⟨by kernel_rfl, rfl⟩)
section
variable {N : Nat} {w0 : World} {T : TL} {B : BL} {a : Act} {w : World}
end
theorem keys_ins (x : ByteArray) (v : Tree) (l : Mem) : (insA x v l).length ≤ l.length + 1 := by
 have h1 : ∀ l : Mem, (putA x v l).length = l.length + 1 := by
  intro l; induction l with
  | nil => rfl
  | cons p l ih => obtain ⟨y, u⟩ := p; simp only [putA]; split <;> simp [ih]
 have h2 : ∀ l : Mem, (repA x v l).length = l.length := by
  intro l; induction l with
  | nil => rfl
  | cons p l ih => obtain ⟨y, u⟩ := p; simp only [repA]; split <;> simp [ih]
 unfold insA
 split
 ·rw [h2]; omega
 ·rw [h1]; omega
theorem con27 (t : Tree) (q : List ByteArray) (hn : nodes t < 4611686018427387904) (hp : q.length < 4611686018427387904) : Con Tryz.prog I0 27 [.agg (encTree t), .row .str q] (.val (.tup [.agg (encTree ((getF q t).1)), vb ((getF q t).2)])) := by
 refine con_of Tryz.func27 rfl (Nat.le_of_ble_eq_true rfl) stab (fun w0 fz a hI hs => ?_)
 refine wp_seq ?_
 refine wN hs hI [] [1, 2, 4] [1000, 1001] (tr 3 True) .norm [(1, .row .str q), (2, .ptr 1000 0), (4, .ptr 1001 0)] [(1000, .var (encTree t)), (1001, .var [vi 0, vb false, vb false, nilv, vi 0, vs (ba []), nilv, nilv])] (by kernel_rfl) (tr_mk tv 3) (fun a w hs => ?_)
 refine then_norm ?_
 refine wp_seq ?_
 refine wp_seq ?_
 refine wN hs hI [] [1, 2, 4, 6] [1000, 1001] (True ∧ True) .norm [(1, .row .str q), (2, .ptr 1000 0), (4, .ptr 1001 0), (6, vi 0)] [(1000, .var (encTree t)), (1001, .var [vi 0, vb false, vb false, nilv, vi 0, vs (ba []), nilv, nilv])] (by kernel_rfl) ⟨tv, tv⟩ (fun a w hs => ?_)
 refine then_norm ?_
 refine wp_block ?_
 refine loop_L (N := Tryz.f27.ntmps) (w0 := w0) (ow := noO fz) (α := Nat × Tree) (fun p => [(1, .row .str q), (2, .ptr 90000003 0), (4, .ptr 1001 0), (6, vi ((p.1 : Nat) : Int))]) (fun p => [(1001, .var [vi 0, vb false, vb false, nilv, vi 0, vs (ba []), nilv, nilv]), (90000003, .var (encTree p.2))]) (fun p => p.1 ≤ q.length ∧ getF (q.drop p.1) p.2 = getF q t ∧ nodes p.2 ≤ nodes t) (fun p => q.length - p.1) (0, t) ?_ ?_ ?_
 ·exact ⟨Nat.zero_le _, rfl, Nat.le_refl _⟩
 ·(have e0_ : (0) = (((0 : Nat) : Int)) := (by first | rfl | (rfl)); exact (hs.cst [(1, .row .str q), (2, .ptr 1000 0), (4, .ptr 1001 0), (6, vi ((0 : Nat) : Int))] [(1000, .var (encTree t)), (1001, .var [vi 0, vb false, vb false, nilv, vi 0, vs (ba []), nilv, nilv])] (by first | rfl | (rw [e0_]; done) | (simp only [e0_]; done) | (simp only [e0_]; rfl))).rm [(1001, 1001), (90000003, 1000)] (by kernel_rfl))
 rintro ⟨i, u⟩ hJ a w hs
 try dsimp only at hJ
 obtain ⟨hi, hg, hu⟩ := hJ
 rcases bt (decide ((i : Int) < (q.length : Int))) with b1 | b1
 ·skip
  have n1 := of_decide_eq_true b1
  rcases bt (memB u (q.getD i (dflt .str))) with b2 | b2
  ·skip
   refine wL hs hI [(4, ⟨[(5, ciA 69 [.agg (encTree u), vs (q.getD i (dflt .str))] [] [] (.val (.tup [.agg (encTree (memV u (q.getD i (dflt .str)))), vb (memB u (q.getD i (dflt .str)))])))], [], []⟩)] [true, false] [1, 2, 4, 6] [1001, 90000003] (((tr 4 True) ∧ (ty b1) ∧ True) ∧ (((tr 3 ((0 ≤ (i : Int) ∧ (i : Int) < q.length) ∧ True ∧ (okArgs [.agg (encTree u), vs (q.getD i (dflt .str))]) ∧ (tr 6 True))) ∧ ((True ∧ True ∧ True) ∧ (ty (ng1 b2)) ∧ True) ∧ True ∧ True ∧ True) ∧ True ∧ (InR .i64 ((i : Int) + 1)) ∧ True ∧ True)) .norm [(1, .row .str q), (2, .ptr 90000003 0), (4, .ptr 1001 0), (6, vi ((i : Int) + 1))] [(1001, .var [vi 0, vb false, vb false, nilv, vi 0, vs (ba []), nilv, nilv]), (90000003, .var (encTree (memV u (q.getD i (dflt .str)))))] ⟨⟨⟨ent69, con69 _ _ (by have h1 := nodes_eq u; have h2 := nodesL_len u.v; omega)⟩, tv⟩, tv⟩ (by kernel_rfl) ⟨⟨tr_mk tv 4, b1, tv⟩, ⟨tr_mk (⟨(by omega), tv, rfl, tr_mk tv 6⟩) 3, ⟨⟨tv, tv, tv⟩, (ng1 b2), tv⟩, tv, tv, tv⟩, tv, (inR64 (by omega) (by omega)), tv, tv⟩ (fun a w hs => ?_)
   refine then_norm ⟨(i + 1, memV u (q.getD i (dflt .str))), ⟨by omega, by rw [← getF_yes (by omega) b2]; exact hg, Nat.le_trans (memV_nodes b2) hu⟩, by omega, ?_⟩
   (have e0_ : ((i : Int) + 1) = ((((i + 1) : Nat) : Int)) := (by first | rfl | (omega)); exact (hs.cst [(1, .row .str q), (2, .ptr 90000003 0), (4, .ptr 1001 0), (6, vi (((i + 1) : Nat) : Int))] [(1001, .var [vi 0, vb false, vb false, nilv, vi 0, vs (ba []), nilv, nilv]), (90000003, .var (encTree (memV u (q.getD i (dflt .str)))))] (by first | rfl | (rw [e0_]; done) | (simp only [e0_]; done) | (simp only [e0_]; rfl))).rm [(1001, 1001), (90000003, 90000003)] (by kernel_rfl))
  ·skip
   refine wL hs hI [(4, ⟨[(5, ciA 69 [.agg (encTree u), vs (q.getD i (dflt .str))] [] [] (.val (.tup [.agg (encTree (memV u (q.getD i (dflt .str)))), vb (memB u (q.getD i (dflt .str)))])))], [], []⟩)] [true, true] [4, 5] [1001] (((tr 4 True) ∧ (ty b1) ∧ True) ∧ ((tr 3 ((0 ≤ (i : Int) ∧ (i : Int) < q.length) ∧ True ∧ (okArgs [.agg (encTree u), vs (q.getD i (dflt .str))]) ∧ (tr 6 True))) ∧ (True ∧ True ∧ True) ∧ (ty (ng0 b2)) ∧ (tr 3 True) ∧ True)) .ret [(4, .ptr 1001 0), (5, vb false)] [(1001, .var [vi 0, vb false, vb false, nilv, vi 0, vs (ba []), nilv, nilv])] ⟨⟨⟨ent69, con69 _ _ (by have h1 := nodes_eq u; have h2 := nodesL_len u.v; omega)⟩, tv⟩, tv⟩ (by kernel_rfl) ⟨⟨tr_mk tv 4, b1, tv⟩, tr_mk (⟨(by omega), tv, rfl, tr_mk tv 6⟩) 3, ⟨tv, tv, tv⟩, (ng0 b2), tr_mk tv 3, tv⟩ (fun a w hs => ?_)
   refine then_ret ?_
   refine inb_ret ?_
   refine then_ret ?_
   exact FnQ_cast (out := .val (.tup [.agg [vi 0, vb false, vb false, .row (.int .u32) ([]), vi 0, vs (ba []), .row .str ([]), .row .tree ([])], vb false])) (by rw [← hg, getF_no (by omega) b2]; rfl) (ret_ok [] hs ⟨by kernel_rfl, rfl⟩)
 ·skip
  have n1 := of_decide_eq_false b1
  refine wN hs hI [false] [2, 4] [1001, 90000003] ((tr 4 True) ∧ ((ty b1) ∧ True)) (.exit 0) [(2, .ptr 90000003 0), (4, .ptr 1001 0)] [(1001, .var [vi 0, vb false, vb false, nilv, vi 0, vs (ba []), nilv, nilv]), (90000003, .var (encTree u))] (by kernel_rfl) ⟨tr_mk tv 4, b1, tv⟩ (fun a w hs => ?_)
  refine then_exit ?_
  refine inb_hit ?_
  refine then_norm ?_
  refine wN hs hI [] [4, 5] [1001] ((tr 3 True) ∧ True) .ret [(4, .ptr 1001 0), (5, vb true)] [(1001, .var (encTree u))] (by kernel_rfl) ⟨tr_mk tv 3, tv⟩ (fun a w hs => ?_)
  exact FnQ_cast (out := .val (.tup [.agg (encTree u), vb true])) (by rw [← hg, List.drop_of_length_le (by omega)]; rfl) (ret_ok [] hs ⟨by kernel_rfl, rfl⟩)
theorem starts_len {a b : List ByteArray} (h : b.length < a.length) : startsF a b = false := by
 unfold startsF; rw [decide_eq_false (by omega)]; rfl
theorem starts_no {a b : List ByteArray} {i : Nat} (h1 : i < a.length) (h2 : i < b.length) (h : eqT (a.getD i (dflt .str)) (b.getD i (dflt .str)) = false) : startsF a b = false := by
 unfold startsF
 rw [Bool.and_eq_false_iff]
 refine .inr (decide_eq_false (fun e => ?_))
 rw [eqT_ne] at h
 apply h
 rw [e, List.getD_eq_getElem?_getD, List.getD_eq_getElem?_getD, List.getElem?_take, if_pos h1]
theorem starts_yes {a b : List ByteArray} (h1 : a.length ≤ b.length) (h : ∀ j, j < a.length → eqT (a.getD j (dflt .str)) (b.getD j (dflt .str)) = true) : startsF a b = true := by
 unfold startsF
 rw [decide_eq_true (by omega), Bool.true_and]
 refine decide_eq_true (list_eq (by rw [List.length_take]; omega) (fun j hj d => ?_))
 have := eqT_iff.1 (h j hj)
 rw [getD_any hj d (dflt .str), this, List.getD_eq_getElem?_getD, List.getD_eq_getElem?_getD, List.getElem?_take, if_pos hj, List.getElem?_eq_getElem (by omega)]; rfl
theorem memB_zero (x : ByteArray) : memB Tree.zero x = false := by
 rw [memB_look]; rfl
theorem getF_zero : ∀ (q : List ByteArray), (getF q Tree.zero).1 = Tree.zero
 | [] => rfl
 | x :: q => by simp only [getF]; rw [if_neg (by rw [memB_zero]; decide)]
theorem getF_cons (x : ByteArray) (q : List ByteArray) (t : Tree) : getF (x :: q) t = if memB t x = true then getF q (memV t x) else (Tree.zero, false) := rfl
theorem getF_miss {q : List ByteArray} {t : Tree} (h : (getF q t).2 = false) : getF q t = (Tree.zero, false) := by
 induction q generalizing t with
 | nil => simp [getF] at h
 | cons x q ih =>
  rw [getF_cons] at h ⊢
  split
  ·rename_i hb
   rw [if_pos hb] at h
   exact ih h
  ·rfl
theorem memB_set (t : Tree) (x y : ByteArray) (v : Tree) : memB (setT t x v) y = if eqT y x = true then true else memB t y := by
 rw [memB_look, look_setT, memB_look]; split <;> rfl
theorem memV_set (t : Tree) (x y : ByteArray) (v : Tree) : memV (setT t x v) y = if eqT y x = true then v else memV t y := by
 rw [memV_look, look_setT, memV_look]; split <;> rfl
theorem memB_unset_ne {t : Tree} {x y : ByteArray} (h : eqT y x = false) : memB (unsetT t x) y = memB t y := by rw [memB_look, look_unsetT_ne h, memB_look]
theorem memV_unset_ne {t : Tree} {x y : ByteArray} (h : eqT y x = false) : memV (unsetT t x) y = memV t y := by rw [memV_look, look_unsetT_ne h, memV_look]
inductive Inc : List ByteArray → List ByteArray → Prop
 | ne (x y : ByteArray) (p q : List ByteArray) (h : eqT y x = false) : Inc (x :: p) (y :: q)
 | eq (x : ByteArray) (p q : List ByteArray) (h : Inc p q) : Inc (x :: p) (x :: q)
theorem Inc.symm {p q : List ByteArray} (h : Inc p q) : Inc q p := by
 induction h with
 | ne x y p q h => exact .ne y x q p (by rw [eqT_comm]; exact h)
 | eq x p q _ ih => exact .eq x q p ih
def ND (t : Tree) : Prop := ∀ q, Nodup (mems (getF q t).1)
theorem nd_zero : ND Tree.zero := fun q => by rw [getF_zero]; exact List.nodup_nil
theorem nd_memV {t : Tree} (h : ND t) (x : ByteArray) : ND (memV t x) := by
 cases hb : memB t x with
 | true => intro q; have := h (x :: q); rw [getF_cons, if_pos hb] at this; exact this
 | false => rw [memV_zero hb]; exact nd_zero
theorem nd_get {v : Tree} (h : ND v) : ∀ (p : List ByteArray), ND (getF p v).1
 | [] => h
 | x :: p => by
  rw [getF_cons]
  split
  ·exact nd_get (nd_memV h x) p
  ·exact nd_zero
theorem keys_put {x : ByteArray} {v : Tree} : ∀ {l : Mem}, x ∉ l.map (·.1) → Nodup l → Nodup (putA x v l)
 | [], _, _ => by simp [putA, Nodup]
 | (y, u) :: l, hx, h => by
  have h' := h
  unfold Nodup at h
  simp only [List.map_cons, List.mem_cons, not_or] at hx
  simp only [List.map_cons, List.nodup_cons] at h
  simp only [putA]
  split
  ·unfold Nodup
   simp only [List.map_cons, List.nodup_cons, List.mem_cons, not_or]
   exact ⟨hx, h⟩
  ·unfold Nodup
   simp only [List.map_cons, List.nodup_cons]
   refine ⟨fun hm => ?_, keys_put hx.2 h.2⟩
   have : ∀ l : Mem, y ∈ (putA x v l).map (·.1) → y = x ∨ y ∈ l.map (·.1) := by
    intro l
    induction l with
    | nil => simp [putA]
    | cons p l ih =>
     obtain ⟨z, w⟩ := p
     simp only [putA]
     split
     ·simp
     ·simp only [List.map_cons, List.mem_cons]
      rintro (h | h)
      ·exact .inr (.inl h)
      ·rcases ih h with h | h
       ·exact .inl h
       ·exact .inr (.inr h)
   rcases this l hm with h2 | h2
   ·exact hx.1 h2.symm
   ·exact h.1 h2
theorem keys_rep (x : ByteArray) (v : Tree) : ∀ l : Mem, (repA x v l).map (·.1) = l.map (·.1)
 | [] => rfl
 | (y, u) :: l => by
  simp only [repA]
  split
  ·rfl
  ·simp [keys_rep x v l]
theorem look_in {x : ByteArray} : ∀ {l : Mem}, x ∈ l.map (·.1) → (lookA x l).isSome = true
 | [], h => by simp at h
 | (y, u) :: l, h => by
  simp only [lookA]
  split
  ·rfl
  ·rename_i hne
   simp only [List.map_cons, List.mem_cons] at h
   rcases h with h | h
   ·exact absurd (eqT_iff.2 h) hne
   ·exact look_in h
theorem nodup_ins {x : ByteArray} {v : Tree} {l : Mem} (h : Nodup l) : Nodup (insA x v l) := by
 unfold insA
 split
 ·unfold Nodup; rw [keys_rep]; exact h
 ·rename_i hn
  exact keys_put (fun hm => hn (look_in hm)) h
theorem del_sub (x : ByteArray) : ∀ l : Mem, (delA x l).Sublist l
 | [] => List.Sublist.refl _
 | (y, u) :: l => by
  simp only [delA]
  split
  ·exact List.sublist_cons_self _ _
  ·exact (del_sub x l).cons_cons _
theorem nd_set {t u : Tree} (h : ND t) (hu : ND u) (x : ByteArray) : ND (setT t x u) := by
 intro q
 cases q with
 | nil => show Nodup (mems (setT t x u)); unfold setT; rw [mems_objM]; exact nodup_ins (h [])
 | cons y q =>
  rw [getF_cons, memB_set, memV_set]
  by_cases he : eqT y x = true
  ·simp only [he, if_true]; exact hu q
  ·simp only [he]
   have := h (y :: q)
   rw [getF_cons] at this
   simpa using this
theorem nd_unset {t : Tree} (h : ND t) (x : ByteArray) : ND (unsetT t x) := by
 intro q
 cases q with
 | nil =>
  show Nodup (mems (unsetT t x))
  unfold unsetT
  split
  ·rw [mems_objM]; exact List.Nodup.sublist ((del_sub x _).map _) (h [])
  ·exact h []
 | cons y q =>
  rw [getF_cons]
  by_cases he : eqT y x = true
  ·rw [eqT_iff] at he
   subst he
   rw [memB_look, look_unsetT_self (t := t) (h [])]
   exact List.nodup_nil
  ·have he' : eqT y x = false := by simpa using he
   rw [memB_unset_ne he', memV_unset_ne he']
   have := h (y :: q)
   rwa [getF_cons] at this
theorem nd_setP {v : Tree} (hv : ND v) : ∀ (p : List ByteArray) {t : Tree}, ND t → ND (setP p t v)
 | [], t, h => hv
 | x :: p, t, h => nd_set h (nd_setP hv p (nd_memV h x)) x
theorem nd_unsetP : ∀ (p : List ByteArray) {t : Tree}, ND t → ND (unsetP p t)
 | [], t, h => h
 | [x], t, h => nd_unset h x
 | x :: m :: p, t, h => by
  rw [unsetP]
  split
  ·exact nd_set h (nd_unsetP (m :: p) (nd_memV h x)) x
  ·exact h
theorem nd_step {v t : Tree} (hv : ND v) (ht : ND t) (p : List ByteArray) : ND (apStep v t p) := by
 unfold apStep
 split
 ·exact nd_setP (nd_get hv p) p ht
 ·exact nd_unsetP p ht
theorem starts_iff {a b : List ByteArray} : startsF a b = true ↔ a <+: b := by
 unfold startsF
 rw [Bool.and_eq_true, decide_eq_true_iff, decide_eq_true_iff, List.prefix_iff_eq_take]
 exact ⟨fun h => h.2, fun h => ⟨by have := congrArg List.length h; rw [List.length_take] at this; omega, h⟩⟩
theorem starts_nil (b : List ByteArray) : startsF [] b = true := starts_iff.2 (List.nil_prefix)
theorem starts_self (b : List ByteArray) : startsF b b = true := starts_iff.2 (List.prefix_refl _)
theorem starts_cons {x y : ByteArray} {p q : List ByteArray} : startsF (x :: p) (y :: q) = true ↔ x = y ∧ startsF p q = true := by
 rw [starts_iff, starts_iff, List.cons_prefix_cons]
theorem inc_of : ∀ {p q : List ByteArray}, startsF p q = false → startsF q p = false → Inc p q
 | [], q, h, _ => by rw [starts_nil] at h; cases h
 | _ :: _, [], _, h => by rw [starts_nil] at h; cases h
 | x :: p, y :: q, h1, h2 => by
  cases he : eqT y x with
  | false => exact .ne x y p q he
  | true =>
   rw [eqT_iff] at he
   subst he
   refine .eq _ p q (inc_of ?_ ?_)
   ·cases h : startsF p q with
    | false => rfl
    | true => rw [starts_cons.2 ⟨rfl, h⟩] at h1; cases h1
   ·cases h : startsF q p with
    | false => rfl
    | true => rw [starts_cons.2 ⟨rfl, h⟩] at h2; cases h2
theorem Inc.no {p q : List ByteArray} (h : Inc p q) : startsF p q = false := by
 induction h with
 | ne x y p q h =>
  cases hs : startsF (x :: p) (y :: q) with
  | false => rfl
  | true =>
   have := (starts_cons.1 hs).1
   subst this
   rw [eqT_self] at h; cases h
 | eq x p q _ ih =>
  cases hs : startsF (x :: p) (x :: q) with
  | false => rfl
  | true => rw [(starts_cons.1 hs).2] at ih; cases ih
abbrev Le (a b : List ByteArray) : Prop := ¬ cmpS b a < 0
theorem Le.trans {a b c : List ByteArray} (h1 : Le a b) (h2 : Le b c) : Le a c := cmpS_le_trans h2 h1
theorem Le.refl (a : List ByteArray) : Le a a := by unfold Le; rw [cmpS_self]; decide
theorem pre_between : ∀ {x y z : List ByteArray}, startsF x z = true → Le x y → Le y z → startsF x y = true
 | [], y, z, _, _, _ => starts_nil y
 | a :: x, y, [], h, _, _ => by
  have := starts_iff.1 h
  simp at this
 | a :: x, [], b :: z, h, h1, _ => absurd (by simp [cmpS]) h1
 | a :: x, c :: y, b :: z, h, h1, h2 => by
  obtain ⟨rfl, h0⟩ := starts_cons.1 h
  unfold Le at h1 h2
  rw [cmpS] at h1 h2
  rcases ltB_tri a c with h3 | rfl | h3
  ·rw [cmpB_of_lt h3, if_neg (by decide)] at h2; exact absurd (by decide) h2
  ·rw [cmpB_self, if_pos rfl] at h1 h2
   exact starts_cons.2 ⟨rfl, pre_between h0 h1 h2⟩
  ·rw [cmpB_of_lt h3, if_neg (by decide)] at h1; exact absurd (by decide) h1
theorem pre_le : ∀ {x y : List ByteArray}, startsF x y = true → Le x y
 | [], [], _ => Le.refl _
 | [], _ :: _, _ => by unfold Le; simp [cmpS]
 | _ :: _, [], h => by have := starts_iff.1 h; simp at this
 | a :: x, b :: y, h => by
  obtain ⟨rfl, h0⟩ := starts_cons.1 h
  unfold Le
  rw [cmpS, cmpB_self, if_pos rfl]
  exact pre_le h0
theorem step_nil (p : List ByteArray) : normStep [] p = [p] := rfl
theorem step_snoc (i : List (List ByteArray)) (o p : List ByteArray) : normStep (i ++ [o]) p = if startsF o p = true then i ++ [o] else i ++ [o] ++ [p] := by
 have e : (i ++ [o]).getD (((i ++ [o]).length : Int) - 1).toNat (dflt .strs) = o := by
  rw [show (((i ++ [o]).length : Int) - 1).toNat = i.length by simp]
  simp [List.getD]
 unfold normStep
 rw [e, if_pos (by rw [decide_eq_true_iff]; simp)]
theorem fold_inc : ∀ (s i : List (List ByteArray)) (o : List ByteArray), (i ++ [o]).Pairwise Inc → (∀ x ∈ i, Le x o) → (∀ p ∈ s, Le o p) → s.Pairwise Le → (s.foldl normStep (i ++ [o])).Pairwise Inc
 | [], i, o, h, _, _, _ => h
 | p :: s, i, o, h, hi, ho, hs => by
  rw [List.pairwise_cons] at hs
  rw [List.foldl_cons, step_snoc]
  have hop := ho p (by simp)
  split
  ·exact fold_inc s i o h hi (fun q hq => ho q (by simp [hq])) hs.2
  ·rename_i hn
   have hn' : startsF o p = false := by simpa using hn
   have hle : ∀ x ∈ i ++ [o], Le x p := fun x hx => by
    rcases List.mem_append.1 hx with hx | hx
    ·exact (hi x hx).trans hop
    ·simp at hx; subst hx; exact hop
   refine fold_inc s (i ++ [o]) p ?_ hle hs.1 hs.2
   rw [List.pairwise_append]
   refine ⟨h, List.pairwise_singleton _ _, fun x hx y hy => ?_⟩
   simp at hy
   subst hy
   have h1 : startsF x y = false := by
    cases hxp : startsF x y with
    | false => rfl
    | true =>
     exfalso
     rcases List.mem_append.1 hx with hx | hx
     ·have h2 := pre_between hxp (hi x hx) hop
      rw [List.pairwise_append] at h
      rw [(h.2.2 x hx o (by simp)).no] at h2; cases h2
     ·simp at hx; subst hx
      rw [hxp] at hn'; cases hn'
   refine inc_of h1 ?_
   cases h2 : startsF y x with
   | false => rfl
   | true =>
    have := cmpS_anti (xs := y) (ys := x) (hle x hx) (pre_le h2)
    subst this
    rw [starts_self] at h1; cases h1
theorem sortP_le (l : List (List ByteArray)) : (sortP l).Pairwise Le := by
 have h := List.pairwise_mergeSort (le := fun x y : List ByteArray => !decide (cmpS y x < 0)) (fun a b c h1 h2 => by
  simp only [Bool.not_eq_true', decide_eq_false_iff_not] at *; exact cmpS_le_trans h2 h1) (fun a b => by
  by_cases h : cmpS b a < 0
  ·have h2 : ¬ cmpS a b < 0 := fun h3 => by have := cmpS_trans h h3; rw [cmpS_self] at this; exact absurd this (by decide)
   simp [h2]
  ·simp [h]) l
 exact h.imp (fun h => by unfold Le; simpa using h)
theorem normF_inc (l : List (List ByteArray)) : (normF l).Pairwise Inc := by
 unfold normF
 have h := sortP_le l
 cases hs : sortP l with
 | nil => exact List.Pairwise.nil
 | cons p s =>
  rw [hs, List.pairwise_cons] at h
  rw [List.foldl_cons, step_nil]
  exact fold_inc s [] p (List.pairwise_singleton _ _) (fun x hx => by simp at hx) h.1 h.2
theorem mem_cutV {t : Tree} {x : ByteArray} (h : memB t x = true) : memV t x ∈ t.v := by
 have h0 : idxT x (cutK t) ≥ 0 := of_decide_eq_true h
 have h1 := idxT_in x (cutK t)
 have h2 := cut_len t
 rw [(memV_pos h0).1]
 have h3 : (idxT x (cutK t)).toNat < (cutV t).length := by omega
 refine cutV_sub ?_
 rw [List.getD_eq_getElem?_getD, List.getElem?_eq_getElem h3]
 exact List.getElem_mem h3
theorem put_mem {x : ByteArray} {v : Tree} {p : ByteArray × Tree} : ∀ {l : Mem}, p ∈ putA x v l → p = (x, v) ∨ p ∈ l
 | [], h => by simp [putA] at h; exact .inl h
 | (y, u) :: l, h => by
  simp only [putA] at h
  split at h
  ·rcases List.mem_cons.1 h with h | h
   ·exact .inl h
   ·exact .inr h
  ·rcases List.mem_cons.1 h with h | h
   ·exact .inr (by simp [h])
   ·rcases put_mem h with h | h
    ·exact .inl h
    ·exact .inr (by simp [h])
theorem rep_mem {x : ByteArray} {v : Tree} {p : ByteArray × Tree} : ∀ {l : Mem}, p ∈ repA x v l → p = (x, v) ∨ p ∈ l
 | [], h => by simp [repA] at h
 | (y, u) :: l, h => by
  simp only [repA] at h
  split at h
  ·rename_i he
   rw [eqT_iff] at he
   subst he
   rcases List.mem_cons.1 h with h | h
   ·exact .inl h
   ·exact .inr (by simp [h])
  ·rcases List.mem_cons.1 h with h | h
   ·exact .inr (by simp [h])
   ·rcases rep_mem h with h | h
    ·exact .inl h
    ·exact .inr (by simp [h])
theorem ins_mem {x : ByteArray} {v : Tree} {p : ByteArray × Tree} {l : Mem} (h : p ∈ insA x v l) : p = (x, v) ∨ p ∈ l := by
 unfold insA at h
 split at h
 ·exact rep_mem h
 ·exact put_mem h
theorem smalls_of {p : List (List ByteArray)} (hc : checkF p = true) : ∀ x ∈ p, smalls x := fun x hx => by
 obtain ⟨h1, h2⟩ := checkF_in hc
 obtain ⟨h3, _, h5⟩ := h2 x hx
 exact ⟨fun y hy => by have := nameF_size (h5 y hy); unfold small; omega, by omega⟩
theorem mems_in {t : Tree} {p : ByteArray × Tree} (h : p ∈ mems t) : p.2 ∈ t.v := by
 refine cutV_sub ?_
 rw [← mems_v]
 exact List.mem_map.2 ⟨p, h, rfl⟩
theorem mems_lev (t : Tree) : (mems t).length ≤ t.v.length := by
 have h : ((mems t).map (·.2)).length = (cutV t).length := by rw [mems_v]
 rw [List.length_map] at h
 rw [h]; unfold cutV
 split
 ·rw [List.length_take]; omega
 ·exact Nat.zero_le _
theorem fold_sub : ∀ (s out : List (List ByteArray)), ∃ r, s.foldl normStep out = out ++ r ∧ r.Sublist s
 | [], out => ⟨[], by simp, List.Sublist.refl _⟩
 | p :: s, out => by
  obtain ⟨r, h1, h2⟩ := fold_sub s (normStep out p)
  rw [List.foldl_cons, h1]
  unfold normStep
  split
  ·split
   ·exact ⟨r, rfl, h2.cons _⟩
   ·exact ⟨p :: r, by simp, h2.cons_cons _⟩
  ·exact ⟨p :: r, by simp, h2.cons_cons _⟩
theorem normF_sorted (l : List (List ByteArray)) : (normF l).Pairwise Le := by
 obtain ⟨r, h1, h2⟩ := fold_sub (sortP l) []
 unfold normF
 rw [h1, List.nil_append]
 exact (sortP_le l).sublist h2
theorem fold_keep : ∀ (s i : List (List ByteArray)) (o : List ByteArray), (i ++ [o] ++ s).Pairwise Inc → s.foldl normStep (i ++ [o]) = i ++ [o] ++ s
 | [], i, o, _ => by simp
 | p :: s, i, o, h => by
  have h1 : Inc o p := (List.pairwise_append.1 h).2.2 o (by simp) p (by simp)
  rw [List.foldl_cons, step_snoc, if_neg (by rw [h1.no]; decide)]
  have e : i ++ [o] ++ p :: s = i ++ [o] ++ [p] ++ s := by simp
  rw [e] at h ⊢
  exact fold_keep s (i ++ [o]) p h
theorem sort_keep {l : List (List ByteArray)} (h : l.Pairwise Le) : sortP l = l := List.mergeSort_of_pairwise (h.imp (fun h => by unfold Le at h; simpa using h))
theorem norm_keep {l : List (List ByteArray)} (h : l.Pairwise Le) (h2 : l.Pairwise Inc) : normF l = l := by
 unfold normF
 rw [sort_keep h]
 cases l with
 | nil => rfl
 | cons p s =>
  rw [List.foldl_cons, step_nil]
  exact fold_keep s [] p h2
theorem con130 (l : List (El (.int .u32))) (hl : l.length < 1000000000) : Con Tryz.prog I0 130 [.row (.int .u32) l] (.own 160 (.int .u32) l) := by
 refine con_of Tryz.func130 rfl (Nat.le_of_ble_eq_true rfl) stab (fun w0 fz a hI hs => ?_)
 refine wN hs hI [] [2] [2001] ((True ∧ True) ∧ ((True ∧ ((l.length * 4 : Nat) ≤ 140737488355328 ∧ l.length ≤ 140737488355328) ∧ True ∧ True) ∧ True)) .ret [(2, .own 2001)] [(2001, .sl 160 (.int .u32) l)] (by kernel_rfl) ⟨⟨tv, tv⟩, ⟨tv, (by omega), tv, tv⟩, tv⟩ (fun a w hs => ?_)
 exact FnQ_cast (out := .own 160 (.int .u32) l) (by simp) (ret_ok [] hs (.inl ⟨2001, by kernel_rfl, rfl⟩))
theorem con68 (l : List (El .str)) (hl : l.length < 1000000000) : Con Tryz.prog I0 68 [.row .str l] (.own 9 .str l) := by
 refine con_of Tryz.func68 rfl (Nat.le_of_ble_eq_true rfl) stab (fun w0 fz a hI hs => ?_)
 refine wN hs hI [] [2] [2001] ((True ∧ True) ∧ ((True ∧ ((l.length * 16 : Nat) ≤ 140737488355328 ∧ l.length ≤ 140737488355328) ∧ True ∧ True) ∧ True)) .ret [(2, .own 2001)] [(2001, .sl 9 .str l)] (by kernel_rfl) ⟨⟨tv, tv⟩, ⟨tv, (by omega), tv, tv⟩, tv⟩ (fun a w hs => ?_)
 exact FnQ_cast (out := .own 9 .str l) (by simp) (ret_ok [] hs (.inl ⟨2001, by kernel_rfl, rfl⟩))
theorem ints_eq {a b : List Int} (hl : a.length = b.length) (h : ∀ j, j < a.length → a.getD j (dflt (.int .u32)) = b.getD j (dflt (.int .u32))) : a = b := by
 refine List.ext_getElem hl (fun i h1 h2 => ?_)
 have := h i h1
 rw [List.getD_eq_getElem?_getD, List.getD_eq_getElem?_getD, List.getElem?_eq_getElem h1, List.getElem?_eq_getElem h2] at this
 exact this
theorem con145 (xs ys : List Int) (h : xs.length < 4294967296) : Con Tryz.prog I0 145 [.row (.int .u32) xs, .row (.int .u32) ys] (.val (vb (decide (xs = ys)))) := by
 refine con_of Tryz.func145 rfl (Nat.le_of_ble_eq_true rfl) stab (fun w0 fz a hI hs => ?_)
 refine wp_seq ?_
 refine wN hs hI [] [0, 1] [] (True ∧ True) .norm [(0, .row (.int .u32) xs), (1, .row (.int .u32) ys)] [] (by kernel_rfl) ⟨tv, tv⟩ (fun a w hs => ?_)
 refine then_norm ?_
 refine wp_seq ?_
 rcases bt ((xs.length : Int) != (ys.length : Int)) with b1 | b1
 ·skip
  have n1 := bne_iff_ne.1 b1
  refine wN hs hI [true] [4] [] ((tr 5 True) ∧ ((ty b1) ∧ (True ∧ True) ∧ True)) .ret [(4, vb false)] [] (by kernel_rfl) ⟨tr_mk tv 5, b1, ⟨tv, tv⟩, tv⟩ (fun a w hs => ?_)
  refine then_ret ?_
  exact FnQ_cast (out := .val (vb false)) (by rw [decide_eq_false (fun e => by subst e; simp at b1)]) (ret_ok [] hs ⟨by kernel_rfl, rfl⟩)
 ·skip
  have n1 := bne_eq_false_iff_eq.1 b1
  refine wN hs hI [false] [0, 1] [] ((tr 5 True) ∧ ((ty b1) ∧ True)) .norm [(0, .row (.int .u32) xs), (1, .row (.int .u32) ys)] [] (by kernel_rfl) ⟨tr_mk tv 5, b1, tv⟩ (fun a w hs => ?_)
  refine then_norm ?_
  refine wp_seq ?_
  refine wp_seq ?_
  refine wN hs hI [] [0, 1, 5] [] (True ∧ True) .norm [(0, .row (.int .u32) xs), (1, .row (.int .u32) ys), (5, vi 0)] [] (by kernel_rfl) ⟨tv, tv⟩ (fun a w hs => ?_)
  refine then_norm ?_
  refine wp_block ?_
  refine loop_L (N := Tryz.f145.ntmps) (w0 := w0) (ow := noO fz) (α := Nat) (fun p => [(0, .row (.int .u32) xs), (1, .row (.int .u32) ys), (5, vi (p : Int))]) (fun p => []) (fun p => p ≤ xs.length ∧ ∀ j, j < p → xs.getD j (dflt (.int .u32)) = ys.getD j (dflt (.int .u32))) (fun p => xs.length - p) 0 ?_ ?_ ?_
  ·exact ⟨Nat.zero_le _, fun j hj => absurd hj (Nat.not_lt_zero _)⟩
  ·(have e0_ : (0) = (((0 : Nat) : Int)) := (by first | rfl | (rfl)); exact (hs.cst [(0, .row (.int .u32) xs), (1, .row (.int .u32) ys), (5, vi ((0 : Nat) : Int))] [] (by first | rfl | (rw [e0_]; done) | (simp only [e0_]; done) | (simp only [e0_]; rfl))).rm [] (by kernel_rfl))
  rintro i hJ a w hs
  obtain ⟨hi, hall⟩ := hJ
  rcases bt (decide ((i : Int) < (xs.length : Int))) with b2 | b2
  ·skip
   have n2 := of_decide_eq_true b2
   rcases bt ((xs.getD i (dflt (.int .u32))) != (ys.getD i (dflt (.int .u32)))) with b3 | b3
   ·skip
    have n3 := bne_iff_ne.1 b3
    refine wN hs hI [true, true] [4] [] (((tr 4 True) ∧ (ty b2) ∧ True) ∧ ((True ∧ True ∧ (0 ≤ (i : Int) ∧ (i : Int) < xs.length) ∧ (tr 3 ((0 ≤ (i : Int) ∧ (i : Int) < ys.length) ∧ True ∧ True ∧ True))) ∧ (ty b3) ∧ (True ∧ True) ∧ True)) .ret [(4, vb false)] [] (by kernel_rfl) ⟨⟨tr_mk tv 4, b2, tv⟩, ⟨tv, tv, (by omega), tr_mk (⟨(by omega), tv, tv, tv⟩) 3⟩, b3, ⟨tv, tv⟩, tv⟩ (fun a w hs => ?_)
    refine then_ret ?_
    refine inb_ret ?_
    refine then_ret ?_
    exact FnQ_cast (out := .val (vb false)) (by rw [decide_eq_false (fun e => by subst e; simp at b3)]) (ret_ok [] hs ⟨by kernel_rfl, rfl⟩)
   ·skip
    have n3 := bne_eq_false_iff_eq.1 b3
    refine wN hs hI [true, false] [0, 1, 5] [] (((tr 4 True) ∧ (ty b2) ∧ True) ∧ (((True ∧ True ∧ (0 ≤ (i : Int) ∧ (i : Int) < xs.length) ∧ (tr 3 ((0 ≤ (i : Int) ∧ (i : Int) < ys.length) ∧ True ∧ True ∧ True))) ∧ (ty b3) ∧ True) ∧ True ∧ (InR .i64 ((i : Int) + 1)) ∧ True ∧ True)) .norm [(0, .row (.int .u32) xs), (1, .row (.int .u32) ys), (5, vi ((i : Int) + 1))] [] (by kernel_rfl) ⟨⟨tr_mk tv 4, b2, tv⟩, ⟨⟨tv, tv, (by omega), tr_mk (⟨(by omega), tv, tv, tv⟩) 3⟩, b3, tv⟩, tv, (inR64 (by omega) (by omega)), tv, tv⟩ (fun a w hs => ?_)
    refine then_norm ⟨i + 1, ⟨by omega, fun j hj => by rcases Nat.lt_succ_iff_lt_or_eq.1 hj with h | h; exact hall j h; subst h; exact (by simpa using b3)⟩, by omega, ?_⟩
    (have e0_ : ((i : Int) + 1) = ((((i + 1) : Nat) : Int)) := (by first | rfl | (omega)); exact (hs.cst [(0, .row (.int .u32) xs), (1, .row (.int .u32) ys), (5, vi (((i + 1) : Nat) : Int))] [] (by first | rfl | (rw [e0_]; done) | (simp only [e0_]; done) | (simp only [e0_]; rfl))).rm [] (by kernel_rfl))
  ·skip
   have n2 := of_decide_eq_false b2
   refine wN hs hI [false] [] [] ((tr 4 True) ∧ ((ty b2) ∧ True)) (.exit 0) [] [] (by kernel_rfl) ⟨tr_mk tv 4, b2, tv⟩ (fun a w hs => ?_)
   refine then_exit ?_
   refine inb_hit ?_
   refine then_norm ?_
   refine wN hs hI [] [4] [] ((True ∧ True) ∧ True) .ret [(4, vb true)] [] (by kernel_rfl) ⟨⟨tv, tv⟩, tv⟩ (fun a w hs => ?_)
   exact FnQ_cast (out := .val (vb true)) (by rw [decide_eq_true (ints_eq (by omega) (fun j hj => hall j (by omega)))]) (ret_ok [] hs ⟨by kernel_rfl, rfl⟩)
def eqN (a b : Num) : Bool := a.neg == b.neg && (a.e == b.e && decide (a.m = b.m))
theorem con88 (x y : Num) (hl : x.m.length < 4294967296) : Con Tryz.prog I0 88 [.agg [vb x.neg, .row (.int .u32) x.m, vi x.e], .agg [vb y.neg, .row (.int .u32) y.m, vi y.e]] (.val (vb (eqN x y))) := by
 refine con_of Tryz.func88 rfl (Nat.le_of_ble_eq_true rfl) stab (fun w0 fz a hI hs => ?_)
 rcases bt (x.neg == y.neg) with b1 | b1
 ·skip
  have n1 := eq_of_beq b1
  rcases bt (x.e == y.e) with b2 | b2
  ·skip
   have n2 := eq_of_beq b2
   refine wL hs hI [(1, ⟨[(17, ciA 145 [.row (.int .u32) x.m, .row (.int .u32) y.m] [] [] (.val (vb (decide (x.m = y.m)))))], gg [6, 7, 8, 9, 10, 1011, 13, 14, 15, 16, 17, 1018] [], []⟩)] [] [4] [] ((tr 3 True) ∧ ((tr 6 (rp 6 b1 (rp 4 b2 ((ty b2) ∧ (okArgs [.row (.int .u32) x.m, .row (.int .u32) y.m]) ∧ (ty b2) ∧ True ∧ True)))) ∧ True)) .ret [(4, vb (decide (x.m = y.m)))] [] ⟨⟨⟨ent145, con145 _ _ hl⟩, tv⟩, tv⟩ (by kernel_rfl) ⟨tr_mk tv 3, tr_mk (rp_mk (rp_mk (⟨b2, rfl, b2, tv, tv⟩) 4) 6) 6, tv⟩ (fun a w hs => ?_)
   exact FnQ_cast (out := .val (vb (decide (x.m = y.m)))) (by simp only [eqN]; simp_all) (ret_ok [] hs ⟨by kernel_rfl, rfl⟩)
  ·skip
   have n2 := beq_eq_false_iff_ne.1 b2
   refine wL hs hI [(1, ⟨[], gg [6, 7, 8, 9, 10, 1011] [13, 14, 15, 16, 17, 1018], []⟩)] [] [4] [] ((tr 3 True) ∧ ((tr 6 (rp 6 b1 ((ty b2) ∧ (ty b2) ∧ (ty b2) ∧ (ty b2) ∧ (ty b2) ∧ (ty b2) ∧ True ∧ True))) ∧ True)) .ret [(4, vb false)] [] ⟨tv, tv⟩ (by kernel_rfl) ⟨tr_mk tv 3, tr_mk (rp_mk (⟨b2, b2, b2, b2, b2, b2, tv, tv⟩) 6) 6, tv⟩ (fun a w hs => ?_)
   exact FnQ_cast (out := .val (vb false)) (by simp only [eqN]; simp_all) (ret_ok [] hs ⟨by kernel_rfl, rfl⟩)
 ·skip
  have n1 := beq_eq_false_iff_ne.1 b1
  refine wL hs hI [(1, ⟨[], gg [] [6, 7, 8, 9, 10, 1011, 13, 14, 15, 16, 17, 1018], []⟩)] [] [4] [] ((tr 3 True) ∧ ((tr 6 ((ty b1) ∧ (ty b1) ∧ (ty b1) ∧ (ty b1) ∧ (ty b1) ∧ (ty b1) ∧ True ∧ (false = false) ∧ (false = false) ∧ (false = false) ∧ (false = false) ∧ (false = false) ∧ (false = false) ∧ True ∧ True)) ∧ True)) .ret [(4, vb false)] [] ⟨tv, tv⟩ (by kernel_rfl) ⟨tr_mk tv 3, tr_mk (⟨b1, b1, b1, b1, b1, b1, tv, rfl, rfl, rfl, rfl, rfl, rfl, tv, tv⟩) 6, tv⟩ (fun a w hs => ?_)
  exact FnQ_cast (out := .val (vb false)) (by simp only [eqN]; simp_all) (ret_ok [] hs ⟨by kernel_rfl, rfl⟩)
theorem con67 (x : Num) (hl : x.m.length < 1000000000) : Con Tryz.prog I0 67 [.agg [vb x.neg, .row (.int .u32) x.m, vi x.e]] (.val (.agg [vb x.neg, .row (.int .u32) x.m, vi x.e])) := by
 refine con_of Tryz.func67 rfl (Nat.le_of_ble_eq_true rfl) stab (fun w0 fz a hI hs => ?_)
 refine wL hs hI [(1, ⟨[(4, ciA 130 [.row (.int .u32) x.m] [] [] (.own 160 (.int .u32) x.m))], [], []⟩)] [] [2] [1001, 2004] ((True ∧ True ∧ True) ∧ ((tr 4 ((okArgs [.row (.int .u32) x.m]) ∧ (tr 4 True))) ∧ True)) .ret [(2, .ptr 1001 0)] [(1001, .var [vb x.neg, .own 2004, vi x.e]), (2004, .sl 160 (.int .u32) x.m)] ⟨⟨⟨ent130, con130 _ (by omega)⟩, tv⟩, tv⟩ (by kernel_rfl) ⟨⟨tv, tv, tv⟩, tr_mk (⟨rfl, tr_mk tv 4⟩) 4, tv⟩ (fun a w hs => ?_)
 exact FnQ_cast (out := .val (.agg [vb x.neg, .row (.int .u32) x.m, vi x.e])) (rfl) (ret_ok [2004] hs ⟨by kernel_rfl, rfl⟩)
theorem take_snoc {l : List Tree} {i : Nat} (h : i < l.length) : l.take i ++ [l.getD i (dflt .tree)] = l.take (i + 1) := by
 rw [List.take_succ_eq_append_getElem h, List.getD_eq_getElem?_getD, List.getElem?_eq_getElem h]; rfl
theorem con20_ : ∀ (n : Nat) (t : Tree), nodes t < n → fineT t → Con Tryz.prog I0 20 [.agg (encTree t)] (.val (.agg (encTree t))) := by
 intro n
 induction n
 case zero => intro t hn; omega
 rename_i n ih
 intro t hn hft
 obtain ⟨⟨hf1, hf2, hf3, hf4⟩, hf5⟩ := (fine_eq t).1 hft
 refine con_of Tryz.func20 rfl (Nat.le_of_ble_eq_true rfl) stab (fun w0 fz a hI hs => ?_)
 refine wp_seq ?_
 refine wN hs hI [] [1, 2] [1000, 1001] (True ∧ (True ∧ True)) .norm [(1, .ptr 1000 0), (2, .ptr 1001 0)] [(1000, .var (encTree t)), (1001, .var [vi 0, vb false, vb false, nilv, vi 0, vs (ba []), nilv, nilv])] (by kernel_rfl) ⟨tv, tv, tv⟩ (fun a w hs => ?_)
 refine then_norm ?_
 refine wp_seq ?_
 refine wL hs hI [(1, ⟨[(6, ciA 67 [.agg [vb t.n.neg, .row (.int .u32) t.n.m, vi t.n.e]] [] [] (.val (.agg [vb t.n.neg, .row (.int .u32) t.n.m, vi t.n.e]))), (11, ciA 68 [.row .str t.k] [] [] (.val (.row .str t.k)))], [], []⟩)] [] [1, 2, 3] [1000, 1001, 2013] (tr 6 ((okArgs [.agg [vb t.n.neg, .row (.int .u32) t.n.m, vi t.n.e]]) ∧ (tr 4 ((okArgs [.row .str t.k]) ∧ (tr 3 True))))) .norm [(1, .ptr 1000 0), (2, .ptr 1001 0), (3, .ptr 2013 0)] [(1000, .var (encTree t)), (1001, .var [vi 0, vb false, vb false, nilv, vi 0, vs (ba []), nilv, nilv]), (2013, .var [vi t.kind, vb t.b, vb t.n.neg, .row (.int .u32) t.n.m, vi t.n.e, vs t.s, .row .str t.k, nilv])] ⟨⟨⟨ent67, con67 t.n (by omega)⟩, ⟨⟨ent68, (con68 _ (by omega)).frz⟩, tv⟩⟩, tv⟩ (by kernel_rfl) (tr_mk (⟨rfl, tr_mk (⟨rfl, tr_mk tv 3⟩) 4⟩) 6) (fun a w hs => ?_)
 refine then_norm ?_
 refine wp_seq ?_
 refine wp_seq ?_
 refine wN hs hI [] [1, 2, 3, 4] [1000, 1001, 2013] (True ∧ True) .norm [(1, .ptr 1000 0), (2, .ptr 1001 0), (3, .ptr 2013 0), (4, vi 0)] [(1000, .var (encTree t)), (1001, .var [vi 0, vb false, vb false, nilv, vi 0, vs (ba []), nilv, nilv]), (2013, .var [vi t.kind, vb t.b, vb t.n.neg, .row (.int .u32) t.n.m, vi t.n.e, vs t.s, .row .str t.k, nilv])] (by kernel_rfl) ⟨tv, tv⟩ (fun a w hs => ?_)
 refine then_norm ?_
 refine wp_block ?_
 refine loop_L (N := Tryz.f20.ntmps) (w0 := w0) (ow := noO fz) (α := Nat) (fun p => [(1, .ptr 1000 0), (2, .ptr 1001 0), (3, .ptr 90000001 0), (4, vi (p : Int))]) (fun p => [(1000, .var (encTree t)), (1001, .var [vi 0, vb false, vb false, nilv, vi 0, vs (ba []), nilv, nilv]), (90000001, .var [vi t.kind, vb t.b, vb t.n.neg, .row (.int .u32) t.n.m, vi t.n.e, vs t.s, .row .str t.k, .own 90000002]), (90000002, .sl 29 .tree (t.v.take p))]) (fun p => p ≤ t.v.length) (fun p => t.v.length - p) 0 ?_ ?_ ?_
 ·exact Nat.zero_le _
 ·(have hs := (hs.nilB 10000005 2013 7 29 .tree [vi t.kind, vb t.b, vb t.n.neg, .row (.int .u32) t.n.m, vi t.n.e, vs t.s, .row .str t.k, nilv] (by kernel_rfl) (by kernel_rfl) (by decide) (by decide) (by kernel_rfl) (by kernel_rfl)).rmT [(1, .ptr 1000 0), (2, .ptr 1001 0), (3, .ptr 2013 0), (4, vi 0)] [(1000, .var (encTree t)), (1001, .var [vi 0, vb false, vb false, nilv, vi 0, vs (ba []), nilv, nilv]), (2013, .var [vi t.kind, vb t.b, vb t.n.neg, .row (.int .u32) t.n.m, vi t.n.e, vs t.s, .row .str t.k, .own 10000005]), (10000005, .sl 29 .tree ([]))] [(1000, 1000), (1001, 1001), (2013, 2013), (10000005, 10000005)] (by kernel_rfl); exact (hs.cst [(1, .ptr 1000 0), (2, .ptr 1001 0), (3, .ptr 2013 0), (4, vi ((0 : Nat) : Int))] [(1000, .var (encTree t)), (1001, .var [vi 0, vb false, vb false, nilv, vi 0, vs (ba []), nilv, nilv]), (2013, .var [vi t.kind, vb t.b, vb t.n.neg, .row (.int .u32) t.n.m, vi t.n.e, vs t.s, .row .str t.k, .own 10000005]), (10000005, .sl 29 .tree (t.v.take 0))] rfl).rm [(1000, 1000), (1001, 1001), (90000001, 2013), (90000002, 10000005)] (by kernel_rfl))
 rintro i hJ a w hs
 have htl : (t.v.take i).length ≤ 1000000000 := by rw [List.length_take]; omega
 rcases bt (decide ((i : Int) < (t.v.length : Int))) with b1 | b1
 ·skip
  have n1 := of_decide_eq_true b1
  refine wL hs hI [(5, ⟨[(7, ciA 20 [.agg (encTree (t.v.getD i (dflt .tree)))] [] [] (.val (.agg (encTree (t.v.getD i (dflt .tree))))))], [], []⟩)] [true] [1, 2, 3, 4] [1000, 1001, 6009, 90000001] (((tr 5 True) ∧ (ty b1) ∧ True) ∧ ((tr 5 ((0 ≤ (i : Int) ∧ (i : Int) < t.v.length) ∧ True ∧ (okArgs [.agg (encTree (t.v.getD i (dflt .tree)))]) ∧ True ∧ ((((t.v.take i).length + 1) * 120 : Nat) ≤ 140737488355328 ∧ (t.v.take i).length + 1 ≤ 140737488355328) ∧ True ∧ True ∧ True)) ∧ True ∧ (InR .i64 ((i : Int) + 1)) ∧ True ∧ True)) .norm [(1, .ptr 1000 0), (2, .ptr 1001 0), (3, .ptr 90000001 0), (4, vi ((i : Int) + 1))] [(1000, .var (encTree t)), (1001, .var [vi 0, vb false, vb false, nilv, vi 0, vs (ba []), nilv, nilv]), (6009, .sl 29 .tree ((t.v.take i) ++ ([(Tree.mk ((t.v.getD i (dflt .tree)).kind) ((t.v.getD i (dflt .tree)).b) ⟨(t.v.getD i (dflt .tree)).n.neg, (t.v.getD i (dflt .tree)).n.m, (t.v.getD i (dflt .tree)).n.e⟩ ((t.v.getD i (dflt .tree)).s) ((t.v.getD i (dflt .tree)).k) ((t.v.getD i (dflt .tree)).v))]))), (90000001, .var [vi t.kind, vb t.b, vb t.n.neg, .row (.int .u32) t.n.m, vi t.n.e, vs t.s, .row .str t.k, .own 6009])] ⟨⟨⟨ent20, ih _ (by have h1 := nodes_eq t; have h2 := nodes_at (l := t.v) (i := i) (by omega); omega) (fine_at hft (by omega) _)⟩, tv⟩, tv⟩ (by kernel_rfl) ⟨⟨tr_mk tv 5, b1, tv⟩, tr_mk (⟨(by omega), tv, rfl, tv, (by omega), tv, tv, tv⟩) 5, tv, (inR64 (by omega) (by omega)), tv, tv⟩ (fun a w hs => ?_)
  refine then_norm ⟨i + 1, by omega, by omega, ?_⟩
  (have e0_ : ((i : Int) + 1) = ((((i + 1) : Nat) : Int)) := (by first | rfl | (omega)); have e1_ : ((t.v.take i) ++ ([(Tree.mk ((t.v.getD i (dflt .tree)).kind) ((t.v.getD i (dflt .tree)).b) ⟨(t.v.getD i (dflt .tree)).n.neg, (t.v.getD i (dflt .tree)).n.m, (t.v.getD i (dflt .tree)).n.e⟩ ((t.v.getD i (dflt .tree)).s) ((t.v.getD i (dflt .tree)).k) ((t.v.getD i (dflt .tree)).v))])) = (t.v.take (i + 1)) := (by first | rfl | (first | omega | (rw [Tree.eta', take_snoc (by omega)]))); exact (hs.cst [(1, .ptr 1000 0), (2, .ptr 1001 0), (3, .ptr 90000001 0), (4, vi (((i + 1) : Nat) : Int))] [(1000, .var (encTree t)), (1001, .var [vi 0, vb false, vb false, nilv, vi 0, vs (ba []), nilv, nilv]), (6009, .sl 29 .tree (t.v.take (i + 1))), (90000001, .var [vi t.kind, vb t.b, vb t.n.neg, .row (.int .u32) t.n.m, vi t.n.e, vs t.s, .row .str t.k, .own 6009])] (by first | rfl | (rw [e0_, e1_]; done) | (simp only [e0_, e1_]; done) | (simp only [e0_, e1_]; rfl))).rm [(1000, 1000), (1001, 1001), (90000001, 90000001), (90000002, 6009)] (by kernel_rfl))
 ·skip
  have n1 := of_decide_eq_false b1
  refine wN hs hI [false] [2, 3] [1001, 90000001, 90000002] ((tr 5 True) ∧ ((ty b1) ∧ True)) (.exit 0) [(2, .ptr 1001 0), (3, .ptr 90000001 0)] [(1001, .var [vi 0, vb false, vb false, nilv, vi 0, vs (ba []), nilv, nilv]), (90000001, .var [vi t.kind, vb t.b, vb t.n.neg, .row (.int .u32) t.n.m, vi t.n.e, vs t.s, .row .str t.k, .own 90000002]), (90000002, .sl 29 .tree (t.v.take i))] (by kernel_rfl) ⟨tr_mk tv 5, b1, tv⟩ (fun a w hs => ?_)
  refine then_exit ?_
  refine inb_hit ?_
  refine then_norm ?_
  refine wN hs hI [] [2] [1001, 90000002] ((True ∧ True ∧ True) ∧ True) .ret [(2, .ptr 1001 0)] [(1001, .var [vi t.kind, vb t.b, vb t.n.neg, .row (.int .u32) t.n.m, vi t.n.e, vs t.s, .row .str t.k, .own 90000002]), (90000002, .sl 29 .tree (t.v.take i))] (by kernel_rfl) ⟨⟨tv, tv, tv⟩, tv⟩ (fun a w hs => ?_)
  exact FnQ_cast (out := .val (.agg [vi t.kind, vb t.b, vb t.n.neg, .row (.int .u32) t.n.m, vi t.n.e, vs t.s, .row .str t.k, .row .tree (t.v.take i)])) (by have h2 : t.v.take i = t.v := List.take_of_length_le (by omega); rw [h2]) (ret_ok [90000002] hs ⟨by kernel_rfl, rfl⟩)
theorem con20 (t : Tree) (h : fineT t) : Con Tryz.prog I0 20 [.agg (encTree t)] (.val (.agg (encTree t))) := con20_ (nodes t + 1) t (Nat.lt_succ_self _) h
mutual
def eqR : Tree → Tree → Bool
 | .mk k b n s ks v, t => (k == t.kind) && ((b == t.b) && (eqN n t.n && ((s.toList == t.s.toList) && (sameS ks t.k && (((v.length : Int) == (t.v.length : Int)) && eqRL v t.v)))))
def eqRL : List Tree → List Tree → Bool
 | [], _ => true
 | _ :: _, [] => false
 | x :: l, y :: m => eqR x y && eqRL l m
end
theorem eqR_eq (t u : Tree) : eqR t u = ((t.kind == u.kind) && ((t.b == u.b) && (eqN t.n u.n && ((t.s.toList == u.s.toList) && (sameS t.k u.k && (((t.v.length : Int) == (u.v.length : Int)) && eqRL t.v u.v)))))) := by cases t; rfl
theorem eqN_self (n : Num) : eqN n n = true := by simp [eqN]
mutual
theorem eqR_self : ∀ t : Tree, eqR t t = true
 | .mk k b n s ks v => by rw [eqR_eq, eqN_self, sameS_self, show eqRL (Tree.mk k b n s ks v).v (Tree.mk k b n s ks v).v = true from eqRL_self v]; simp
theorem eqRL_self : ∀ l : List Tree, eqRL l l = true
 | [] => rfl
 | t :: l => by simp only [eqRL]; rw [eqR_self t, eqRL_self l]; rfl
end
theorem eqRL_drop {v m : List Tree} {i : Nat} (hi : i < v.length) (hm : i < m.length) : eqRL (v.drop i) (m.drop i) = (eqR (v.getD i (dflt .tree)) (m.getD i (dflt .tree)) && eqRL (v.drop (i + 1)) (m.drop (i + 1))) := by
 rw [List.drop_eq_getElem_cons hi, List.drop_eq_getElem_cons hm, eqRL]
 have e : v.getD i (dflt .tree) = v[i] := by rw [List.getD_eq_getElem?_getD, List.getElem?_eq_getElem hi]; rfl
 have e' : m.getD i (dflt .tree) = m[i] := by rw [List.getD_eq_getElem?_getD, List.getElem?_eq_getElem hm]; rfl
 rw [e, e']
theorem con36_ : ∀ (n : Nat) (t u : Tree), nodes t < n → fineT t → Con Tryz.prog I0 36 [.agg (encTree t), .agg (encTree u)] (.val (vb (eqR t u))) := by
 intro n
 induction n
 case zero => intro t u hn; omega
 rename_i n ih
 intro t u hn hft
 obtain ⟨⟨hf1, hf2, hf3, hf4⟩, hf5⟩ := (fine_eq t).1 hft
 refine con_of Tryz.func36 rfl (Nat.le_of_ble_eq_true rfl) stab (fun w0 fz a hI hs => ?_)
 refine wp_seq ?_
 refine wN hs hI [] [2, 3] [1000, 1001] (tr 3 True) .norm [(2, .ptr 1000 0), (3, .ptr 1001 0)] [(1000, .var (encTree t)), (1001, .var (encTree u))] (by kernel_rfl) (tr_mk tv 3) (fun a w hs => ?_)
 refine then_norm ?_
 refine wp_seq ?_
 rcases bt (t.kind != u.kind) with b1 | b1
 ·skip
  have n1 := bne_iff_ne.1 b1
  refine wL hs hI [(1, ⟨[], gg [1011, 1019, 1026, 1034, 1043] [6, 7, 8, 9, 10, 13, 14, 15, 16, 17, 18, 21, 22, 23, 24, 25, 28, 29, 30, 31, 32, 33, 36, 37, 38, 39, 40, 41, 42], []⟩)] [true] [4] [] ((tr 6 ((ty b1) ∧ (ty b1) ∧ (ty b1) ∧ (ty b1) ∧ (ty b1) ∧ (ty b1) ∧ True ∧ (true = true) ∧ (true = true) ∧ (true = true) ∧ (true = true) ∧ (true = true) ∧ (true = true) ∧ (true = true) ∧ True ∧ (true = true) ∧ (true = true) ∧ (true = true) ∧ (true = true) ∧ (true = true) ∧ (true = true) ∧ True ∧ (true = true) ∧ (true = true) ∧ (true = true) ∧ (true = true) ∧ (true = true) ∧ (true = true) ∧ (true = true) ∧ True ∧ (true = true) ∧ (true = true) ∧ (true = true) ∧ (true = true) ∧ (true = true) ∧ (true = true) ∧ (true = true) ∧ (true = true) ∧ True)) ∧ ((true = true) ∧ (True ∧ True) ∧ True)) .ret [(4, vb false)] [] ⟨tv, tv⟩ (by kernel_rfl) ⟨tr_mk (⟨b1, b1, b1, b1, b1, b1, tv, rfl, rfl, rfl, rfl, rfl, rfl, rfl, tv, rfl, rfl, rfl, rfl, rfl, rfl, tv, rfl, rfl, rfl, rfl, rfl, rfl, rfl, tv, rfl, rfl, rfl, rfl, rfl, rfl, rfl, rfl, tv⟩) 6, rfl, ⟨tv, tv⟩, tv⟩ (fun a w hs => ?_)
  refine then_ret ?_
  exact FnQ_cast (out := .val (vb false)) (by rw [eqR_eq]; simp_all) (ret_ok [] hs ⟨by kernel_rfl, rfl⟩)
 ·skip
  have n1 := bne_eq_false_iff_eq.1 b1
  rcases bt (t.b == u.b) with b2 | b2
  ·skip
   have n2 := eq_of_beq b2
   rcases bt (eqN t.n u.n) with b3 | b3
   ·skip
    rcases bt (t.s.toList == u.s.toList) with b4 | b4
    ·skip
     have n4 := eq_of_beq b4
     rcases bt (sameS t.k u.k) with b5 | b5
     ·skip
      rcases bt ((t.v.length : Int) != (u.v.length : Int)) with b6 | b6
      ·skip
       have n6 := bne_iff_ne.1 b6
       refine wL hs hI [(1, ⟨[(17, ciA 88 [.agg [vb t.n.neg, .row (.int .u32) t.n.m, vi t.n.e], .agg [vb u.n.neg, .row (.int .u32) u.n.m, vi u.n.e]] [] [] (.val (vb (eqN t.n u.n)))), (32, ciA 60 [.row .str t.k, .row .str u.k] [] [] (.val (vb (sameS t.k u.k))))], gg [6, 7, 8, 9, 10, 13, 14, 15, 16, 17, 18, 21, 22, 23, 24, 25, 28, 29, 30, 31, 32, 33, 36, 37, 38, 39, 40, 41, 42] [1011, 1019, 1026, 1034, 1043], []⟩)] [true] [4] [] ((tr 6 (rp 6 b1 (rp 4 (ng1 b2) ((ty (ng1 b2)) ∧ (okArgs [.agg [vb t.n.neg, .row (.int .u32) t.n.m, vi t.n.e], .agg [vb u.n.neg, .row (.int .u32) u.n.m, vi u.n.e]]) ∧ (rp 2 (ng1 b2) (rp 6 (ng1 b3) (rp 4 (ng1 b4) ((ty (ng1 b4)) ∧ (okArgs [.row .str t.k, .row .str u.k]) ∧ (rp 2 (ng1 b4) (rp 7 (ng1 b5) ((ty (ng1 b5)) ∧ True))))))))))) ∧ ((ty b6) ∧ (True ∧ True) ∧ True)) .ret [(4, vb false)] [] ⟨⟨⟨ent88, con88 t.n u.n (by omega)⟩, ⟨⟨ent60, con60 _ _ (by omega)⟩, tv⟩⟩, tv⟩ (by kernel_rfl) ⟨tr_mk (rp_mk (rp_mk (⟨(ng1 b2), rfl, rp_mk (rp_mk (rp_mk (⟨(ng1 b4), rfl, rp_mk (rp_mk (⟨(ng1 b5), tv⟩) 7) 2⟩) 4) 6) 2⟩) 4) 6) 6, b6, ⟨tv, tv⟩, tv⟩ (fun a w hs => ?_)
       refine then_ret ?_
       exact FnQ_cast (out := .val (vb false)) (by rw [eqR_eq]; simp_all) (ret_ok [] hs ⟨by kernel_rfl, rfl⟩)
      ·skip
       have n6 := bne_eq_false_iff_eq.1 b6
       refine wL hs hI [(1, ⟨[(17, ciA 88 [.agg [vb t.n.neg, .row (.int .u32) t.n.m, vi t.n.e], .agg [vb u.n.neg, .row (.int .u32) u.n.m, vi u.n.e]] [] [] (.val (vb (eqN t.n u.n)))), (32, ciA 60 [.row .str t.k, .row .str u.k] [] [] (.val (vb (sameS t.k u.k))))], gg [6, 7, 8, 9, 10, 13, 14, 15, 16, 17, 18, 21, 22, 23, 24, 25, 28, 29, 30, 31, 32, 33, 36, 37, 38, 39, 40, 41, 42] [1011, 1019, 1026, 1034, 1043], []⟩)] [false] [2, 3] [1000, 1001] ((tr 6 (rp 6 b1 (rp 4 (ng1 b2) ((ty (ng1 b2)) ∧ (okArgs [.agg [vb t.n.neg, .row (.int .u32) t.n.m, vi t.n.e], .agg [vb u.n.neg, .row (.int .u32) u.n.m, vi u.n.e]]) ∧ (rp 2 (ng1 b2) (rp 6 (ng1 b3) (rp 4 (ng1 b4) ((ty (ng1 b4)) ∧ (okArgs [.row .str t.k, .row .str u.k]) ∧ (rp 2 (ng1 b4) (rp 7 (ng1 b5) ((ty (ng1 b5)) ∧ True))))))))))) ∧ ((ty b6) ∧ True)) .norm [(2, .ptr 1000 0), (3, .ptr 1001 0)] [(1000, .var (encTree t)), (1001, .var (encTree u))] ⟨⟨⟨ent88, con88 t.n u.n (by omega)⟩, ⟨⟨ent60, con60 _ _ (by omega)⟩, tv⟩⟩, tv⟩ (by kernel_rfl) ⟨tr_mk (rp_mk (rp_mk (⟨(ng1 b2), rfl, rp_mk (rp_mk (rp_mk (⟨(ng1 b4), rfl, rp_mk (rp_mk (⟨(ng1 b5), tv⟩) 7) 2⟩) 4) 6) 2⟩) 4) 6) 6, b6, tv⟩ (fun a w hs => ?_)
       refine then_norm ?_
       refine wp_seq ?_
       refine wp_seq ?_
       refine wN hs hI [] [2, 3, 5] [1000, 1001] (True ∧ True) .norm [(2, .ptr 1000 0), (3, .ptr 1001 0), (5, vi 0)] [(1000, .var (encTree t)), (1001, .var (encTree u))] (by kernel_rfl) ⟨tv, tv⟩ (fun a w hs => ?_)
       refine then_norm ?_
       refine wp_block ?_
       refine loop_L (N := Tryz.f36.ntmps) (w0 := w0) (ow := noO fz) (α := Nat) (fun p => [(2, .ptr 1000 0), (3, .ptr 1001 0), (5, vi (p : Int))]) (fun p => [(1000, .var (encTree t)), (1001, .var (encTree u))]) (fun p => p ≤ t.v.length ∧ eqRL (t.v.drop p) (u.v.drop p) = eqRL t.v u.v) (fun p => t.v.length - p) 0 ?_ ?_ ?_
       ·exact ⟨Nat.zero_le _, rfl⟩
       ·exact (hs.cst [(2, .ptr 1000 0), (3, .ptr 1001 0), (5, vi ((0 : Nat) : Int))] [(1000, .var (encTree t)), (1001, .var (encTree u))] rfl).rm [(1000, 1000), (1001, 1001)] (by kernel_rfl)
       rintro i hJ a w hs
       obtain ⟨hi, hd⟩ := hJ
       rcases bt (decide ((i : Int) < (t.v.length : Int))) with b7 | b7
       ·skip
        have n7 := of_decide_eq_true b7
        rcases bt (eqR (t.v.getD i (dflt .tree)) (u.v.getD i (dflt .tree))) with b8 | b8
        ·skip
         refine wL hs hI [(6, ⟨[(10, ciA 36 [.agg (encTree (t.v.getD i (dflt .tree))), .agg (encTree (u.v.getD i (dflt .tree)))] [] [] (.val (vb (eqR (t.v.getD i (dflt .tree)) (u.v.getD i (dflt .tree))))))], [], []⟩)] [true, false] [2, 3, 5] [1000, 1001] (((tr 5 True) ∧ (ty b7) ∧ True) ∧ (((tr 3 ((0 ≤ (i : Int) ∧ (i : Int) < t.v.length) ∧ (tr 4 ((0 ≤ (i : Int) ∧ (i : Int) < u.v.length) ∧ True ∧ (okArgs [.agg (encTree (t.v.getD i (dflt .tree))), .agg (encTree (u.v.getD i (dflt .tree)))]) ∧ True ∧ True)))) ∧ (ty (ng1 b8)) ∧ True) ∧ True ∧ (InR .i64 ((i : Int) + 1)) ∧ True ∧ True)) .norm [(2, .ptr 1000 0), (3, .ptr 1001 0), (5, vi ((i : Int) + 1))] [(1000, .var (encTree t)), (1001, .var (encTree u))] ⟨⟨⟨ent36, ih _ _ (by have h1 := nodes_eq t; have h2 := nodes_at (l := t.v) (i := i) (by omega); omega) (fine_at hft (by omega) _)⟩, tv⟩, tv⟩ (by kernel_rfl) ⟨⟨tr_mk tv 5, b7, tv⟩, ⟨tr_mk (⟨(by omega), tr_mk (⟨(by omega), tv, rfl, tv, tv⟩) 4⟩) 3, (ng1 b8), tv⟩, tv, (inR64 (by omega) (by omega)), tv, tv⟩ (fun a w hs => ?_)
         refine then_norm ⟨i + 1, ⟨by omega, by rw [← hd, eqRL_drop (i := i) (by omega) (by omega), b8]; rfl⟩, by omega, ?_⟩
         (have e0_ : ((i : Int) + 1) = ((((i + 1) : Nat) : Int)) := (by first | rfl | (omega)); exact (hs.cst [(2, .ptr 1000 0), (3, .ptr 1001 0), (5, vi (((i + 1) : Nat) : Int))] [(1000, .var (encTree t)), (1001, .var (encTree u))] (by first | rfl | (rw [e0_]; done) | (simp only [e0_]; done) | (simp only [e0_]; rfl))).rm [(1000, 1000), (1001, 1001)] (by kernel_rfl))
        ·skip
         refine wL hs hI [(6, ⟨[(10, ciA 36 [.agg (encTree (t.v.getD i (dflt .tree))), .agg (encTree (u.v.getD i (dflt .tree)))] [] [] (.val (vb (eqR (t.v.getD i (dflt .tree)) (u.v.getD i (dflt .tree))))))], [], []⟩)] [true, true] [4] [] (((tr 5 True) ∧ (ty b7) ∧ True) ∧ ((tr 3 ((0 ≤ (i : Int) ∧ (i : Int) < t.v.length) ∧ (tr 4 ((0 ≤ (i : Int) ∧ (i : Int) < u.v.length) ∧ True ∧ (okArgs [.agg (encTree (t.v.getD i (dflt .tree))), .agg (encTree (u.v.getD i (dflt .tree)))]) ∧ True ∧ True)))) ∧ (ty (ng0 b8)) ∧ (True ∧ True) ∧ True)) .ret [(4, vb false)] [] ⟨⟨⟨ent36, ih _ _ (by have h1 := nodes_eq t; have h2 := nodes_at (l := t.v) (i := i) (by omega); omega) (fine_at hft (by omega) _)⟩, tv⟩, tv⟩ (by kernel_rfl) ⟨⟨tr_mk tv 5, b7, tv⟩, tr_mk (⟨(by omega), tr_mk (⟨(by omega), tv, rfl, tv, tv⟩) 4⟩) 3, (ng0 b8), ⟨tv, tv⟩, tv⟩ (fun a w hs => ?_)
         refine then_ret ?_
         refine inb_ret ?_
         refine then_ret ?_
         exact FnQ_cast (out := .val (vb false)) (by rw [eqR_eq, ← hd, eqRL_drop (i := i) (by omega) (by omega), b8]; simp) (ret_ok [] hs ⟨by kernel_rfl, rfl⟩)
       ·skip
        have n7 := of_decide_eq_false b7
        refine wN hs hI [false] [] [] ((tr 5 True) ∧ ((ty b7) ∧ True)) (.exit 0) [] [] (by kernel_rfl) ⟨tr_mk tv 5, b7, tv⟩ (fun a w hs => ?_)
        refine then_exit ?_
        refine inb_hit ?_
        refine then_norm ?_
        refine wN hs hI [] [4] [] ((True ∧ True) ∧ True) .ret [(4, vb true)] [] (by kernel_rfl) ⟨⟨tv, tv⟩, tv⟩ (fun a w hs => ?_)
        exact FnQ_cast (out := .val (vb true)) (by rw [eqR_eq, ← hd, List.drop_of_length_le (by omega)]; simp_all [eqRL]) (ret_ok [] hs ⟨by kernel_rfl, rfl⟩)
     ·skip
      refine wL hs hI [(1, ⟨[(17, ciA 88 [.agg [vb t.n.neg, .row (.int .u32) t.n.m, vi t.n.e], .agg [vb u.n.neg, .row (.int .u32) u.n.m, vi u.n.e]] [] [] (.val (vb (eqN t.n u.n)))), (32, ciA 60 [.row .str t.k, .row .str u.k] [] [] (.val (vb (sameS t.k u.k))))], gg [6, 7, 8, 9, 10, 13, 14, 15, 16, 17, 18, 21, 22, 23, 24, 25, 28, 29, 30, 31, 32, 33, 1043] [1011, 1019, 1026, 1034, 36, 37, 38, 39, 40, 41, 42], []⟩)] [true] [4] [] ((tr 6 (rp 6 b1 (rp 4 (ng1 b2) ((ty (ng1 b2)) ∧ (okArgs [.agg [vb t.n.neg, .row (.int .u32) t.n.m, vi t.n.e], .agg [vb u.n.neg, .row (.int .u32) u.n.m, vi u.n.e]]) ∧ (rp 2 (ng1 b2) (rp 6 (ng1 b3) (rp 4 (ng1 b4) ((ty (ng1 b4)) ∧ (okArgs [.row .str t.k, .row .str u.k]) ∧ (rp 2 (ng1 b4) ((ty (ng0 b5)) ∧ (ty (ng0 b5)) ∧ (ty (ng0 b5)) ∧ (ty (ng0 b5)) ∧ (ty (ng0 b5)) ∧ (ty (ng0 b5)) ∧ (ty (ng0 b5)) ∧ (ty (ng0 b5)) ∧ True)))))))))) ∧ ((true = true) ∧ (True ∧ True) ∧ True)) .ret [(4, vb false)] [] ⟨⟨⟨ent88, con88 t.n u.n (by omega)⟩, ⟨⟨ent60, con60 _ _ (by omega)⟩, tv⟩⟩, tv⟩ (by kernel_rfl) ⟨tr_mk (rp_mk (rp_mk (⟨(ng1 b2), rfl, rp_mk (rp_mk (rp_mk (⟨(ng1 b4), rfl, rp_mk (⟨(ng0 b5), (ng0 b5), (ng0 b5), (ng0 b5), (ng0 b5), (ng0 b5), (ng0 b5), (ng0 b5), tv⟩) 2⟩) 4) 6) 2⟩) 4) 6) 6, rfl, ⟨tv, tv⟩, tv⟩ (fun a w hs => ?_)
      refine then_ret ?_
      exact FnQ_cast (out := .val (vb false)) (by rw [eqR_eq]; simp_all) (ret_ok [] hs ⟨by kernel_rfl, rfl⟩)
    ·skip
     have n4 := beq_eq_false_iff_ne.1 b4
     refine wL hs hI [(1, ⟨[(17, ciA 88 [.agg [vb t.n.neg, .row (.int .u32) t.n.m, vi t.n.e], .agg [vb u.n.neg, .row (.int .u32) u.n.m, vi u.n.e]] [] [] (.val (vb (eqN t.n u.n))))], gg [6, 7, 8, 9, 10, 13, 14, 15, 16, 17, 18, 21, 22, 23, 24, 25, 1034, 1043] [1011, 1019, 1026, 28, 29, 30, 31, 32, 33, 36, 37, 38, 39, 40, 41, 42], []⟩)] [true] [4] [] ((tr 6 (rp 6 b1 (rp 4 (ng1 b2) ((ty (ng1 b2)) ∧ (okArgs [.agg [vb t.n.neg, .row (.int .u32) t.n.m, vi t.n.e], .agg [vb u.n.neg, .row (.int .u32) u.n.m, vi u.n.e]]) ∧ (rp 2 (ng1 b2) (rp 6 (ng1 b3) ((ty (ng0 b4)) ∧ (ty (ng0 b4)) ∧ (ty (ng0 b4)) ∧ (ty (ng0 b4)) ∧ (ty (ng0 b4)) ∧ (ty (ng0 b4)) ∧ (ty (ng0 b4)) ∧ True ∧ (true = true) ∧ (true = true) ∧ (true = true) ∧ (true = true) ∧ (true = true) ∧ (true = true) ∧ (true = true) ∧ (true = true) ∧ True))))))) ∧ ((true = true) ∧ (True ∧ True) ∧ True)) .ret [(4, vb false)] [] ⟨⟨⟨ent88, con88 t.n u.n (by omega)⟩, tv⟩, tv⟩ (by kernel_rfl) ⟨tr_mk (rp_mk (rp_mk (⟨(ng1 b2), rfl, rp_mk (rp_mk (⟨(ng0 b4), (ng0 b4), (ng0 b4), (ng0 b4), (ng0 b4), (ng0 b4), (ng0 b4), tv, rfl, rfl, rfl, rfl, rfl, rfl, rfl, rfl, tv⟩) 6) 2⟩) 4) 6) 6, rfl, ⟨tv, tv⟩, tv⟩ (fun a w hs => ?_)
     refine then_ret ?_
     exact FnQ_cast (out := .val (vb false)) (by rw [eqR_eq]; simp_all) (ret_ok [] hs ⟨by kernel_rfl, rfl⟩)
   ·skip
    refine wL hs hI [(1, ⟨[(17, ciA 88 [.agg [vb t.n.neg, .row (.int .u32) t.n.m, vi t.n.e], .agg [vb u.n.neg, .row (.int .u32) u.n.m, vi u.n.e]] [] [] (.val (vb (eqN t.n u.n))))], gg [6, 7, 8, 9, 10, 13, 14, 15, 16, 17, 18, 1026, 1034, 1043] [1011, 1019, 21, 22, 23, 24, 25, 28, 29, 30, 31, 32, 33, 36, 37, 38, 39, 40, 41, 42], []⟩)] [true] [4] [] ((tr 6 (rp 6 b1 (rp 4 (ng1 b2) ((ty (ng1 b2)) ∧ (okArgs [.agg [vb t.n.neg, .row (.int .u32) t.n.m, vi t.n.e], .agg [vb u.n.neg, .row (.int .u32) u.n.m, vi u.n.e]]) ∧ (rp 2 (ng1 b2) ((ty (ng0 b3)) ∧ (ty (ng0 b3)) ∧ (ty (ng0 b3)) ∧ (ty (ng0 b3)) ∧ (ty (ng0 b3)) ∧ (ty (ng0 b3)) ∧ True ∧ (true = true) ∧ (true = true) ∧ (true = true) ∧ (true = true) ∧ (true = true) ∧ (true = true) ∧ (true = true) ∧ True ∧ (true = true) ∧ (true = true) ∧ (true = true) ∧ (true = true) ∧ (true = true) ∧ (true = true) ∧ (true = true) ∧ (true = true) ∧ True)))))) ∧ ((true = true) ∧ (True ∧ True) ∧ True)) .ret [(4, vb false)] [] ⟨⟨⟨ent88, con88 t.n u.n (by omega)⟩, tv⟩, tv⟩ (by kernel_rfl) ⟨tr_mk (rp_mk (rp_mk (⟨(ng1 b2), rfl, rp_mk (⟨(ng0 b3), (ng0 b3), (ng0 b3), (ng0 b3), (ng0 b3), (ng0 b3), tv, rfl, rfl, rfl, rfl, rfl, rfl, rfl, tv, rfl, rfl, rfl, rfl, rfl, rfl, rfl, rfl, tv⟩) 2⟩) 4) 6) 6, rfl, ⟨tv, tv⟩, tv⟩ (fun a w hs => ?_)
    refine then_ret ?_
    exact FnQ_cast (out := .val (vb false)) (by rw [eqR_eq]; simp_all) (ret_ok [] hs ⟨by kernel_rfl, rfl⟩)
  ·skip
   have n2 := beq_eq_false_iff_ne.1 b2
   refine wL hs hI [(1, ⟨[], gg [6, 7, 8, 9, 10, 1019, 1026, 1034, 1043] [1011, 13, 14, 15, 16, 17, 18, 21, 22, 23, 24, 25, 28, 29, 30, 31, 32, 33, 36, 37, 38, 39, 40, 41, 42], []⟩)] [true] [4] [] ((tr 6 (rp 6 b1 ((ty (ng0 b2)) ∧ (ty (ng0 b2)) ∧ (ty (ng0 b2)) ∧ (ty (ng0 b2)) ∧ (ty (ng0 b2)) ∧ (ty (ng0 b2)) ∧ (ty (ng0 b2)) ∧ True ∧ (true = true) ∧ (true = true) ∧ (true = true) ∧ (true = true) ∧ (true = true) ∧ (true = true) ∧ True ∧ (true = true) ∧ (true = true) ∧ (true = true) ∧ (true = true) ∧ (true = true) ∧ (true = true) ∧ (true = true) ∧ True ∧ (true = true) ∧ (true = true) ∧ (true = true) ∧ (true = true) ∧ (true = true) ∧ (true = true) ∧ (true = true) ∧ (true = true) ∧ True))) ∧ ((true = true) ∧ (True ∧ True) ∧ True)) .ret [(4, vb false)] [] ⟨tv, tv⟩ (by kernel_rfl) ⟨tr_mk (rp_mk (⟨(ng0 b2), (ng0 b2), (ng0 b2), (ng0 b2), (ng0 b2), (ng0 b2), (ng0 b2), tv, rfl, rfl, rfl, rfl, rfl, rfl, tv, rfl, rfl, rfl, rfl, rfl, rfl, rfl, tv, rfl, rfl, rfl, rfl, rfl, rfl, rfl, rfl, tv⟩) 6) 6, rfl, ⟨tv, tv⟩, tv⟩ (fun a w hs => ?_)
   refine then_ret ?_
   exact FnQ_cast (out := .val (vb false)) (by rw [eqR_eq]; simp_all) (ret_ok [] hs ⟨by kernel_rfl, rfl⟩)
theorem con36 (t u : Tree) (ht : fineT t) : Con Tryz.prog I0 36 [.agg (encTree t), .agg (encTree u)] (.val (vb (eqR t u))) := con36_ (nodes t + 1) t u (Nat.lt_succ_self _) ht
theorem take_snocS {l : List (List ByteArray)} {i : Nat} (h : i < l.length) : l.take i ++ [l.getD i (dflt .strs)] = l.take (i + 1) := by
 rw [List.take_succ_eq_append_getElem h, List.getD_eq_getElem?_getD, List.getElem?_eq_getElem h]; rfl
def shP (p : List ByteArray) : Bool := decide ((p.length : Int) ≤ 80) && (List.range p.length).all fun j => decide (((p.getD j (dflt .str)).size : Int) ≤ 2100)
def shortF (l : List (List ByteArray)) : Bool := (List.range (min l.length 70)).all (fun j => shP (l.getD j (dflt .strs))) && decide ((l.length : Int) ≤ 70)
theorem shP_long {p : List ByteArray} (h : ¬ (p.length : Int) ≤ 80) : shP p = false := by unfold shP; rw [decide_eq_false h]; rfl
theorem shP_no {p : List ByteArray} {j : Nat} (hj : j < p.length) (h : ¬ ((p.getD j (dflt .str)).size : Int) ≤ 2100) : shP p = false := by
 unfold shP; rw [all_no' (i := j) hj (decide_eq_false h), Bool.and_false]
theorem shP_yes {p : List ByteArray} (h0 : (p.length : Int) ≤ 80) (h : ∀ j, j < p.length → ((p.getD j (dflt .str)).size : Int) ≤ 2100) : shP p = true := by
 unfold shP; rw [decide_eq_true h0, all_yes' (fun j hj => decide_eq_true (h j hj))]; rfl
theorem short_no {l : List (List ByteArray)} {i : Nat} (hi : i < l.length) (h7 : i < 70) (h : shP (l.getD i (dflt .strs)) = false) : shortF l = false := by
 unfold shortF; rw [all_no' (i := i) (by omega) h]; rfl
theorem short_yes {l : List (List ByteArray)} {i : Nat} (h0 : min l.length 70 ≤ i) (h : ∀ j, j < i → shP (l.getD j (dflt .strs)) = true) : shortF l = decide ((l.length : Int) ≤ 70) := by
 unfold shortF; rw [all_yes' (fun j hj => h j (by omega))]; rfl
theorem con33 (l : List (List ByteArray)) (hl : l.length < 1000000000) (hp : ∀ p ∈ l, p.length < 1000000000) : Con Tryz.prog I0 33 [.row .strs l] (.own 26 .strs l) := by
 refine con_of Tryz.func33 rfl (Nat.le_of_ble_eq_true rfl) stab (fun w0 fz a hI hs => ?_)
 refine wp_seq ?_
 refine wN hs hI [] [0] [] (True ∧ True) .norm [(0, .row .strs l)] [] (by kernel_rfl) ⟨tv, tv⟩ (fun a w hs => ?_)
 refine then_norm ?_
 refine wp_seq ?_
 refine wN hs hI [] [0, 3] [] (True ∧ True) .norm [(0, .row .strs l), (3, nilv)] [] (by kernel_rfl) ⟨tv, tv⟩ (fun a w hs => ?_)
 refine then_norm ?_
 refine wp_seq ?_
 refine wp_seq ?_
 refine wN hs hI [] [0, 3, 4] [] (True ∧ True) .norm [(0, .row .strs l), (3, nilv), (4, vi 0)] [] (by kernel_rfl) ⟨tv, tv⟩ (fun a w hs => ?_)
 refine then_norm ?_
 refine wp_block ?_
 refine loop_L (N := Tryz.f33.ntmps) (w0 := w0) (ow := noO fz) (α := Nat) (fun p => [(0, .row .strs l), (3, .own 90000001), (4, vi (p : Int))]) (fun p => [(90000001, .sl 26 .strs (l.take p))]) (fun p => p ≤ l.length) (fun p => l.length - p) 0 ?_ ?_ ?_
 ·exact Nat.zero_le _
 ·(have hs := (hs.nil 10000005 3 26 .strs (by kernel_rfl) (by decide) (by kernel_rfl) (by kernel_rfl)).rmT [(0, .row .strs l), (3, .own 10000005), (4, vi 0)] [(10000005, .sl 26 .strs ([]))] [(10000005, 10000005)] (by kernel_rfl); exact (hs.cst [(0, .row .strs l), (3, .own 10000005), (4, vi ((0 : Nat) : Int))] [(10000005, .sl 26 .strs (l.take 0))] rfl).rm [(90000001, 10000005)] (by kernel_rfl))
 rintro i hJ a w hs
 have htl : (l.take i).length ≤ 1000000000 := by rw [List.length_take]; omega
 rcases bt (decide ((i : Int) < (l.length : Int))) with b1 | b1
 ·skip
  have n1 := of_decide_eq_true b1
  refine wL hs hI [(5, ⟨[(5, ciA 68 [.row .str (l.getD i (dflt .strs))] [] [] (.val (.row .str (l.getD i (dflt .strs)))))], [], []⟩)] [true] [0, 3, 4] [6007] (((tr 4 True) ∧ (ty b1) ∧ True) ∧ ((tr 3 ((0 ≤ (i : Int) ∧ (i : Int) < l.length) ∧ True ∧ (okArgs [.row .str (l.getD i (dflt .strs))]) ∧ True ∧ ((((l.take i).length + 1) * 24 : Nat) ≤ 140737488355328 ∧ (l.take i).length + 1 ≤ 140737488355328) ∧ True ∧ True)) ∧ True ∧ (InR .i64 ((i : Int) + 1)) ∧ True ∧ True)) .norm [(0, .row .strs l), (3, .own 6007), (4, vi ((i : Int) + 1))] [(6007, .sl 26 .strs ((l.take i) ++ ([(l.getD i (dflt .strs))])))] ⟨⟨⟨ent68, (con68 _ (hp _ (getD_mem (by omega) _))).frz⟩, tv⟩, tv⟩ (by kernel_rfl) ⟨⟨tr_mk tv 4, b1, tv⟩, tr_mk (⟨(by omega), tv, rfl, tv, (by omega), tv, tv⟩) 3, tv, (inR64 (by omega) (by omega)), tv, tv⟩ (fun a w hs => ?_)
  refine then_norm ⟨i + 1, by omega, by omega, ?_⟩
  (have e0_ : ((i : Int) + 1) = ((((i + 1) : Nat) : Int)) := (by first | rfl | (omega)); have e1_ : ((l.take i) ++ ([(l.getD i (dflt .strs))])) = (l.take (i + 1)) := (by first | rfl | (first | omega | (rw [take_snocS (by omega)]))); exact (hs.cst [(0, .row .strs l), (3, .own 6007), (4, vi (((i + 1) : Nat) : Int))] [(6007, .sl 26 .strs (l.take (i + 1)))] (by first | rfl | (rw [e0_, e1_]; done) | (simp only [e0_, e1_]; done) | (simp only [e0_, e1_]; rfl))).rm [(90000001, 6007)] (by kernel_rfl))
 ·skip
  have n1 := of_decide_eq_false b1
  refine wN hs hI [false] [3] [90000001] ((tr 4 True) ∧ ((ty b1) ∧ True)) (.exit 0) [(3, .own 90000001)] [(90000001, .sl 26 .strs (l.take i))] (by kernel_rfl) ⟨tr_mk tv 4, b1, tv⟩ (fun a w hs => ?_)
  refine then_exit ?_
  refine inb_hit ?_
  refine then_norm ?_
  refine wN hs hI [] [2] [90000001] ((True ∧ True ∧ True) ∧ True) .ret [(2, .own 90000001)] [(90000001, .sl 26 .strs (l.take i))] (by kernel_rfl) ⟨⟨tv, tv, tv⟩, tv⟩ (fun a w hs => ?_)
  exact FnQ_cast (out := .own 26 .strs (l.take i)) (by rw [List.take_of_length_le (by omega)]) (ret_ok [] hs (.inl ⟨90000001, by kernel_rfl, rfl⟩))
theorem con30 (l : List (List ByteArray)) : Con Tryz.prog I0 30 [.row .strs l] (.val (vb (shortF l))) := by
 refine con_of Tryz.func30 rfl (Nat.le_of_ble_eq_true rfl) stab (fun w0 fz a hI hs => ?_)
 refine wp_seq ?_
 refine wN hs hI [] [0] [] (True ∧ True) .norm [(0, .row .strs l)] [] (by kernel_rfl) ⟨tv, tv⟩ (fun a w hs => ?_)
 refine then_norm ?_
 refine wp_seq ?_
 refine wp_seq ?_
 refine wN hs hI [] [0, 3] [] (True ∧ True) .norm [(0, .row .strs l), (3, vi 0)] [] (by kernel_rfl) ⟨tv, tv⟩ (fun a w hs => ?_)
 refine then_norm ?_
 refine wp_block ?_
 refine loop_L (N := Tryz.f30.ntmps) (w0 := w0) (ow := noO fz) (α := Nat) (fun p => [(0, .row .strs l), (3, vi (p : Int))]) (fun p => []) (fun p => (p ≤ l.length ∧ p ≤ 70) ∧ ∀ j, j < p → shP (l.getD j (dflt .strs)) = true) (fun p => l.length - p) 0 ?_ ?_ ?_
 ·exact ⟨⟨Nat.zero_le _, Nat.zero_le _⟩, fun j hj => absurd hj (Nat.not_lt_zero _)⟩
 ·(have e0_ : (0) = (((0 : Nat) : Int)) := (by first | rfl | (rfl)); exact (hs.cst [(0, .row .strs l), (3, vi ((0 : Nat) : Int))] [] (by first | rfl | (rw [e0_]; done) | (simp only [e0_]; done) | (simp only [e0_]; rfl))).rm [] (by kernel_rfl))
 rintro i hJ a w hs
 obtain ⟨⟨hi, hi2⟩, hall⟩ := hJ
 refine wp_seq ?_
 rcases bt (decide ((i : Int) < (l.length : Int))) with b1 | b1
 ·skip
  have n1 := of_decide_eq_true b1
  rcases bt (decide ((i : Int) < 70)) with b2 | b2
  ·skip
   have n2 := of_decide_eq_true b2
   refine wL hs hI [(2, ⟨[], gg [5, 6, 1007] [], []⟩)] [true] [0, 3] [] ((tr 5 (rp 2 b1 ((ty b1) ∧ True))) ∧ ((ty b2) ∧ True)) .norm [(0, .row .strs l), (3, vi (i : Int))] [] ⟨tv, tv⟩ (by kernel_rfl) ⟨tr_mk (rp_mk (⟨b1, tv⟩) 2) 5, b2, tv⟩ (fun a w hs => ?_)
   refine then_norm ?_
   refine wp_seq ?_
   refine wp_block ?_
   refine wp_seq ?_
   rcases bt (decide (((l.getD i (dflt .strs)).length : Int) > 80)) with b3 | b3
   ·skip
    have n3 := of_decide_eq_true b3
    refine wN hs hI [true] [2] [] ((True ∧ True ∧ (0 ≤ (i : Int) ∧ (i : Int) < l.length) ∧ (tr 3 True)) ∧ ((ty b3) ∧ (True ∧ True) ∧ True)) .ret [(2, vb false)] [] (by kernel_rfl) ⟨⟨tv, tv, (by omega), tr_mk tv 3⟩, b3, ⟨tv, tv⟩, tv⟩ (fun a w hs => ?_)
    refine then_ret ?_
    refine inb_ret ?_
    refine then_ret ?_
    refine then_ret ?_
    refine inb_ret ?_
    refine then_ret ?_
    exact FnQ_cast (out := .val (vb false)) (by rw [short_no (i := i) (by omega) (by omega) (shP_long (by omega))]) (ret_ok [] hs ⟨by kernel_rfl, rfl⟩)
   ·skip
    have n3 := of_decide_eq_false b3
    refine wN hs hI [false] [0, 3] [] ((True ∧ True ∧ (0 ≤ (i : Int) ∧ (i : Int) < l.length) ∧ (tr 3 True)) ∧ ((ty b3) ∧ True)) .norm [(0, .row .strs l), (3, vi (i : Int))] [] (by kernel_rfl) ⟨⟨tv, tv, (by omega), tr_mk tv 3⟩, b3, tv⟩ (fun a w hs => ?_)
    refine then_norm ?_
    refine wp_seq ?_
    refine wN hs hI [] [0, 3, 4] [] (True ∧ True) .norm [(0, .row .strs l), (3, vi (i : Int)), (4, vi 0)] [] (by kernel_rfl) ⟨tv, tv⟩ (fun a w hs => ?_)
    refine then_norm ?_
    refine wp_block ?_
    refine loop_L (N := Tryz.f30.ntmps) (w0 := w0) (ow := noO fz) (α := Nat) (fun p => [(0, .row .strs l), (3, vi (i : Int)), (4, vi (p : Int))]) (fun p => []) (fun p => p ≤ (l.getD i (dflt .strs)).length ∧ ∀ j, j < p → (((l.getD i (dflt .strs)).getD j (dflt .str)).size : Int) ≤ 2100) (fun p => (l.getD i (dflt .strs)).length - p) 0 ?_ ?_ ?_
    ·exact ⟨Nat.zero_le _, fun j hj => absurd hj (Nat.not_lt_zero _)⟩
    ·(have e0_ : (0) = (((0 : Nat) : Int)) := (by first | rfl | (rfl)); exact (hs.cst [(0, .row .strs l), (3, vi (i : Int)), (4, vi ((0 : Nat) : Int))] [] (by first | rfl | (rw [e0_]; done) | (simp only [e0_]; done) | (simp only [e0_]; rfl))).rm [] (by kernel_rfl))
    rintro k hJ a w hs
    obtain ⟨hk, hin⟩ := hJ
    rcases bt (decide ((k : Int) < ((l.getD i (dflt .strs)).length : Int))) with b4 | b4
    ·skip
     have n4 := of_decide_eq_true b4
     rcases bt (decide ((((l.getD i (dflt .strs)).getD k (dflt .str)).size : Int) > 2100)) with b5 | b5
     ·skip
      have n5 := of_decide_eq_true b5
      refine wN hs hI [true, true] [2] [] (((tr 3 ((0 ≤ (i : Int) ∧ (i : Int) < l.length) ∧ (tr 3 True))) ∧ (ty b4) ∧ True) ∧ ((True ∧ True ∧ (0 ≤ (i : Int) ∧ (i : Int) < l.length) ∧ True ∧ True ∧ (0 ≤ (k : Int) ∧ (k : Int) < (l.getD i (dflt .strs)).length) ∧ (tr 3 True)) ∧ (ty b5) ∧ (True ∧ True) ∧ True)) .ret [(2, vb false)] [] (by kernel_rfl) ⟨⟨tr_mk (⟨(by omega), tr_mk tv 3⟩) 3, b4, tv⟩, ⟨tv, tv, (by omega), tv, tv, (by omega), tr_mk tv 3⟩, b5, ⟨tv, tv⟩, tv⟩ (fun a w hs => ?_)
      refine then_ret ?_
      refine inb_ret ?_
      refine inb_ret ?_
      refine then_ret ?_
      refine then_ret ?_
      refine inb_ret ?_
      refine then_ret ?_
      exact FnQ_cast (out := .val (vb false)) (by rw [short_no (i := i) (by omega) (by omega) (shP_no (j := k) (by omega) (by omega))]) (ret_ok [] hs ⟨by kernel_rfl, rfl⟩)
     ·skip
      have n5 := of_decide_eq_false b5
      refine wN hs hI [true, false] [0, 3, 4] [] (((tr 3 ((0 ≤ (i : Int) ∧ (i : Int) < l.length) ∧ (tr 3 True))) ∧ (ty b4) ∧ True) ∧ (((True ∧ True ∧ (0 ≤ (i : Int) ∧ (i : Int) < l.length) ∧ True ∧ True ∧ (0 ≤ (k : Int) ∧ (k : Int) < (l.getD i (dflt .strs)).length) ∧ (tr 3 True)) ∧ (ty b5) ∧ True) ∧ True ∧ (InR .i64 ((k : Int) + 1)) ∧ True ∧ True)) .norm [(0, .row .strs l), (3, vi (i : Int)), (4, vi ((k : Int) + 1))] [] (by kernel_rfl) ⟨⟨tr_mk (⟨(by omega), tr_mk tv 3⟩) 3, b4, tv⟩, ⟨⟨tv, tv, (by omega), tv, tv, (by omega), tr_mk tv 3⟩, b5, tv⟩, tv, (inR64 (by omega) (by omega)), tv, tv⟩ (fun a w hs => ?_)
      refine then_norm ⟨k + 1, ⟨by omega, fun j hj => by rcases Nat.lt_succ_iff_lt_or_eq.1 hj with h | h; exact hin j h; subst h; omega⟩, by omega, ?_⟩
      (have e0_ : ((k : Int) + 1) = ((((k + 1) : Nat) : Int)) := (by first | rfl | (omega)); exact (hs.cst [(0, .row .strs l), (3, vi (i : Int)), (4, vi (((k + 1) : Nat) : Int))] [] (by first | rfl | (rw [e0_]; done) | (simp only [e0_]; done) | (simp only [e0_]; rfl))).rm [] (by kernel_rfl))
    ·skip
     have n4 := of_decide_eq_false b4
     refine wN hs hI [false] [0, 3] [] ((tr 3 ((0 ≤ (i : Int) ∧ (i : Int) < l.length) ∧ (tr 3 True))) ∧ ((ty b4) ∧ True)) (.exit 2) [(0, .row .strs l), (3, vi (i : Int))] [] (by kernel_rfl) ⟨tr_mk (⟨(by omega), tr_mk tv 3⟩) 3, b4, tv⟩ (fun a w hs => ?_)
     refine then_exit ?_
     refine inb_hit ?_
     refine inb_norm ?_
     refine then_norm ?_
     refine wN hs hI [] [0, 3] [] (True ∧ ((InR .i64 ((i : Int) + 1)) ∧ True ∧ True)) .norm [(0, .row .strs l), (3, vi ((i : Int) + 1))] [] (by kernel_rfl) ⟨tv, (inR64 (by omega) (by omega)), tv, tv⟩ (fun a w hs => ?_)
     refine then_norm ⟨i + 1, ⟨⟨by omega, by omega⟩, fun j hj => by rcases Nat.lt_succ_iff_lt_or_eq.1 hj with h | h; exact hall j h; subst h; exact shP_yes (by omega) (fun j hj => hin j (by omega))⟩, by omega, ?_⟩
     (have e0_ : ((i : Int) + 1) = ((((i + 1) : Nat) : Int)) := (by first | rfl | (omega)); exact (hs.cst [(0, .row .strs l), (3, vi (((i + 1) : Nat) : Int))] [] (by first | rfl | (rw [e0_]; done) | (simp only [e0_]; done) | (simp only [e0_]; rfl))).rm [] (by kernel_rfl))
  ·skip
   have n2 := of_decide_eq_false b2
   refine wL hs hI [(2, ⟨[], gg [5, 6, 1007] [], []⟩)] [false] [0] [] ((tr 5 (rp 2 b1 ((ty b1) ∧ True))) ∧ ((ty b2) ∧ True)) (.exit 0) [(0, .row .strs l)] [] ⟨tv, tv⟩ (by kernel_rfl) ⟨tr_mk (rp_mk (⟨b1, tv⟩) 2) 5, b2, tv⟩ (fun a w hs => ?_)
   refine then_exit ?_
   refine then_exit ?_
   refine inb_hit ?_
   refine then_norm ?_
   refine wN hs hI [] [2] [] ((tr 4 True) ∧ True) .ret [(2, vb (decide ((l.length : Int) ≤ 70)))] [] (by kernel_rfl) ⟨tr_mk tv 4, tv⟩ (fun a w hs => ?_)
   exact FnQ_cast (out := .val (vb (decide ((l.length : Int) ≤ 70)))) (by rw [short_yes (i := i) (by omega) hall]) (ret_ok [] hs ⟨by kernel_rfl, rfl⟩)
 ·skip
  have n1 := of_decide_eq_false b1
  refine wL hs hI [(2, ⟨[], gg [] [5, 6, 1007], []⟩)] [false] [0] [] ((tr 5 ((ty b1) ∧ (ty b1) ∧ (ty b1) ∧ True)) ∧ ((false = false) ∧ True)) (.exit 0) [(0, .row .strs l)] [] ⟨tv, tv⟩ (by kernel_rfl) ⟨tr_mk (⟨b1, b1, b1, tv⟩) 5, rfl, tv⟩ (fun a w hs => ?_)
  refine then_exit ?_
  refine then_exit ?_
  refine inb_hit ?_
  refine then_norm ?_
  refine wN hs hI [] [2] [] ((tr 4 True) ∧ True) .ret [(2, vb (decide ((l.length : Int) ≤ 70)))] [] (by kernel_rfl) ⟨tr_mk tv 4, tv⟩ (fun a w hs => ?_)
  exact FnQ_cast (out := .val (vb (decide ((l.length : Int) ≤ 70)))) (by rw [short_yes (i := i) (by omega) hall]) (ret_ok [] hs ⟨by kernel_rfl, rfl⟩)
def bigK (k : ByteArray) : Bool := decide ((k.size : Int) > 2100)
mutual
def lightF : Tree → Int → Int
 | .mk _ _ n s ks v, m => if (n.m.length : Int) > 95 ∨ (s.size : Int) > 2100 ∨ (ks.length : Int) > 40 ∨ (v.length : Int) > 40 then -1 else if (ks.any bigK) = true then -1 else lightL v (m - 1)
def lightL : List Tree → Int → Int
 | [], m => m
 | t :: l, m => if m ≥ 0 then lightL l (lightF t m) else m
end
theorem lightF_eq (t : Tree) (m : Int) : lightF t m = if (t.n.m.length : Int) > 95 ∨ (t.s.size : Int) > 2100 ∨ (t.k.length : Int) > 40 ∨ (t.v.length : Int) > 40 then -1 else if (t.k.any bigK) = true then -1 else lightL t.v (m - 1) := by cases t; rfl
mutual
theorem light_in : ∀ (t : Tree) (m : Int), 0 ≤ m → -1 ≤ lightF t m ∧ lightF t m ≤ m
 | .mk k b n s ks v, m, h => by
  have := lightL_in v (m - 1) (by omega)
  rw [lightF_eq]
  split
  ·omega
  ·split
   ·omega
   ·show -1 ≤ lightL v (m - 1) ∧ lightL v (m - 1) ≤ m; omega
theorem lightL_in : ∀ (l : List Tree) (m : Int), -1 ≤ m → -1 ≤ lightL l m ∧ lightL l m ≤ m
 | [], m, h => ⟨h, Int.le_refl _⟩
 | t :: l, m, h => by
  simp only [lightL]
  split
  ·rename_i h0
   have h1 := light_in t m h0
   have := lightL_in l (lightF t m) h1.1; omega
  ·omega
end
theorem lightL_go {v : List Tree} {i : Nat} {n : Int} (hi : i < v.length) (hn : n ≥ 0) : lightL (v.drop i) n = lightL (v.drop (i + 1)) (lightF (v.getD i (dflt .tree)) n) := by
 rw [List.drop_eq_getElem_cons hi, lightL, if_pos hn]
 have e : v.getD i (dflt .tree) = v[i] := by rw [List.getD_eq_getElem?_getD, List.getElem?_eq_getElem hi]; rfl
 rw [e]
theorem lightL_end {v : List Tree} {n : Int} (h : v = [] ∨ ¬ n ≥ 0) : lightL v n = n := by
 cases v with
 | nil => rfl
 | cons t l =>
  rcases h with h | h
  ·cases h
  ·rw [lightL, if_neg h]
theorem anyK_no {l : List ByteArray} (h : ∀ j, j < l.length → ¬ ((l.getD j (dflt .str)).size : Int) > 2100) : l.any bigK = false := by
 rw [List.any_eq_false]
 intro x hx
 obtain ⟨j, hj, rfl⟩ := List.mem_iff_getElem.1 hx
 have := h j hj
 rw [List.getD_eq_getElem?_getD, List.getElem?_eq_getElem hj] at this
 unfold bigK; simpa using this
theorem anyK_yes {l : List ByteArray} {j : Nat} (hj : j < l.length) (h : ((l.getD j (dflt .str)).size : Int) > 2100) : l.any bigK = true :=
 List.any_eq_true.2 ⟨_, getD_mem hj (dflt .str), decide_eq_true h⟩
theorem con53_ : ∀ (n : Nat) (t : Tree) (m : Int), nodes t < n → 0 ≤ m → m ≤ 4000 → Con Tryz.prog I0 53 [.agg (encTree t), vi m] (.val (vi (lightF t m))) := by
 intro n
 induction n
 case zero => intro t m hn; omega
 rename_i n ih
 intro t m hn hm0 hm1
 refine con_of Tryz.func53 rfl (Nat.le_of_ble_eq_true rfl) stab (fun w0 fz a hI hs => ?_)
 refine wp_seq ?_
 refine wN hs hI [] [1, 2] [1000] (True ∧ (True ∧ True)) .norm [(1, vi m), (2, .ptr 1000 0)] [(1000, .var (encTree t))] (by kernel_rfl) ⟨tv, tv, tv⟩ (fun a w hs => ?_)
 refine then_norm ?_
 refine wp_seq ?_
 refine wN hs hI [] [1, 2] [1000] (True ∧ ((InR .i64 (m - 1)) ∧ True ∧ True)) .norm [(1, vi (m - 1)), (2, .ptr 1000 0)] [(1000, .var (encTree t))] (by kernel_rfl) ⟨tv, (inR64 (by omega) (by omega)), tv, tv⟩ (fun a w hs => ?_)
 refine then_norm ?_
 refine wp_seq ?_
 rcases bt (decide ((t.n.m.length : Int) > 95)) with b1 | b1
 ·skip
  have n1 := of_decide_eq_true b1
  refine wL hs hI [(2, ⟨[], gg [1010, 1016, 1022] [6, 7, 8, 9, 12, 13, 14, 15, 18, 19, 20, 21], []⟩)] [true] [4] [] ((tr 6 ((ty b1) ∧ (ty b1) ∧ (ty b1) ∧ (ty b1) ∧ (ty b1) ∧ True ∧ (true = true) ∧ (true = true) ∧ (true = true) ∧ (true = true) ∧ (true = true) ∧ True ∧ (true = true) ∧ (true = true) ∧ (true = true) ∧ (true = true) ∧ (true = true) ∧ True)) ∧ ((true = true) ∧ (True ∧ True) ∧ True)) .ret [(4, vi (-1))] [] ⟨tv, tv⟩ (by kernel_rfl) ⟨tr_mk (⟨b1, b1, b1, b1, b1, tv, rfl, rfl, rfl, rfl, rfl, tv, rfl, rfl, rfl, rfl, rfl, tv⟩) 6, rfl, ⟨tv, tv⟩, tv⟩ (fun a w hs => ?_)
  refine then_ret ?_
  exact FnQ_cast (out := .val (vi (-1))) (by rw [lightF_eq, if_pos (by omega)]) (ret_ok [] hs ⟨by kernel_rfl, rfl⟩)
 ·skip
  have n1 := of_decide_eq_false b1
  rcases bt (decide ((t.s.size : Int) > 2100)) with b2 | b2
  ·skip
   have n2 := of_decide_eq_true b2
   refine wL hs hI [(2, ⟨[], gg [6, 7, 8, 9, 1016, 1022] [1010, 12, 13, 14, 15, 18, 19, 20, 21], []⟩)] [true] [4] [] ((tr 6 (rp 5 b1 ((ty b2) ∧ (ty b2) ∧ (ty b2) ∧ (ty b2) ∧ (ty b2) ∧ True ∧ (true = true) ∧ (true = true) ∧ (true = true) ∧ (true = true) ∧ (true = true) ∧ True))) ∧ ((true = true) ∧ (True ∧ True) ∧ True)) .ret [(4, vi (-1))] [] ⟨tv, tv⟩ (by kernel_rfl) ⟨tr_mk (rp_mk (⟨b2, b2, b2, b2, b2, tv, rfl, rfl, rfl, rfl, rfl, tv⟩) 5) 6, rfl, ⟨tv, tv⟩, tv⟩ (fun a w hs => ?_)
   refine then_ret ?_
   exact FnQ_cast (out := .val (vi (-1))) (by rw [lightF_eq, if_pos (by omega)]) (ret_ok [] hs ⟨by kernel_rfl, rfl⟩)
  ·skip
   have n2 := of_decide_eq_false b2
   rcases bt (decide ((t.k.length : Int) > 40)) with b3 | b3
   ·skip
    have n3 := of_decide_eq_true b3
    refine wL hs hI [(2, ⟨[], gg [6, 7, 8, 9, 12, 13, 14, 15, 1022] [1010, 1016, 18, 19, 20, 21], []⟩)] [true] [4] [] ((tr 6 (rp 5 b1 (rp 5 b2 ((ty b3) ∧ (ty b3) ∧ (ty b3) ∧ (ty b3) ∧ (ty b3) ∧ True)))) ∧ ((true = true) ∧ (True ∧ True) ∧ True)) .ret [(4, vi (-1))] [] ⟨tv, tv⟩ (by kernel_rfl) ⟨tr_mk (rp_mk (rp_mk (⟨b3, b3, b3, b3, b3, tv⟩) 5) 5) 6, rfl, ⟨tv, tv⟩, tv⟩ (fun a w hs => ?_)
    refine then_ret ?_
    exact FnQ_cast (out := .val (vi (-1))) (by rw [lightF_eq, if_pos (by omega)]) (ret_ok [] hs ⟨by kernel_rfl, rfl⟩)
   ·skip
    have n3 := of_decide_eq_false b3
    rcases bt (decide ((t.v.length : Int) > 40)) with b4 | b4
    ·skip
     have n4 := of_decide_eq_true b4
     refine wL hs hI [(2, ⟨[], gg [6, 7, 8, 9, 12, 13, 14, 15, 18, 19, 20, 21] [1010, 1016, 1022], []⟩)] [true] [4] [] ((tr 6 (rp 5 b1 (rp 5 b2 (rp 4 b3 ((ty b3) ∧ True))))) ∧ ((ty b4) ∧ (True ∧ True) ∧ True)) .ret [(4, vi (-1))] [] ⟨tv, tv⟩ (by kernel_rfl) ⟨tr_mk (rp_mk (rp_mk (rp_mk (⟨b3, tv⟩) 4) 5) 5) 6, b4, ⟨tv, tv⟩, tv⟩ (fun a w hs => ?_)
     refine then_ret ?_
     exact FnQ_cast (out := .val (vi (-1))) (by rw [lightF_eq, if_pos (by omega)]) (ret_ok [] hs ⟨by kernel_rfl, rfl⟩)
    ·skip
     have n4 := of_decide_eq_false b4
     refine wL hs hI [(2, ⟨[], gg [6, 7, 8, 9, 12, 13, 14, 15, 18, 19, 20, 21] [1010, 1016, 1022], []⟩)] [false] [1, 2] [1000] ((tr 6 (rp 5 b1 (rp 5 b2 (rp 4 b3 ((ty b3) ∧ True))))) ∧ ((ty b4) ∧ True)) .norm [(1, vi (m - 1)), (2, .ptr 1000 0)] [(1000, .var (encTree t))] ⟨tv, tv⟩ (by kernel_rfl) ⟨tr_mk (rp_mk (rp_mk (rp_mk (⟨b3, tv⟩) 4) 5) 5) 6, b4, tv⟩ (fun a w hs => ?_)
     refine then_norm ?_
     refine wp_seq ?_
     refine wp_seq ?_
     refine wN hs hI [] [1, 2, 5] [1000] (True ∧ True) .norm [(1, vi (m - 1)), (2, .ptr 1000 0), (5, vi 0)] [(1000, .var (encTree t))] (by kernel_rfl) ⟨tv, tv⟩ (fun a w hs => ?_)
     refine then_norm ?_
     refine wp_block ?_
     refine loop_L (N := Tryz.f53.ntmps) (w0 := w0) (ow := noO fz) (α := Nat) (fun p => [(1, vi (m - 1)), (2, .ptr 1000 0), (5, vi (p : Int))]) (fun p => [(1000, .var (encTree t))]) (fun p => p ≤ t.k.length ∧ ∀ j, j < p → ¬ ((t.k.getD j (dflt .str)).size : Int) > 2100) (fun p => t.k.length - p) 0 ?_ ?_ ?_
     ·exact ⟨Nat.zero_le _, fun j hj => absurd hj (Nat.not_lt_zero _)⟩
     ·(have e0_ : (0) = (((0 : Nat) : Int)) := (by first | rfl | (rfl)); exact (hs.cst [(1, vi (m - 1)), (2, .ptr 1000 0), (5, vi ((0 : Nat) : Int))] [(1000, .var (encTree t))] (by first | rfl | (rw [e0_]; done) | (simp only [e0_]; done) | (simp only [e0_]; rfl))).rm [(1000, 1000)] (by kernel_rfl))
     rintro i hJ a w hs
     obtain ⟨hi, hall⟩ := hJ
     rcases bt (decide ((i : Int) < (t.k.length : Int))) with b5 | b5
     ·skip
      have n5 := of_decide_eq_true b5
      rcases bt (decide (((t.k.getD i (dflt .str)).size : Int) > 2100)) with b6 | b6
      ·skip
       have n6 := of_decide_eq_true b6
       refine wN hs hI [true, true] [4] [] (((tr 5 True) ∧ (ty b5) ∧ True) ∧ ((tr 3 ((0 ≤ (i : Int) ∧ (i : Int) < t.k.length) ∧ (tr 3 True))) ∧ (ty b6) ∧ (True ∧ True) ∧ True)) .ret [(4, vi (-1))] [] (by kernel_rfl) ⟨⟨tr_mk tv 5, b5, tv⟩, tr_mk (⟨(by omega), tr_mk tv 3⟩) 3, b6, ⟨tv, tv⟩, tv⟩ (fun a w hs => ?_)
       refine then_ret ?_
       refine inb_ret ?_
       refine then_ret ?_
       exact FnQ_cast (out := .val (vi (-1))) (by rw [lightF_eq, if_neg (by omega), if_pos (anyK_yes (j := i) (by omega) (by omega))]) (ret_ok [] hs ⟨by kernel_rfl, rfl⟩)
      ·skip
       have n6 := of_decide_eq_false b6
       refine wN hs hI [true, false] [1, 2, 5] [1000] (((tr 5 True) ∧ (ty b5) ∧ True) ∧ (((tr 3 ((0 ≤ (i : Int) ∧ (i : Int) < t.k.length) ∧ (tr 3 True))) ∧ (ty b6) ∧ True) ∧ True ∧ (InR .i64 ((i : Int) + 1)) ∧ True ∧ True)) .norm [(1, vi (m - 1)), (2, .ptr 1000 0), (5, vi ((i : Int) + 1))] [(1000, .var (encTree t))] (by kernel_rfl) ⟨⟨tr_mk tv 5, b5, tv⟩, ⟨tr_mk (⟨(by omega), tr_mk tv 3⟩) 3, b6, tv⟩, tv, (inR64 (by omega) (by omega)), tv, tv⟩ (fun a w hs => ?_)
       refine then_norm ⟨i + 1, ⟨by omega, fun j hj => by rcases Nat.lt_succ_iff_lt_or_eq.1 hj with h | h; exact hall j h; subst h; omega⟩, by omega, ?_⟩
       (have e0_ : ((i : Int) + 1) = ((((i + 1) : Nat) : Int)) := (by first | rfl | (omega)); exact (hs.cst [(1, vi (m - 1)), (2, .ptr 1000 0), (5, vi (((i + 1) : Nat) : Int))] [(1000, .var (encTree t))] (by first | rfl | (rw [e0_]; done) | (simp only [e0_]; done) | (simp only [e0_]; rfl))).rm [(1000, 1000)] (by kernel_rfl))
     ·skip
      have n5 := of_decide_eq_false b5
      refine wN hs hI [false] [1, 2] [1000] ((tr 5 True) ∧ ((ty b5) ∧ True)) (.exit 0) [(1, vi (m - 1)), (2, .ptr 1000 0)] [(1000, .var (encTree t))] (by kernel_rfl) ⟨tr_mk tv 5, b5, tv⟩ (fun a w hs => ?_)
      refine then_exit ?_
      refine inb_hit ?_
      refine then_norm ?_
      refine wp_seq ?_
      refine wp_seq ?_
      refine wN hs hI [] [1, 2, 6] [1000] (True ∧ True) .norm [(1, vi (m - 1)), (2, .ptr 1000 0), (6, vi 0)] [(1000, .var (encTree t))] (by kernel_rfl) ⟨tv, tv⟩ (fun a w hs => ?_)
      refine then_norm ?_
      refine wp_block ?_
      have hk0 := anyK_no (l := t.k) (fun j hj => hall j (by omega))
      clear hall
      refine loop_L (N := Tryz.f53.ntmps) (w0 := w0) (ow := noO fz) (α := Nat × Int) (fun p => [(1, vi p.2), (2, .ptr 1000 0), (6, vi ((p.1 : Nat) : Int))]) (fun p => [(1000, .var (encTree t))]) (fun p => p.1 ≤ t.v.length ∧ lightL (t.v.drop p.1) p.2 = lightL t.v (m - 1) ∧ -1 ≤ p.2 ∧ p.2 ≤ m) (fun p => t.v.length - p.1) (0, m - 1) ?_ ?_ ?_
      ·exact ⟨Nat.zero_le _, rfl, by omega, by omega⟩
      ·exact (hs.cst [(1, vi (m - 1)), (2, .ptr 1000 0), (6, vi ((0 : Nat) : Int))] [(1000, .var (encTree t))] rfl).rm [(1000, 1000)] (by kernel_rfl)
      rintro ⟨i, n_⟩ hJ a w hs
      try dsimp only at hJ
      obtain ⟨hi, hd, hn0, hn1⟩ := hJ
      rcases bt (decide ((i : Int) < (t.v.length : Int))) with b7 | b7
      ·skip
       have n7 := of_decide_eq_true b7
       rcases bt (decide (n_ ≥ 0)) with b8 | b8
       ·skip
        have n8 := of_decide_eq_true b8
        refine wL hs hI [(10, ⟨[], gg [6, 7, 1008] [], []⟩), (12, ⟨[(6, ciA 53 [.agg (encTree (t.v.getD i (dflt .tree))), vi n_] [] [] (.val (vi (lightF (t.v.getD i (dflt .tree)) n_))))], [], []⟩)] [true] [1, 2, 6] [1000] (((tr 6 (rp 2 b7 ((ty b7) ∧ True))) ∧ (ty b8) ∧ True) ∧ ((tr 3 ((0 ≤ (i : Int) ∧ (i : Int) < t.v.length) ∧ True ∧ True ∧ (okArgs [.agg (encTree (t.v.getD i (dflt .tree))), vi n_]) ∧ True ∧ True)) ∧ True ∧ (InR .i64 ((i : Int) + 1)) ∧ True ∧ True)) .norm [(1, vi (lightF (t.v.getD i (dflt .tree)) n_)), (2, .ptr 1000 0), (6, vi ((i : Int) + 1))] [(1000, .var (encTree t))] ⟨tv, ⟨⟨⟨ent53, ih _ _ (by have h1 := nodes_eq t; have h2 := nodes_at (l := t.v) (i := i) (by omega); omega) (by omega) (by omega)⟩, tv⟩, tv⟩⟩ (by kernel_rfl) ⟨⟨tr_mk (rp_mk (⟨b7, tv⟩) 2) 6, b8, tv⟩, tr_mk (⟨(by omega), tv, tv, rfl, tv, tv⟩) 3, tv, (inR64 (by omega) (by omega)), tv, tv⟩ (fun a w hs => ?_)
        refine then_norm ⟨(i + 1, lightF (t.v.getD i (dflt .tree)) n_), ⟨by omega, by rw [← lightL_go (by omega) (by omega)]; exact hd, (light_in _ _ (by omega)).1, by have := (light_in (t.v.getD i (dflt .tree)) n_ (by omega)).2; omega⟩, by omega, ?_⟩
        (have e0_ : (lightF (t.v.getD i (dflt .tree)) n_) = ((lightF (t.v.getD i (dflt .tree)) n_)) := (by first | rfl | (first | rfl | omega)); have e1_ : ((i : Int) + 1) = ((((i + 1) : Nat) : Int)) := (by first | rfl | (first | rfl | omega)); exact (hs.cst [(1, vi (lightF (t.v.getD i (dflt .tree)) n_)), (2, .ptr 1000 0), (6, vi (((i + 1) : Nat) : Int))] [(1000, .var (encTree t))] (by first | rfl | (rw [e0_, e1_]; done) | (simp only [e0_, e1_]; done) | (simp only [e0_, e1_]; rfl))).rm [(1000, 1000)] (by kernel_rfl))
       ·skip
        have n8 := of_decide_eq_false b8
        refine wL hs hI [(10, ⟨[], gg [6, 7, 1008] [], []⟩)] [false] [1] [] ((tr 6 (rp 2 b7 ((ty b7) ∧ True))) ∧ ((ty b8) ∧ True)) (.exit 2) [(1, vi n_)] [] ⟨tv, tv⟩ (by kernel_rfl) ⟨tr_mk (rp_mk (⟨b7, tv⟩) 2) 6, b8, tv⟩ (fun a w hs => ?_)
        refine then_exit ?_
        refine inb_hit ?_
        refine then_norm ?_
        refine wN hs hI [] [4] [] ((True ∧ True ∧ True) ∧ True) .ret [(4, vi n_)] [] (by kernel_rfl) ⟨⟨tv, tv, tv⟩, tv⟩ (fun a w hs => ?_)
        exact FnQ_cast (out := .val (vi n_)) (by rw [lightF_eq, if_neg (by omega), if_neg (by rw [hk0]; decide), ← hd, lightL_end (by first | exact .inl (List.drop_of_length_le (by omega)) | exact .inr (by omega))]) (ret_ok [] hs ⟨by kernel_rfl, rfl⟩)
      ·skip
       have n7 := of_decide_eq_false b7
       refine wL hs hI [(10, ⟨[], gg [] [6, 7, 1008], []⟩)] [false] [1] [] ((tr 6 ((ty b7) ∧ (ty b7) ∧ (ty b7) ∧ True)) ∧ ((false = false) ∧ True)) (.exit 2) [(1, vi n_)] [] ⟨tv, tv⟩ (by kernel_rfl) ⟨tr_mk (⟨b7, b7, b7, tv⟩) 6, rfl, tv⟩ (fun a w hs => ?_)
       refine then_exit ?_
       refine inb_hit ?_
       refine then_norm ?_
       refine wN hs hI [] [4] [] ((True ∧ True ∧ True) ∧ True) .ret [(4, vi n_)] [] (by kernel_rfl) ⟨⟨tv, tv, tv⟩, tv⟩ (fun a w hs => ?_)
       exact FnQ_cast (out := .val (vi n_)) (by rw [lightF_eq, if_neg (by omega), if_neg (by rw [hk0]; decide), ← hd, lightL_end (by first | exact .inl (List.drop_of_length_le (by omega)) | exact .inr (by omega))]) (ret_ok [] hs ⟨by kernel_rfl, rfl⟩)
theorem con10 (t : Tree) (m : Int) (hm0 : 0 ≤ m) (hm1 : m ≤ 4000) : Con Tryz.prog I0 10 [.agg (encTree t), vi m] (.val (vb (decide (lightF t m ≥ 0)))) := by
 refine con_of Tryz.func10 rfl (Nat.le_of_ble_eq_true rfl) stab (fun w0 fz a hI hs => ?_)
 refine wL hs hI [(1, ⟨[(2, ciA 53 [.agg (encTree t), vi m] [] [] (.val (vi (lightF t m))))], [], []⟩)] [] [4] [] ((True ∧ True ∧ True) ∧ ((True ∧ True ∧ (okArgs [.agg (encTree t), vi m]) ∧ True ∧ True ∧ True) ∧ True)) .ret [(4, vb (decide ((lightF t m) ≥ 0)))] [] ⟨⟨⟨ent53, con53_ (nodes t + 1) t m (Nat.lt_succ_self _) hm0 hm1⟩, tv⟩, tv⟩ (by kernel_rfl) ⟨⟨tv, tv, tv⟩, ⟨tv, tv, rfl, tv, tv, tv⟩, tv⟩ (fun a w hs => ?_)
 exact FnQ_cast (out := .val (vb (decide ((lightF t m) ≥ 0)))) (rfl) (ret_ok [] hs ⟨by kernel_rfl, rfl⟩)
end Go.Proofs.YtondpnipoogoiaaGreatDoor.F
