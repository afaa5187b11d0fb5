import Derived.Test.YtondpnipoogoiaaGreatDoorO7
namespace Go.Proofs.YtondpnipoogoiaaGreatDoor.F
open Go Go.RowKit Go.Proofs.Tryz
set_option linter.unusedVariables false
set_option linter.unusedSimpArgs false
theorem Ok.at {l : List Int} (h : Ok l) (n : Nat) : 0 ≤ l.getD n (dflt (.int .u32)) ∧ l.getD n (dflt (.int .u32)) < 4294967296 := h.rdk (n : Int)
theorem stepA {r x : Int} (r0 : 0 ≤ r) (r1 : r < 4294967296) (x0 : 0 ≤ x) (x1 : x < 4294967296) : IntKind.wrap .u64 (IntKind.wrap .u64 (r * 2 ^ 32) + IntKind.wrap .u64 x) = r * 4294967296 + x := by
  have e1 : r * 2 ^ 32 = r * 4294967296 := rfl
  rw [e1, wrapU64 (n := r * 4294967296) (by omega) (by omega), wrapU64 (n := x) (by omega) (by omega), wrapU64 (by omega) (by omega)]
def cmpV (a b : Nat) : Int := if a < b then -1 else if b < a then 1 else 0
theorem cmpV_zero (a b : Nat) : (cmpV a b == 0) = (a == b) := by
  unfold cmpV
  rw [Bool.eq_iff_iff, beq_iff_eq, beq_iff_eq]
  split
  · exact ⟨fun h => by omega, fun h => by omega⟩
  · split
    · exact ⟨fun h => by omega, fun h => by omega⟩
    · exact ⟨fun h => by omega, fun h => by omega⟩
theorem rd_drop {l : List Int} (n : Nat) : val (l.drop n) = (rd l n).toNat + 4294967296 * val (l.drop (n + 1)) := by
  rcases Nat.lt_or_ge n l.length with h | h
  · exact val_drop h
  · rw [List.drop_of_length_le h, List.drop_of_length_le (by omega), rd_ge (by omega)]; rfl
theorem val_split (l : List Int) (n : Nat) : val l = val (l.take n) + 4294967296 ^ n * val (l.drop n) := by
  rcases Nat.le_total n l.length with h | h
  · exact val_take_drop l n h
  · rw [List.take_of_length_le h, List.drop_of_length_le h]; simp [val]
theorem val_take_lt {l : List Int} (hl : Ok l) (n : Nat) : val (l.take n) < 4294967296 ^ n := by
  refine Nat.lt_of_lt_of_le (val_lt (hl.take n)) (Nat.pow_le_pow_right (by decide) ?_)
  rw [List.length_take]; omega
theorem cmp_lt {a b : List Int} (ha : Ok a) (hb : Ok b) {k : Nat} (he : val (a.drop (k + 1)) = val (b.drop (k + 1))) (h : rd a k < rd b k) : val a < val b := by
  have h1 := val_split a k
  have h2 := val_split b k
  rw [rd_drop] at h1 h2
  rw [he] at h1
  have h3 := val_take_lt ha k
  have h4 := ha.rdk k
  have h5 := hb.rdk k
  have h6 : (rd a k).toNat + 1 ≤ (rd b k).toNat := by omega
  have h7 := Nat.mul_le_mul_left (4294967296 ^ k) h6
  generalize 4294967296 ^ k = p at *
  generalize val (b.drop (k + 1)) = V at *
  rw [Nat.mul_add] at h1 h2
  rw [Nat.mul_add, Nat.mul_one] at h7
  omega
theorem cmp_eq {a b : List Int} (he : val (a.drop 0) = val (b.drop 0)) : cmpV (val a) (val b) = 0 := by
  simp only [List.drop_zero] at he
  unfold cmpV; rw [if_neg (by omega), if_neg (by omega)]
def isN (n : Num) : Num := if checkN n = true then n else ⟨false, [], 0⟩
theorem isN_ok {n : Num} (h : Ok n.m) : Ok (isN n).m := by
  unfold isN; split
  · exact h
  · exact Ok.nil
theorem isN_len {n : Num} (h : n.m.length < 1000000000) : (isN n).m.length < 1000000000 := by
  unfold isN; split
  · exact h
  · decide
def sameN (a b : Num) : Bool := (isN a).neg == (isN b).neg && ((isN a).e == (isN b).e && val (isN a).m == val (isN b).m)
set_option maxRecDepth 100000 in
theorem con250 (l : List Int) (hl : l.length < 1000000000) : Con Tryz.prog I0 250 [.row (.int .u32) l] (.own 160 (.int .u32) (trimF l)) := by
 refine con_of Tryz.func250 rfl (Nat.le_of_ble_eq_true rfl) stab (fun w0 fz a hI hs => ?_)
 refine wp_seq ?_
 refine way_L (tt := tt) (rs := []) (bs := []) (tk := [0]) (bk := []) (C := True ∧ True) (lv := .norm) (T' := [(0, .row (.int .u32) l)]) (B' := []) mix hI hs ?_ ?_ ?_ ?_
 ·exact trivial
 ·kernel_rfl
 ·exact ⟨trivial, trivial⟩
 intro a w hs
 refine then_norm ?_
 refine wp_seq ?_
 refine way_L (tt := tt) (rs := []) (bs := []) (tk := [0, 3]) (bk := []) (C := tr 3 True) (lv := .norm) (T' := [(0, .row (.int .u32) l), (3, vi (l.length : Int))]) (B' := []) mix hI hs ?_ ?_ ?_ ?_
 ·exact trivial
 ·kernel_rfl
 ·exact tr_mk trivial 3
 intro a w hs
 refine then_norm ?_
 refine wp_seq ?_
 refine wp_block ?_
 refine loop_L (N := Tryz.f250.ntmps) (w0 := w0) (ow := noO fz) (α := Nat) (fun p => [(0, .row (.int .u32) l), (3, vi ((p : Nat) : Int))]) (fun p => []) (fun p => p ≤ l.length ∧ trimF (l.take p) = trimF l) (fun p => p) l.length ?_ ?_ ?_
 ·exact ⟨Nat.le_refl _, by rw [List.take_length]⟩
 ·exact (SimL.cast hs (T' := [(0, .row (.int .u32) l), (3, vi ((l.length : Nat) : Int))]) (B' := []) (by rfl) rfl).ren [] (by kernel_rfl) (by kernel_rfl) (by kernel_rfl)
 rintro n hJ a w hs
 obtain ⟨hn, ht⟩ := hJ
 rcases Bool.eq_false_or_eq_true (decide (((n : Nat) : Int) > 0)) with b1 | b1
 ·skip
  have n1 := of_decide_eq_true b1
  rcases Bool.eq_false_or_eq_true ((l.getD ((((n : Nat) : Int) - 1).toNat) (dflt (.int .u32))) == 0) with b2 | b2
  ·skip
   have n2 := eq_of_beq b2
   refine way_L (tt := tt) (rs := [(2, ⟨[], [(3, true), (4, true), (5, true), (6, true), (7, true), (8, true), (1009, true)], []⟩)]) (bs := [true]) (tk := [0, 3]) (bk := []) (C := ((tr 3 (((decide (((n : Nat) : Int) > 0)) = true) ∧ True ∧ ((decide (((n : Nat) : Int) > 0)) = true) ∧ True ∧ ((decide (((n : Nat) : Int) > 0)) = true) ∧ (InR .i64 (((n : Nat) : Int) - 1)) ∧ ((decide (((n : Nat) : Int) > 0)) = true) ∧ (0 ≤ (((n : Nat) : Int) - 1) ∧ (((n : Nat) : Int) - 1) < l.length) ∧ ((decide (((n : Nat) : Int) > 0)) = true) ∧ True ∧ ((decide (((n : Nat) : Int) > 0)) = true) ∧ True ∧ ((decide (((n : Nat) : Int) > 0)) = true) ∧ True)) ∧ (((l.getD ((((n : Nat) : Int) - 1).toNat) (dflt (.int .u32))) == 0) = true) ∧ True) ∧ True ∧ (InR .i64 (((n : Nat) : Int) - 1)) ∧ True ∧ True) (lv := .norm) (T' := [(0, .row (.int .u32) l), (3, vi (((n : Nat) : Int) - 1))]) (B' := []) mix hI hs ?_ ?_ ?_ ?_
   ·exact ⟨trivial, trivial⟩
   ·kernel_rfl
   ·exact ⟨⟨tr_mk (⟨b1, trivial, b1, trivial, b1, (inR64 (by omega) (by omega)), b1, ⟨by omega, by omega⟩, b1, trivial, b1, trivial, b1, trivial⟩) 3, b2, trivial⟩, trivial, (inR64 (by omega) (by omega)), trivial, trivial⟩
   intro a w hs
   refine then_norm ⟨n - 1, ⟨by omega, by obtain ⟨m, rfl⟩ : ∃ m, n = m + 1 := ⟨n - 1, by omega⟩; rw [← ht, trimF_zero (n := m) (by omega) (by have h := eq_of_beq b2; rw [← h]; congr 1; omega)]; rfl⟩, by omega, ?_⟩
   (have e0_ : (((n : Nat) : Int) - 1) = ((((n - 1) : Nat) : Int)) := (by first | rfl | (omega)); exact (SimL.cast hs (T' := [(0, .row (.int .u32) l), (3, vi (((n - 1) : Nat) : Int))]) (B' := []) (by first | rfl | (rw [e0_]; done) | (simp only [e0_]; done) | (simp only [e0_]; rfl)) (by first | rfl | (rw [e0_]; done) | (simp only [e0_]; done) | (simp only [e0_]; rfl))).ren [] (by kernel_rfl) (by kernel_rfl) (by kernel_rfl))
  ·skip
   have n2 := beq_eq_false_iff_ne.1 b2
   refine way_L (tt := tt) (rs := [(2, ⟨[], [(3, true), (4, true), (5, true), (6, true), (7, true), (8, true), (1009, true)], []⟩)]) (bs := [false]) (tk := [0, 3]) (bk := []) (C := (tr 3 (((decide (((n : Nat) : Int) > 0)) = true) ∧ True ∧ ((decide (((n : Nat) : Int) > 0)) = true) ∧ True ∧ ((decide (((n : Nat) : Int) > 0)) = true) ∧ (InR .i64 (((n : Nat) : Int) - 1)) ∧ ((decide (((n : Nat) : Int) > 0)) = true) ∧ (0 ≤ (((n : Nat) : Int) - 1) ∧ (((n : Nat) : Int) - 1) < l.length) ∧ ((decide (((n : Nat) : Int) > 0)) = true) ∧ True ∧ ((decide (((n : Nat) : Int) > 0)) = true) ∧ True ∧ ((decide (((n : Nat) : Int) > 0)) = true) ∧ True)) ∧ (((l.getD ((((n : Nat) : Int) - 1).toNat) (dflt (.int .u32))) == 0) = false) ∧ True) (lv := .exit 0) (T' := [(0, .row (.int .u32) l), (3, vi ((n : Nat) : Int))]) (B' := []) mix hI hs ?_ ?_ ?_ ?_
   ·exact ⟨trivial, trivial⟩
   ·kernel_rfl
   ·exact ⟨tr_mk (⟨b1, trivial, b1, trivial, b1, (inR64 (by omega) (by omega)), b1, ⟨by omega, by omega⟩, b1, trivial, b1, trivial, b1, trivial⟩) 3, b2, trivial⟩
   intro a w hs
   refine then_exit ?_
   refine inb_hit ?_
   refine then_norm ?_
   refine way_L (tt := tt) (rs := []) (bs := []) (tk := [2]) (bk := [5003]) (C := (True ∧ True ∧ (0 ≤ (0 : Int) ∧ (0 : Int) ≤ ((n : Nat) : Int) ∧ ((n : Nat) : Int) ≤ (l.length : Int) ∧ (l.length : Int) ≤ (l.length : Int)) ∧ (((l.take n).length * 4 : Nat) ≤ 140737488355328 ∧ (l.take n).length ≤ 140737488355328) ∧ True ∧ True) ∧ True) (lv := .ret) (T' := [(2, .own 5003)]) (B' := [(5003, .sl 160 (.int .u32) (l.take n))]) mix hI hs ?_ ?_ ?_ ?_
   ·exact trivial
   ·kernel_rfl
   ·exact ⟨⟨trivial, trivial, (by (repeat' apply And.intro) <;> (try split) <;> omega), (by simp only [List.length_take]; omega), trivial, trivial⟩, trivial⟩
   intro a w hs
   exact FnQ_cast (out := .own 160 (.int .u32) (l.take n)) (by obtain ⟨m, rfl⟩ : ∃ m, n = m + 1 := ⟨n - 1, by omega⟩; rw [← ht, trimF_stop (n := m) (by omega) (by have h := beq_eq_false_iff_ne.1 b2; rwa [show (((m + 1 : Nat) : Int) - 1).toNat = m by omega] at h)]) (ret_ok [] hs (.inl ⟨5003, by kernel_rfl, rfl⟩))
 ·skip
  have n1 := of_decide_eq_false b1
  refine way_L (tt := tt) (rs := [(2, ⟨[], [(3, false), (4, false), (5, false), (6, false), (7, false), (8, false), (1009, false)], []⟩)]) (bs := [false]) (tk := [0, 3]) (bk := []) (C := (tr 3 (((decide (((n : Nat) : Int) > 0)) = false) ∧ ((decide (((n : Nat) : Int) > 0)) = false) ∧ ((decide (((n : Nat) : Int) > 0)) = false) ∧ ((decide (((n : Nat) : Int) > 0)) = false) ∧ ((decide (((n : Nat) : Int) > 0)) = false) ∧ ((decide (((n : Nat) : Int) > 0)) = false) ∧ ((decide (((n : Nat) : Int) > 0)) = false) ∧ True)) ∧ (false = false) ∧ True) (lv := .exit 0) (T' := [(0, .row (.int .u32) l), (3, vi ((n : Nat) : Int))]) (B' := []) mix hI hs ?_ ?_ ?_ ?_
  ·exact ⟨trivial, trivial⟩
  ·kernel_rfl
  ·exact ⟨tr_mk (⟨b1, b1, b1, b1, b1, b1, b1, trivial⟩) 3, rfl, trivial⟩
  intro a w hs
  refine then_exit ?_
  refine inb_hit ?_
  refine then_norm ?_
  refine way_L (tt := tt) (rs := []) (bs := []) (tk := [2]) (bk := [5003]) (C := (True ∧ True ∧ (0 ≤ (0 : Int) ∧ (0 : Int) ≤ ((n : Nat) : Int) ∧ ((n : Nat) : Int) ≤ (l.length : Int) ∧ (l.length : Int) ≤ (l.length : Int)) ∧ (((l.take n).length * 4 : Nat) ≤ 140737488355328 ∧ (l.take n).length ≤ 140737488355328) ∧ True ∧ True) ∧ True) (lv := .ret) (T' := [(2, .own 5003)]) (B' := [(5003, .sl 160 (.int .u32) (l.take n))]) mix hI hs ?_ ?_ ?_ ?_
  ·exact trivial
  ·kernel_rfl
  ·exact ⟨⟨trivial, trivial, (by (repeat' apply And.intro) <;> (try split) <;> omega), (by simp only [List.length_take]; omega), trivial, trivial⟩, trivial⟩
  intro a w hs
  exact FnQ_cast (out := .own 160 (.int .u32) (l.take n)) (by obtain rfl : n = 0 := (by omega); rw [← ht]; rfl) (ret_ok [] hs (.inl ⟨5003, by kernel_rfl, rfl⟩))
set_option maxRecDepth 100000 in
theorem con175 (l : List Int) (i : Int) (ha : Ok l) (hi : 0 ≤ i) : Con Tryz.prog I0 175 [.row (.int .u32) l, vi i] (.val (.lit (.int .u64 (rd l i)))) := by
 refine con_of Tryz.func175 rfl (Nat.le_of_ble_eq_true rfl) stab (fun w0 fz a hI hs => ?_)
 rcases Bool.eq_false_or_eq_true (decide (i < (l.length : Int))) with b1 | b1
 ·skip
  have n1 := of_decide_eq_true b1
  refine way_L (tt := tt) (rs := []) (bs := [true]) (tk := [4]) (bk := []) (C := (True ∧ True) ∧ (tr 4 True) ∧ ((decide (i < (l.length : Int))) = true) ∧ (True ∧ True ∧ (0 ≤ i ∧ i < l.length) ∧ (tr 3 True)) ∧ True) (lv := .ret) (T' := [(4, .lit (.int .u64 (IntKind.wrap .u64 (l.getD i.toNat (dflt (.int .u32))))))]) (B' := []) mix hI hs ?_ ?_ ?_ ?_
  ·exact trivial
  ·kernel_rfl
  ·exact ⟨⟨trivial, trivial⟩, tr_mk trivial 4, b1, ⟨trivial, trivial, ⟨by omega, by omega⟩, tr_mk trivial 3⟩, trivial⟩
  intro a w hs
  exact FnQ_cast (out := .val (.lit (.int .u64 (IntKind.wrap .u64 (l.getD i.toNat (dflt (.int .u32))))))) (by rw [wrapU64 (ha.at _).1 (by have := (ha.at i.toNat).2; omega)]; rfl) (ret_ok [] hs ⟨by kernel_rfl, rfl⟩)
 ·skip
  have n1 := of_decide_eq_false b1
  refine way_L (tt := tt) (rs := []) (bs := [false]) (tk := [4]) (bk := []) (C := (True ∧ True) ∧ ((tr 4 True) ∧ ((decide (i < (l.length : Int))) = false) ∧ True) ∧ (True ∧ True) ∧ True) (lv := .ret) (T' := [(4, .lit (.int .u64 0))]) (B' := []) mix hI hs ?_ ?_ ?_ ?_
  ·exact trivial
  ·kernel_rfl
  ·exact ⟨⟨trivial, trivial⟩, ⟨tr_mk trivial 4, b1, trivial⟩, ⟨trivial, trivial⟩, trivial⟩
  intro a w hs
  exact FnQ_cast (out := .val (.lit (.int .u64 0))) (by rw [rd_ge (by omega)]) (ret_ok [] hs ⟨by kernel_rfl, rfl⟩)
set_option maxRecDepth 100000 in
theorem con124 (xs ys : List Int) (ha : Ok xs) (hb : Ok ys) (hl : xs.length < 1000000000) (hm : ys.length < 1000000000) : Con Tryz.prog I0 124 [.row (.int .u32) xs, .row (.int .u32) ys] (.val (vi (cmpV (val xs) (val ys)))) := by
 refine con_of Tryz.func124 rfl (Nat.le_of_ble_eq_true rfl) stab (fun w0 fz a hI hs => ?_)
 refine wp_seq ?_
 refine way_L (tt := tt) (rs := []) (bs := []) (tk := [0, 1]) (bk := []) (C := True ∧ True) (lv := .norm) (T' := [(0, .row (.int .u32) xs), (1, .row (.int .u32) ys)]) (B' := []) mix hI hs ?_ ?_ ?_ ?_
 ·exact trivial
 ·kernel_rfl
 ·exact ⟨trivial, trivial⟩
 intro a w hs
 refine then_norm ?_
 refine wp_seq ?_
 refine wp_seq ?_
 refine way_L (tt := tt) (rs := []) (bs := []) (tk := [0, 1, 5]) (bk := []) (C := tr 5 ((InR .i64 ((max (xs.length : Int) (ys.length : Int)) - 1)) ∧ True ∧ True)) (lv := .norm) (T' := [(0, .row (.int .u32) xs), (1, .row (.int .u32) ys), (5, vi ((max (xs.length : Int) (ys.length : Int)) - 1))]) (B' := []) mix hI hs ?_ ?_ ?_ ?_
 ·exact trivial
 ·kernel_rfl
 ·exact tr_mk (⟨(inR64 (by omega) (by omega)), ⟨trivial, trivial⟩⟩) 5
 intro a w hs
 refine then_norm ?_
 refine wp_block ?_
 refine loop_L (N := Tryz.f124.ntmps) (w0 := w0) (ow := noO fz) (α := Nat) (fun p => [(0, .row (.int .u32) xs), (1, .row (.int .u32) ys), (5, vi (((p : Nat) : Int) - 1))]) (fun p => []) (fun p => val (xs.drop p) = val (ys.drop p) ∧ p ≤ max xs.length ys.length) (fun p => p) (max xs.length ys.length) ?_ ?_ ?_
 ·exact ⟨by rw [List.drop_of_length_le (by omega), List.drop_of_length_le (by omega)], Nat.le_refl _⟩
 ·(have e0_ : ((max (xs.length : Int) (ys.length : Int)) - 1) = ((((max xs.length ys.length) : Nat) : Int) - 1) := (by first | rfl | (omega)); exact (SimL.cast hs (T' := [(0, .row (.int .u32) xs), (1, .row (.int .u32) ys), (5, vi ((((max xs.length ys.length) : Nat) : Int) - 1))]) (B' := []) (by first | rfl | (rw [e0_]; done) | (simp only [e0_]; done) | (simp only [e0_]; rfl)) (by first | rfl | (rw [e0_]; done) | (simp only [e0_]; done) | (simp only [e0_]; rfl))).ren [] (by kernel_rfl) (by kernel_rfl) (by kernel_rfl))
 rintro k hJ a w hs
 obtain ⟨hj, hk⟩ := hJ
 rcases Bool.eq_false_or_eq_true (decide ((((k : Nat) : Int) - 1) ≥ 0)) with b1 | b1
 ·skip
  have n1 := of_decide_eq_true b1
  rcases Bool.eq_false_or_eq_true (decide ((rd xs (((k : Nat) : Int) - 1)) < (rd ys (((k : Nat) : Int) - 1)))) with b2 | b2
  ·skip
   have n2 := of_decide_eq_true b2
   refine way_L (tt := tt) (rs := [(4, ⟨[(2, ciA 175 [.row (.int .u32) xs, vi (((k : Nat) : Int) - 1)] [] [] (.val (.lit (.int .u64 (rd xs (((k : Nat) : Int) - 1)))))), (5, ciA 175 [.row (.int .u32) ys, vi (((k : Nat) : Int) - 1)] [] [] (.val (.lit (.int .u64 (rd ys (((k : Nat) : Int) - 1))))))], [], []⟩)]) (bs := [true, true]) (tk := [4]) (bk := []) (C := ((True ∧ True ∧ True) ∧ ((decide ((((k : Nat) : Int) - 1) ≥ 0)) = true) ∧ True) ∧ (True ∧ True ∧ (okArgs [.row (.int .u32) xs, vi (((k : Nat) : Int) - 1)]) ∧ True ∧ True ∧ (okArgs [.row (.int .u32) ys, vi (((k : Nat) : Int) - 1)]) ∧ True ∧ True) ∧ ((decide ((rd xs (((k : Nat) : Int) - 1)) < (rd ys (((k : Nat) : Int) - 1)))) = true) ∧ (True ∧ True) ∧ True) (lv := .ret) (T' := [(4, vi (-1))]) (B' := []) mix hI hs ?_ ?_ ?_ ?_
   ·exact ⟨⟨⟨ent175, con175 _ _ (by assumption) (by omega)⟩, ⟨ent175, con175 _ _ (by assumption) (by omega)⟩, trivial⟩, trivial⟩
   ·kernel_rfl
   ·exact ⟨⟨⟨trivial, trivial, trivial⟩, b1, trivial⟩, ⟨trivial, trivial, rfl, trivial, trivial, rfl, trivial, trivial⟩, b2, ⟨trivial, trivial⟩, trivial⟩
   intro a w hs
   refine then_ret ?_
   refine inb_ret ?_
   refine then_ret ?_
   exact FnQ_cast (out := .val (vi (-1))) (by obtain ⟨j, rfl⟩ : ∃ j, k = j + 1 := ⟨k - 1, by omega⟩; have e1 : (((j + 1 : Nat) : Int) - 1) = (j : Int) := (by omega); have h1 := of_decide_eq_true b2; rw [e1] at h1; have := cmp_lt ha hb hj h1; unfold cmpV; rw [if_pos this]) (ret_ok [] hs ⟨by kernel_rfl, rfl⟩)
  ·skip
   have n2 := of_decide_eq_false b2
   rcases Bool.eq_false_or_eq_true (decide ((rd xs (((k : Nat) : Int) - 1)) > (rd ys (((k : Nat) : Int) - 1)))) with b3 | b3
   ·skip
    have n3 := of_decide_eq_true b3
    refine way_L (tt := tt) (rs := [(4, ⟨[(2, ciA 175 [.row (.int .u32) xs, vi (((k : Nat) : Int) - 1)] [] [] (.val (.lit (.int .u64 (rd xs (((k : Nat) : Int) - 1)))))), (5, ciA 175 [.row (.int .u32) ys, vi (((k : Nat) : Int) - 1)] [] [] (.val (.lit (.int .u64 (rd ys (((k : Nat) : Int) - 1))))))], [], []⟩), (6, ⟨[(2, ciA 175 [.row (.int .u32) xs, vi (((k : Nat) : Int) - 1)] [] [] (.val (.lit (.int .u64 (rd xs (((k : Nat) : Int) - 1)))))), (5, ciA 175 [.row (.int .u32) ys, vi (((k : Nat) : Int) - 1)] [] [] (.val (.lit (.int .u64 (rd ys (((k : Nat) : Int) - 1))))))], [], []⟩)]) (bs := [true, false, true]) (tk := [4]) (bk := []) (C := ((True ∧ True ∧ True) ∧ ((decide ((((k : Nat) : Int) - 1) ≥ 0)) = true) ∧ True) ∧ ((True ∧ True ∧ (okArgs [.row (.int .u32) xs, vi (((k : Nat) : Int) - 1)]) ∧ True ∧ True ∧ (okArgs [.row (.int .u32) ys, vi (((k : Nat) : Int) - 1)]) ∧ True ∧ True) ∧ ((decide ((rd xs (((k : Nat) : Int) - 1)) < (rd ys (((k : Nat) : Int) - 1)))) = false) ∧ True) ∧ (True ∧ True ∧ (okArgs [.row (.int .u32) xs, vi (((k : Nat) : Int) - 1)]) ∧ True ∧ True ∧ (okArgs [.row (.int .u32) ys, vi (((k : Nat) : Int) - 1)]) ∧ True ∧ True) ∧ ((decide ((rd xs (((k : Nat) : Int) - 1)) > (rd ys (((k : Nat) : Int) - 1)))) = true) ∧ (True ∧ True) ∧ True) (lv := .ret) (T' := [(4, vi 1)]) (B' := []) mix hI hs ?_ ?_ ?_ ?_
    ·exact ⟨⟨⟨ent175, con175 _ _ (by assumption) (by omega)⟩, ⟨ent175, con175 _ _ (by assumption) (by omega)⟩, trivial⟩, ⟨⟨ent175, con175 _ _ (by assumption) (by omega)⟩, ⟨ent175, con175 _ _ (by assumption) (by omega)⟩, trivial⟩, trivial⟩
    ·kernel_rfl
    ·exact ⟨⟨⟨trivial, trivial, trivial⟩, b1, trivial⟩, ⟨⟨trivial, trivial, rfl, trivial, trivial, rfl, trivial, trivial⟩, b2, trivial⟩, ⟨trivial, trivial, rfl, trivial, trivial, rfl, trivial, trivial⟩, b3, ⟨trivial, trivial⟩, trivial⟩
    intro a w hs
    refine then_ret ?_
    refine inb_ret ?_
    refine then_ret ?_
    exact FnQ_cast (out := .val (vi 1)) (by obtain ⟨j, rfl⟩ : ∃ j, k = j + 1 := ⟨k - 1, by omega⟩; have e1 : (((j + 1 : Nat) : Int) - 1) = (j : Int) := (by omega); have h1 := of_decide_eq_true b3; rw [e1] at h1; have := cmp_lt hb ha hj.symm h1; unfold cmpV; rw [if_neg (by omega), if_pos this]) (ret_ok [] hs ⟨by kernel_rfl, rfl⟩)
   ·skip
    have n3 := of_decide_eq_false b3
    refine way_L (tt := tt) (rs := [(4, ⟨[(2, ciA 175 [.row (.int .u32) xs, vi (((k : Nat) : Int) - 1)] [] [] (.val (.lit (.int .u64 (rd xs (((k : Nat) : Int) - 1)))))), (5, ciA 175 [.row (.int .u32) ys, vi (((k : Nat) : Int) - 1)] [] [] (.val (.lit (.int .u64 (rd ys (((k : Nat) : Int) - 1))))))], [], []⟩), (6, ⟨[(2, ciA 175 [.row (.int .u32) xs, vi (((k : Nat) : Int) - 1)] [] [] (.val (.lit (.int .u64 (rd xs (((k : Nat) : Int) - 1)))))), (5, ciA 175 [.row (.int .u32) ys, vi (((k : Nat) : Int) - 1)] [] [] (.val (.lit (.int .u64 (rd ys (((k : Nat) : Int) - 1))))))], [], []⟩)]) (bs := [true, false, false]) (tk := [0, 1, 5]) (bk := []) (C := ((True ∧ True ∧ True) ∧ ((decide ((((k : Nat) : Int) - 1) ≥ 0)) = true) ∧ True) ∧ (((True ∧ True ∧ (okArgs [.row (.int .u32) xs, vi (((k : Nat) : Int) - 1)]) ∧ True ∧ True ∧ (okArgs [.row (.int .u32) ys, vi (((k : Nat) : Int) - 1)]) ∧ True ∧ True) ∧ ((decide ((rd xs (((k : Nat) : Int) - 1)) < (rd ys (((k : Nat) : Int) - 1)))) = false) ∧ True) ∧ (True ∧ True ∧ (okArgs [.row (.int .u32) xs, vi (((k : Nat) : Int) - 1)]) ∧ True ∧ True ∧ (okArgs [.row (.int .u32) ys, vi (((k : Nat) : Int) - 1)]) ∧ True ∧ True) ∧ ((decide ((rd xs (((k : Nat) : Int) - 1)) > (rd ys (((k : Nat) : Int) - 1)))) = false) ∧ True) ∧ True ∧ (InR .i64 ((((k : Nat) : Int) - 1) - 1)) ∧ True ∧ True) (lv := .norm) (T' := [(0, .row (.int .u32) xs), (1, .row (.int .u32) ys), (5, vi ((((k : Nat) : Int) - 1) - 1))]) (B' := []) mix hI hs ?_ ?_ ?_ ?_
    ·exact ⟨⟨⟨ent175, con175 _ _ (by assumption) (by omega)⟩, ⟨ent175, con175 _ _ (by assumption) (by omega)⟩, trivial⟩, ⟨⟨ent175, con175 _ _ (by assumption) (by omega)⟩, ⟨ent175, con175 _ _ (by assumption) (by omega)⟩, trivial⟩, trivial⟩
    ·kernel_rfl
    ·exact ⟨⟨⟨trivial, trivial, trivial⟩, b1, trivial⟩, ⟨⟨⟨trivial, trivial, rfl, trivial, trivial, rfl, trivial, trivial⟩, b2, trivial⟩, ⟨trivial, trivial, rfl, trivial, trivial, rfl, trivial, trivial⟩, b3, trivial⟩, trivial, (inR64 (by omega) (by omega)), trivial, trivial⟩
    intro a w hs
    refine then_norm ⟨k - 1, ⟨by obtain ⟨j, rfl⟩ : ∃ j, k = j + 1 := ⟨k - 1, by omega⟩; have e1 : (((j + 1 : Nat) : Int) - 1) = (j : Int) := (by omega); have h1 := of_decide_eq_false b2; have h2 := of_decide_eq_false b3; rw [e1] at h1 h2; show val (xs.drop j) = val (ys.drop j); rw [rd_drop j, rd_drop j, hj, show rd xs j = rd ys j by omega], by omega⟩, by omega, ?_⟩
    (have e0_ : ((((k : Nat) : Int) - 1) - 1) = ((((k - 1) : Nat) : Int) - 1) := (by first | rfl | (omega)); exact (SimL.cast hs (T' := [(0, .row (.int .u32) xs), (1, .row (.int .u32) ys), (5, vi ((((k - 1) : Nat) : Int) - 1))]) (B' := []) (by first | rfl | (rw [e0_]; done) | (simp only [e0_]; done) | (simp only [e0_]; rfl)) (by first | rfl | (rw [e0_]; done) | (simp only [e0_]; done) | (simp only [e0_]; rfl))).ren [] (by kernel_rfl) (by kernel_rfl) (by kernel_rfl))
 ·skip
  have n1 := of_decide_eq_false b1
  refine way_L (tt := tt) (rs := []) (bs := [false]) (tk := []) (bk := []) (C := (True ∧ True ∧ True) ∧ ((decide ((((k : Nat) : Int) - 1) ≥ 0)) = false) ∧ True) (lv := .exit 0) (T' := []) (B' := []) mix hI hs ?_ ?_ ?_ ?_
  ·exact trivial
  ·kernel_rfl
  ·exact ⟨⟨trivial, trivial, trivial⟩, b1, trivial⟩
  intro a w hs
  refine then_exit ?_
  refine inb_hit ?_
  refine then_norm ?_
  refine way_L (tt := tt) (rs := []) (bs := []) (tk := [4]) (bk := []) (C := (True ∧ True) ∧ True) (lv := .ret) (T' := [(4, vi 0)]) (B' := []) mix hI hs ?_ ?_ ?_ ?_
  ·exact trivial
  ·kernel_rfl
  ·exact ⟨⟨trivial, trivial⟩, trivial⟩
  intro a w hs
  exact FnQ_cast (out := .val (vi 0)) (by obtain rfl : k = 0 := (by omega); rw [cmp_eq hj]) (ret_ok [] hs ⟨by kernel_rfl, rfl⟩)
set_option maxRecDepth 100000 in
theorem con218_10 (l : List Int) (ha : Ok l) (hl : l.length < 1000000000) : Con Tryz.prog I0 218 [.row (.int .u32) l, .lit (.int .u32 10)] (.val (.tup [.row (.int .u32) (lim (val l / 10)), .lit (.int .u32 ((val l % 10 : Nat) : Int))])) := by
 refine con_of Tryz.func218 rfl (Nat.le_of_ble_eq_true rfl) stab (fun w0 fz a hI hs => ?_)
 refine wp_seq ?_
 refine way_L (tt := tt) (rs := []) (bs := []) (tk := [0, 1]) (bk := []) (C := True ∧ True ∧ True) (lv := .norm) (T' := [(0, .row (.int .u32) l), (1, .lit (.int .u32 10))]) (B' := []) mix hI hs ?_ ?_ ?_ ?_
 ·exact trivial
 ·kernel_rfl
 ·exact ⟨trivial, trivial, trivial⟩
 intro a w hs
 refine then_norm ?_
 refine wp_seq ?_
 refine way_L (tt := tt) (rs := []) (bs := []) (tk := [0, 1, 6]) (bk := [2002]) (C := True ∧ True ∧ ((l.length : Int) = (l.length : Int) ∧ 0 ≤ (l.length : Int) ∧ (4 : Nat) * (l.length : Int) ≤ 281474976710656 ∧ (l.length : Int) ≤ 9223372036854775807) ∧ True ∧ True) (lv := .norm) (T' := [(0, .row (.int .u32) l), (1, .lit (.int .u32 10)), (6, .own 2002)]) (B' := [(2002, .sl 160 (.int .u32) (List.replicate l.length (dflt (.int .u32))))]) mix hI hs ?_ ?_ ?_ ?_
 ·exact trivial
 ·kernel_rfl
 ·exact ⟨trivial, trivial, (by omega), trivial, trivial⟩
 intro a w hs
 refine then_norm ?_
 refine wp_seq ?_
 refine way_L (tt := tt) (rs := []) (bs := []) (tk := [0, 1, 6, 7]) (bk := [2002]) (C := True ∧ True) (lv := .norm) (T' := [(0, .row (.int .u32) l), (1, .lit (.int .u32 10)), (6, .own 2002), (7, .lit (.int .u64 0))]) (B' := [(2002, .sl 160 (.int .u32) (List.replicate l.length (dflt (.int .u32))))]) mix hI hs ?_ ?_ ?_ ?_
 ·exact trivial
 ·kernel_rfl
 ·exact ⟨trivial, trivial⟩
 intro a w hs
 refine then_norm ?_
 refine wp_seq ?_
 refine wp_seq ?_
 refine way_L (tt := tt) (rs := []) (bs := []) (tk := [0, 1, 6, 7, 8]) (bk := [2002]) (C := True ∧ True ∧ (InR .i64 ((l.length : Int) - 1)) ∧ True ∧ True) (lv := .norm) (T' := [(0, .row (.int .u32) l), (1, .lit (.int .u32 10)), (6, .own 2002), (7, .lit (.int .u64 0)), (8, vi ((l.length : Int) - 1))]) (B' := [(2002, .sl 160 (.int .u32) (List.replicate l.length (dflt (.int .u32))))]) mix hI hs ?_ ?_ ?_ ?_
 ·exact trivial
 ·kernel_rfl
 ·exact ⟨trivial, trivial, (inR64 (by omega) (by omega)), trivial, trivial⟩
 intro a w hs
 refine then_norm ?_
 refine wp_block ?_
 refine loop_L (N := Tryz.f218.ntmps) (w0 := w0) (ow := noO fz) (α := Nat × List Int × Int) (fun p => [(0, .row (.int .u32) l), (1, .lit (.int .u32 10)), (6, .own 90000001), (7, .lit (.int .u64 p.2.2)), (8, vi (((p.1 : Nat) : Int) - 1))]) (fun p => [(90000001, .sl 160 (.int .u32) p.2.1)]) (fun p => SmallJ l 10 p.1 p.2.1 p.2.2) (fun p => p.1) (l.length, List.replicate l.length (dflt (.int .u32)), 0) ?_ ?_ ?_
 ·exact SmallJ.start (by decide)
 ·exact (SimL.cast hs (T' := [(0, .row (.int .u32) l), (1, .lit (.int .u32 10)), (6, .own 2002), (7, .lit (.int .u64 0)), (8, vi (((l.length : Nat) : Int) - 1))]) (B' := [(2002, .sl 160 (.int .u32) (List.replicate l.length (dflt (.int .u32))))]) (by rfl) rfl).ren [(90000001, 2002)] (by kernel_rfl) (by kernel_rfl) (by kernel_rfl)
 rintro ⟨m, out, r⟩ hJ a w hs
 try dsimp only at hJ
 have hm := hJ.le
 have hln := hJ.len
 have hr0 := hJ.r0
 have hr1 := hJ.r1
 rcases Bool.eq_false_or_eq_true (decide ((((m : Nat) : Int) - 1) ≥ 0)) with b1 | b1
 ·skip
  have n1 := of_decide_eq_true b1
  refine way_L (tt := tt) (rs := []) (bs := [true]) (tk := [0, 1, 6, 7, 8]) (bk := [90000001]) (C := ((True ∧ True ∧ True) ∧ ((decide ((((m : Nat) : Int) - 1) ≥ 0)) = true) ∧ True) ∧ ((tr 4 ((0 ≤ (((m : Nat) : Int) - 1) ∧ (((m : Nat) : Int) - 1) < l.length) ∧ (tr 4 True))) ∧ (tr 7 ((0 ≤ (((m : Nat) : Int) - 1) ∧ (((m : Nat) : Int) - 1) < out.length) ∧ ((((m : Nat) : Int) - 1).toNat < out.length) ∧ True)) ∧ (tr 5 True)) ∧ True ∧ (InR .i64 ((((m : Nat) : Int) - 1) - 1)) ∧ True ∧ True) (lv := .norm) (T' := [(0, .row (.int .u32) l), (1, .lit (.int .u32 10)), (6, .own 90000001), (7, .lit (.int .u64 ((IntKind.wrap .u64 ((IntKind.wrap .u64 (r * 2 ^ 32)) + (IntKind.wrap .u64 (l.getD ((((m : Nat) : Int) - 1).toNat) (dflt (.int .u32)))))).tmod 10))), (8, vi ((((m : Nat) : Int) - 1) - 1))]) (B' := [(90000001, .sl 160 (.int .u32) (out.set ((((m : Nat) : Int) - 1).toNat) (IntKind.wrap .u32 (IntKind.wrap .u64 ((IntKind.wrap .u64 ((IntKind.wrap .u64 (r * 2 ^ 32)) + (IntKind.wrap .u64 (l.getD ((((m : Nat) : Int) - 1).toNat) (dflt (.int .u32)))))).tdiv 10)))))]) mix hI hs ?_ ?_ ?_ ?_
  ·exact trivial
  ·kernel_rfl
  ·exact ⟨⟨⟨trivial, trivial, trivial⟩, b1, trivial⟩, ⟨tr_mk (⟨⟨by omega, by omega⟩, tr_mk trivial 4⟩) 4, tr_mk (⟨⟨by omega, by omega⟩, (by omega), trivial⟩) 7, tr_mk trivial 5⟩, trivial, (inR64 (by omega) (by omega)), trivial, trivial⟩
  intro a w hs
  refine then_norm ⟨(m - 1, out.set ((((m : Nat) : Int) - 1).toNat) (IntKind.wrap .u32 (IntKind.wrap .u64 ((IntKind.wrap .u64 ((IntKind.wrap .u64 (r * 2 ^ 32)) + (IntKind.wrap .u64 (l.getD ((((m : Nat) : Int) - 1).toNat) (dflt (.int .u32)))))).tdiv 10))), (IntKind.wrap .u64 ((IntKind.wrap .u64 (r * 2 ^ 32)) + (IntKind.wrap .u64 (l.getD ((((m : Nat) : Int) - 1).toNat) (dflt (.int .u32)))))).tmod 10), (by have h := hJ.step ha (by decide) (by decide) (by omega); have hx := ha.at (((m : Nat) : Int) - 1).toNat; rw [stepX hr0 (by omega) hx.1 hx.2] at h; rw [stepA hr0 (by omega) hx.1 hx.2]; exact h), by omega, ?_⟩
  (have e0_ : ((IntKind.wrap .u64 ((IntKind.wrap .u64 (r * 2 ^ 32)) + (IntKind.wrap .u64 (l.getD ((((m : Nat) : Int) - 1).toNat) (dflt (.int .u32)))))).tmod 10) = (((IntKind.wrap .u64 ((IntKind.wrap .u64 (r * 2 ^ 32)) + (IntKind.wrap .u64 (l.getD ((((m : Nat) : Int) - 1).toNat) (dflt (.int .u32)))))).tmod 10)) := (by first | rfl | (omega)); have e1_ : ((((m : Nat) : Int) - 1) - 1) = ((((m - 1) : Nat) : Int) - 1) := (by first | rfl | (omega)); have e2_ : (out.set ((((m : Nat) : Int) - 1).toNat) (IntKind.wrap .u32 (IntKind.wrap .u64 ((IntKind.wrap .u64 ((IntKind.wrap .u64 (r * 2 ^ 32)) + (IntKind.wrap .u64 (l.getD ((((m : Nat) : Int) - 1).toNat) (dflt (.int .u32)))))).tdiv 10)))) = ((out.set ((((m : Nat) : Int) - 1).toNat) (IntKind.wrap .u32 (IntKind.wrap .u64 ((IntKind.wrap .u64 ((IntKind.wrap .u64 (r * 2 ^ 32)) + (IntKind.wrap .u64 (l.getD ((((m : Nat) : Int) - 1).toNat) (dflt (.int .u32)))))).tdiv 10))))) := (by first | rfl | (omega)); exact (SimL.cast hs (T' := [(0, .row (.int .u32) l), (1, .lit (.int .u32 10)), (6, .own 90000001), (7, .lit (.int .u64 ((IntKind.wrap .u64 ((IntKind.wrap .u64 (r * 2 ^ 32)) + (IntKind.wrap .u64 (l.getD ((((m : Nat) : Int) - 1).toNat) (dflt (.int .u32)))))).tmod 10))), (8, vi ((((m - 1) : Nat) : Int) - 1))]) (B' := [(90000001, .sl 160 (.int .u32) (out.set ((((m : Nat) : Int) - 1).toNat) (IntKind.wrap .u32 (IntKind.wrap .u64 ((IntKind.wrap .u64 ((IntKind.wrap .u64 (r * 2 ^ 32)) + (IntKind.wrap .u64 (l.getD ((((m : Nat) : Int) - 1).toNat) (dflt (.int .u32)))))).tdiv 10)))))]) (by first | rfl | (rw [e0_, e1_, e2_]; done) | (simp only [e0_, e1_, e2_]; done) | (simp only [e0_, e1_, e2_]; rfl)) (by first | rfl | (rw [e0_, e1_, e2_]; done) | (simp only [e0_, e1_, e2_]; done) | (simp only [e0_, e1_, e2_]; rfl))).ren [(90000001, 90000001)] (by kernel_rfl) (by kernel_rfl) (by kernel_rfl))
 ·skip
  have n1 := of_decide_eq_false b1
  refine way_L (tt := tt) (rs := []) (bs := [false]) (tk := [6, 7]) (bk := [90000001]) (C := (True ∧ True ∧ True) ∧ ((decide ((((m : Nat) : Int) - 1) ≥ 0)) = false) ∧ True) (lv := .exit 0) (T' := [(6, .own 90000001), (7, .lit (.int .u64 r))]) (B' := [(90000001, .sl 160 (.int .u32) out)]) mix hI hs ?_ ?_ ?_ ?_
  ·exact trivial
  ·kernel_rfl
  ·exact ⟨⟨trivial, trivial, trivial⟩, b1, trivial⟩
  intro a w hs
  refine then_exit ?_
  refine inb_hit ?_
  refine then_norm ?_
  refine way_L (tt := tt) (rs := [(9, ⟨[(1, ciA 250 [.row (.int .u32) out] [] [90000001] (.own 160 (.int .u32) (trimF out)))], [], []⟩)]) (bs := []) (tk := [4, 5]) (bk := [10001]) (C := (True ∧ (okArgs [.row (.int .u32) out]) ∧ (tr 4 True)) ∧ True) (lv := .ret) (T' := [(4, .own 10001), (5, .lit (.int .u32 (IntKind.wrap .u32 r)))]) (B' := [(10001, .sl 160 (.int .u32) (trimF out))]) mix hI hs ?_ ?_ ?_ ?_
  ·exact ⟨⟨⟨ent250, con250 _ (by have := hJ.len; omega)⟩, trivial⟩, trivial⟩
  ·kernel_rfl
  ·exact ⟨⟨trivial, rfl, tr_mk trivial 4⟩, trivial⟩
  intro a w hs
  exact FnQ_cast (out := .val (.tup [.row (.int .u32) (trimF out), .lit (.int .u32 (IntKind.wrap .u32 r))])) (by obtain rfl : m = 0 := (by omega); obtain ⟨h1, h2⟩ := hJ.stop ha (by decide); rw [h1, wrapU32 hr0 (by omega), h2]; rfl) (ret_ok [10001] hs ⟨by kernel_rfl, rfl⟩)
set_option maxRecDepth 100000 in
theorem con174 (n : Num) (ha : Ok n.m) (hl : n.m.length < 1000000000) : Con Tryz.prog I0 174 [.agg [vb n.neg, .row (.int .u32) n.m, vi n.e]] (.val (vb (checkN n))) := by
 refine con_of Tryz.func174 rfl (Nat.le_of_ble_eq_true rfl) stab (fun w0 fz a hI hs => ?_)
 rcases Bool.eq_false_or_eq_true ((n.m.length : Int) == 0) with b1 | b1
 ·skip
  have n1 := eq_of_beq b1
  rcases Bool.eq_false_or_eq_true (n.neg) with b2 | b2
  ·skip
   refine way_L (tt := tt) (rs := [(3, ⟨[], [(4, false), (5, false), (6, false), (1007, false)], []⟩)]) (bs := [true]) (tk := [2]) (bk := []) (C := (True ∧ True ∧ True) ∧ (tr 4 True) ∧ (True ∧ True ∧ True) ∧ (((n.m.length : Int) == 0) = true) ∧ (tr 4 (((!n.neg) = false) ∧ ((!n.neg) = false) ∧ ((!n.neg) = false) ∧ ((!n.neg) = false) ∧ True ∧ True)) ∧ True) (lv := .ret) (T' := [(2, vb false)]) (B' := []) mix hI hs ?_ ?_ ?_ ?_
   ·exact ⟨trivial, trivial⟩
   ·kernel_rfl
   ·exact ⟨⟨trivial, trivial, trivial⟩, tr_mk trivial 4, ⟨trivial, trivial, trivial⟩, b1, tr_mk (⟨(by rw [b2]; rfl), (by rw [b2]; rfl), (by rw [b2]; rfl), (by rw [b2]; rfl), trivial, trivial⟩) 4, trivial⟩
   intro a w hs
   exact FnQ_cast (out := .val (vb false)) (by rw [checkN, if_pos (by omega), b2]; rfl) (ret_ok [] hs ⟨by kernel_rfl, rfl⟩)
  ·skip
   refine way_L (tt := tt) (rs := [(3, ⟨[], [(4, true), (5, true), (6, true), (1007, true)], []⟩)]) (bs := [true]) (tk := [2]) (bk := []) (C := (True ∧ True ∧ True) ∧ (tr 4 True) ∧ (True ∧ True ∧ True) ∧ (((n.m.length : Int) == 0) = true) ∧ (tr 4 (((!n.neg) = true) ∧ True ∧ ((!n.neg) = true) ∧ True ∧ ((!n.neg) = true) ∧ True ∧ ((!n.neg) = true) ∧ True ∧ True)) ∧ True) (lv := .ret) (T' := [(2, vb (n.e == 0))]) (B' := []) mix hI hs ?_ ?_ ?_ ?_
   ·exact ⟨trivial, trivial⟩
   ·kernel_rfl
   ·exact ⟨⟨trivial, trivial, trivial⟩, tr_mk trivial 4, ⟨trivial, trivial, trivial⟩, b1, tr_mk (⟨(by rw [b2]; rfl), trivial, (by rw [b2]; rfl), trivial, (by rw [b2]; rfl), trivial, (by rw [b2]; rfl), trivial, trivial⟩) 4, trivial⟩
   intro a w hs
   exact FnQ_cast (out := .val (vb (n.e == 0))) (by rw [checkN, if_pos (by omega), b2]; rfl) (ret_ok [] hs ⟨by kernel_rfl, rfl⟩)
 ·skip
  have n1 := beq_eq_false_iff_ne.1 b1
  rcases Bool.eq_false_or_eq_true (decide ((n.m.length : Int) > 90)) with b3 | b3
  ·skip
   have n3 := of_decide_eq_true b3
   refine way_L (tt := tt) (rs := [(4, ⟨[], [(3, false), (4, false), (5, false), (6, false), (7, false), (8, false), (9, false), (1010, true), (12, false), (13, false), (14, false), (1015, true), (17, false), (18, false), (19, false), (1020, true)], []⟩)]) (bs := [false, true]) (tk := [2]) (bk := []) (C := (True ∧ True ∧ True) ∧ (tr 4 True) ∧ ((True ∧ True ∧ True) ∧ (((n.m.length : Int) == 0) = false) ∧ True) ∧ (tr 3 (((decide ((n.m.length : Int) > 90)) = true) ∧ ((decide ((n.m.length : Int) > 90)) = true) ∧ ((decide ((n.m.length : Int) > 90)) = true) ∧ ((decide ((n.m.length : Int) > 90)) = true) ∧ ((decide ((n.m.length : Int) > 90)) = true) ∧ ((decide ((n.m.length : Int) > 90)) = true) ∧ ((decide ((n.m.length : Int) > 90)) = true) ∧ ((decide ((n.m.length : Int) > 90)) = true) ∧ True ∧ (true = true) ∧ (true = true) ∧ (true = true) ∧ (true = true) ∧ True ∧ (true = true) ∧ (true = true) ∧ (true = true) ∧ (true = true) ∧ True)) ∧ (true = true) ∧ (True ∧ True) ∧ True) (lv := .ret) (T' := [(2, vb false)]) (B' := []) mix hI hs ?_ ?_ ?_ ?_
   ·exact ⟨trivial, trivial⟩
   ·kernel_rfl
   ·exact ⟨⟨trivial, trivial, trivial⟩, tr_mk trivial 4, ⟨⟨trivial, trivial, trivial⟩, b1, trivial⟩, tr_mk (⟨b3, b3, b3, b3, b3, b3, b3, b3, trivial, rfl, rfl, rfl, rfl, trivial, rfl, rfl, rfl, rfl, trivial⟩) 3, rfl, ⟨trivial, trivial⟩, trivial⟩
   intro a w hs
   exact FnQ_cast (out := .val (vb false)) (by rw [checkN, if_neg (by omega), if_pos (by omega)]) (ret_ok [] hs ⟨by kernel_rfl, rfl⟩)
  ·skip
   have n3 := of_decide_eq_false b3
   rcases Bool.eq_false_or_eq_true ((n.m.getD (((n.m.length : Int) - 1).toNat) (dflt (.int .u32))) == 0) with b4 | b4
   ·skip
    have n4 := eq_of_beq b4
    refine way_L (tt := tt) (rs := [(4, ⟨[], [(3, true), (4, true), (5, true), (6, true), (7, true), (8, true), (9, true), (1010, false), (12, false), (13, false), (14, false), (1015, true), (17, false), (18, false), (19, false), (1020, true)], []⟩)]) (bs := [false, true]) (tk := [2]) (bk := []) (C := (True ∧ True ∧ True) ∧ (tr 4 True) ∧ ((True ∧ True ∧ True) ∧ (((n.m.length : Int) == 0) = false) ∧ True) ∧ (tr 3 (((decide ((n.m.length : Int) > 90)) = false) ∧ True ∧ ((decide ((n.m.length : Int) > 90)) = false) ∧ True ∧ ((decide ((n.m.length : Int) > 90)) = false) ∧ True ∧ ((decide ((n.m.length : Int) > 90)) = false) ∧ (InR .i64 ((n.m.length : Int) - 1)) ∧ ((decide ((n.m.length : Int) > 90)) = false) ∧ (0 ≤ ((n.m.length : Int) - 1) ∧ ((n.m.length : Int) - 1) < n.m.length) ∧ ((decide ((n.m.length : Int) > 90)) = false) ∧ True ∧ ((decide ((n.m.length : Int) > 90)) = false) ∧ True ∧ ((decide ((n.m.length : Int) > 90)) = false) ∧ True ∧ (((n.m.getD (((n.m.length : Int) - 1).toNat) (dflt (.int .u32))) == 0) = true) ∧ (((n.m.getD (((n.m.length : Int) - 1).toNat) (dflt (.int .u32))) == 0) = true) ∧ (((n.m.getD (((n.m.length : Int) - 1).toNat) (dflt (.int .u32))) == 0) = true) ∧ (((n.m.getD (((n.m.length : Int) - 1).toNat) (dflt (.int .u32))) == 0) = true) ∧ True ∧ (true = true) ∧ (true = true) ∧ (true = true) ∧ (true = true) ∧ True)) ∧ (true = true) ∧ (True ∧ True) ∧ True) (lv := .ret) (T' := [(2, vb false)]) (B' := []) mix hI hs ?_ ?_ ?_ ?_
    ·exact ⟨trivial, trivial⟩
    ·kernel_rfl
    ·exact ⟨⟨trivial, trivial, trivial⟩, tr_mk trivial 4, ⟨⟨trivial, trivial, trivial⟩, b1, trivial⟩, tr_mk (⟨b3, trivial, b3, trivial, b3, trivial, b3, (inR64 (by omega) (by omega)), b3, ⟨by omega, by omega⟩, b3, trivial, b3, trivial, b3, trivial, b4, b4, b4, b4, trivial, rfl, rfl, rfl, rfl, trivial⟩) 3, rfl, ⟨trivial, trivial⟩, trivial⟩
    intro a w hs
    exact FnQ_cast (out := .val (vb false)) (by rw [checkN, if_neg (by omega), if_neg (by omega), if_pos (show rd n.m _ = 0 from eq_of_beq b4)]) (ret_ok [] hs ⟨by kernel_rfl, rfl⟩)
   ·skip
    have n4 := beq_eq_false_iff_ne.1 b4
    rcases Bool.eq_false_or_eq_true (decide (n.e < (-1200))) with b5 | b5
    ·skip
     have n5 := of_decide_eq_true b5
     refine way_L (tt := tt) (rs := [(4, ⟨[], [(3, true), (4, true), (5, true), (6, true), (7, true), (8, true), (9, true), (1010, false), (12, true), (13, true), (14, true), (1015, false), (17, false), (18, false), (19, false), (1020, true)], []⟩)]) (bs := [false, true]) (tk := [2]) (bk := []) (C := (True ∧ True ∧ True) ∧ (tr 4 True) ∧ ((True ∧ True ∧ True) ∧ (((n.m.length : Int) == 0) = false) ∧ True) ∧ (tr 3 (((decide ((n.m.length : Int) > 90)) = false) ∧ True ∧ ((decide ((n.m.length : Int) > 90)) = false) ∧ True ∧ ((decide ((n.m.length : Int) > 90)) = false) ∧ True ∧ ((decide ((n.m.length : Int) > 90)) = false) ∧ (InR .i64 ((n.m.length : Int) - 1)) ∧ ((decide ((n.m.length : Int) > 90)) = false) ∧ (0 ≤ ((n.m.length : Int) - 1) ∧ ((n.m.length : Int) - 1) < n.m.length) ∧ ((decide ((n.m.length : Int) > 90)) = false) ∧ True ∧ ((decide ((n.m.length : Int) > 90)) = false) ∧ True ∧ ((decide ((n.m.length : Int) > 90)) = false) ∧ True ∧ (((n.m.getD (((n.m.length : Int) - 1).toNat) (dflt (.int .u32))) == 0) = false) ∧ True ∧ (((n.m.getD (((n.m.length : Int) - 1).toNat) (dflt (.int .u32))) == 0) = false) ∧ True ∧ (((n.m.getD (((n.m.length : Int) - 1).toNat) (dflt (.int .u32))) == 0) = false) ∧ True ∧ (((n.m.getD (((n.m.length : Int) - 1).toNat) (dflt (.int .u32))) == 0) = false) ∧ True ∧ ((decide (n.e < (-1200))) = true) ∧ ((decide (n.e < (-1200))) = true) ∧ ((decide (n.e < (-1200))) = true) ∧ ((decide (n.e < (-1200))) = true) ∧ True)) ∧ (true = true) ∧ (True ∧ True) ∧ True) (lv := .ret) (T' := [(2, vb false)]) (B' := []) mix hI hs ?_ ?_ ?_ ?_
     ·exact ⟨trivial, trivial⟩
     ·kernel_rfl
     ·exact ⟨⟨trivial, trivial, trivial⟩, tr_mk trivial 4, ⟨⟨trivial, trivial, trivial⟩, b1, trivial⟩, tr_mk (⟨b3, trivial, b3, trivial, b3, trivial, b3, (inR64 (by omega) (by omega)), b3, ⟨by omega, by omega⟩, b3, trivial, b3, trivial, b3, trivial, b4, trivial, b4, trivial, b4, trivial, b4, trivial, b5, b5, b5, b5, trivial⟩) 3, rfl, ⟨trivial, trivial⟩, trivial⟩
     intro a w hs
     exact FnQ_cast (out := .val (vb false)) (by rw [checkN, if_neg (by omega), if_neg (by omega), if_neg (show ¬ rd n.m _ = 0 from beq_eq_false_iff_ne.1 b4), if_pos (by omega)]) (ret_ok [] hs ⟨by kernel_rfl, rfl⟩)
    ·skip
     have n5 := of_decide_eq_false b5
     rcases Bool.eq_false_or_eq_true (decide (n.e > 1200)) with b6 | b6
     ·skip
      have n6 := of_decide_eq_true b6
      refine way_L (tt := tt) (rs := [(4, ⟨[], [(3, true), (4, true), (5, true), (6, true), (7, true), (8, true), (9, true), (1010, false), (12, true), (13, true), (14, true), (1015, false), (17, true), (18, true), (19, true), (1020, false)], []⟩)]) (bs := [false, true]) (tk := [2]) (bk := []) (C := (True ∧ True ∧ True) ∧ (tr 4 True) ∧ ((True ∧ True ∧ True) ∧ (((n.m.length : Int) == 0) = false) ∧ True) ∧ (tr 3 (((decide ((n.m.length : Int) > 90)) = false) ∧ True ∧ ((decide ((n.m.length : Int) > 90)) = false) ∧ True ∧ ((decide ((n.m.length : Int) > 90)) = false) ∧ True ∧ ((decide ((n.m.length : Int) > 90)) = false) ∧ (InR .i64 ((n.m.length : Int) - 1)) ∧ ((decide ((n.m.length : Int) > 90)) = false) ∧ (0 ≤ ((n.m.length : Int) - 1) ∧ ((n.m.length : Int) - 1) < n.m.length) ∧ ((decide ((n.m.length : Int) > 90)) = false) ∧ True ∧ ((decide ((n.m.length : Int) > 90)) = false) ∧ True ∧ ((decide ((n.m.length : Int) > 90)) = false) ∧ True ∧ (((n.m.getD (((n.m.length : Int) - 1).toNat) (dflt (.int .u32))) == 0) = false) ∧ True ∧ (((n.m.getD (((n.m.length : Int) - 1).toNat) (dflt (.int .u32))) == 0) = false) ∧ True ∧ (((n.m.getD (((n.m.length : Int) - 1).toNat) (dflt (.int .u32))) == 0) = false) ∧ True ∧ (((n.m.getD (((n.m.length : Int) - 1).toNat) (dflt (.int .u32))) == 0) = false) ∧ True ∧ ((decide (n.e < (-1200))) = false) ∧ True ∧ ((decide (n.e < (-1200))) = false) ∧ True ∧ ((decide (n.e < (-1200))) = false) ∧ True ∧ ((decide (n.e < (-1200))) = false) ∧ True)) ∧ ((decide (n.e > 1200)) = true) ∧ (True ∧ True) ∧ True) (lv := .ret) (T' := [(2, vb false)]) (B' := []) mix hI hs ?_ ?_ ?_ ?_
      ·exact ⟨trivial, trivial⟩
      ·kernel_rfl
      ·exact ⟨⟨trivial, trivial, trivial⟩, tr_mk trivial 4, ⟨⟨trivial, trivial, trivial⟩, b1, trivial⟩, tr_mk (⟨b3, trivial, b3, trivial, b3, trivial, b3, (inR64 (by omega) (by omega)), b3, ⟨by omega, by omega⟩, b3, trivial, b3, trivial, b3, trivial, b4, trivial, b4, trivial, b4, trivial, b4, trivial, b5, trivial, b5, trivial, b5, trivial, b5, trivial⟩) 3, b6, ⟨trivial, trivial⟩, trivial⟩
      intro a w hs
      exact FnQ_cast (out := .val (vb false)) (by rw [checkN, if_neg (by omega), if_neg (by omega), if_neg (show ¬ rd n.m _ = 0 from beq_eq_false_iff_ne.1 b4), if_neg (by omega), if_pos (by omega)]) (ret_ok [] hs ⟨by kernel_rfl, rfl⟩)
     ·skip
      have n6 := of_decide_eq_false b6
      refine way_L (tt := tt) (rs := [(4, ⟨[], [(3, true), (4, true), (5, true), (6, true), (7, true), (8, true), (9, true), (1010, false), (12, true), (13, true), (14, true), (1015, false), (17, true), (18, true), (19, true), (1020, false)], []⟩), (6, ⟨[(2, ciA 218 [.row (.int .u32) n.m, .lit (.int .u32 10)] [] [] (.val (.tup [.row (.int .u32) (lim (val n.m / 10)), .lit (.int .u32 ((val n.m % 10 : Nat) : Int))])))], [], []⟩)]) (bs := [false, false]) (tk := [2]) (bk := []) (C := (True ∧ True ∧ True) ∧ (tr 4 True) ∧ ((True ∧ True ∧ True) ∧ (((n.m.length : Int) == 0) = false) ∧ True) ∧ ((tr 3 (((decide ((n.m.length : Int) > 90)) = false) ∧ True ∧ ((decide ((n.m.length : Int) > 90)) = false) ∧ True ∧ ((decide ((n.m.length : Int) > 90)) = false) ∧ True ∧ ((decide ((n.m.length : Int) > 90)) = false) ∧ (InR .i64 ((n.m.length : Int) - 1)) ∧ ((decide ((n.m.length : Int) > 90)) = false) ∧ (0 ≤ ((n.m.length : Int) - 1) ∧ ((n.m.length : Int) - 1) < n.m.length) ∧ ((decide ((n.m.length : Int) > 90)) = false) ∧ True ∧ ((decide ((n.m.length : Int) > 90)) = false) ∧ True ∧ ((decide ((n.m.length : Int) > 90)) = false) ∧ True ∧ (((n.m.getD (((n.m.length : Int) - 1).toNat) (dflt (.int .u32))) == 0) = false) ∧ True ∧ (((n.m.getD (((n.m.length : Int) - 1).toNat) (dflt (.int .u32))) == 0) = false) ∧ True ∧ (((n.m.getD (((n.m.length : Int) - 1).toNat) (dflt (.int .u32))) == 0) = false) ∧ True ∧ (((n.m.getD (((n.m.length : Int) - 1).toNat) (dflt (.int .u32))) == 0) = false) ∧ True ∧ ((decide (n.e < (-1200))) = false) ∧ True ∧ ((decide (n.e < (-1200))) = false) ∧ True ∧ ((decide (n.e < (-1200))) = false) ∧ True ∧ ((decide (n.e < (-1200))) = false) ∧ True)) ∧ ((decide (n.e > 1200)) = false) ∧ True) ∧ (True ∧ True ∧ (okArgs [.row (.int .u32) n.m, .lit (.int .u32 10)]) ∧ (tr 5 True)) ∧ (tr 3 True) ∧ True) (lv := .ret) (T' := [(2, vb (((val n.m % 10 : Nat) : Int) != 0))]) (B' := []) mix hI hs ?_ ?_ ?_ ?_
      ·exact ⟨trivial, ⟨⟨ent218, con218_10 _ ha hl⟩, trivial⟩, trivial⟩
      ·kernel_rfl
      ·exact ⟨⟨trivial, trivial, trivial⟩, tr_mk trivial 4, ⟨⟨trivial, trivial, trivial⟩, b1, trivial⟩, ⟨tr_mk (⟨b3, trivial, b3, trivial, b3, trivial, b3, (inR64 (by omega) (by omega)), b3, ⟨by omega, by omega⟩, b3, trivial, b3, trivial, b3, trivial, b4, trivial, b4, trivial, b4, trivial, b4, trivial, b5, trivial, b5, trivial, b5, trivial, b5, trivial⟩) 3, b6, trivial⟩, ⟨trivial, trivial, rfl, tr_mk trivial 5⟩, tr_mk trivial 3, trivial⟩
      intro a w hs
      exact FnQ_cast (out := .val (vb (((val n.m % 10 : Nat) : Int) != 0))) (by rw [checkN, if_neg (by omega), if_neg (by omega), if_neg (show ¬ rd n.m _ = 0 from beq_eq_false_iff_ne.1 b4), if_neg (by omega), if_neg (by omega)]; have e1 : (((val n.m % 10 : Nat) : Int) != 0) = decide (val n.m % 10 ≠ 0) := (by rw [Bool.eq_iff_iff, bne_iff_ne, decide_eq_true_iff]; omega); rw [e1]) (ret_ok [] hs ⟨by kernel_rfl, rfl⟩)
set_option maxRecDepth 100000 in
theorem con123 (n : Num) (ha : Ok n.m) (hl : n.m.length < 1000000000) : Con Tryz.prog I0 123 [.agg [vb n.neg, .row (.int .u32) n.m, vi n.e]] (.val (.agg [vb ((isN n).neg), .row (.int .u32) ((isN n).m), vi ((isN n).e)])) := by
 refine con_of Tryz.func123 rfl (Nat.le_of_ble_eq_true rfl) stab (fun w0 fz a hI hs => ?_)
 rcases Bool.eq_false_or_eq_true (checkN n) with b1 | b1
 ·skip
  refine way_L (tt := tt) (rs := [(1, ⟨[(1, ciA 174 [.agg [vb n.neg, .row (.int .u32) n.m, vi n.e]] [] [] (.val (vb (checkN n))))], [], []⟩)]) (bs := [true]) (tk := [2]) (bk := [1001]) (C := (True ∧ True ∧ True) ∧ (True ∧ (okArgs [.agg [vb n.neg, .row (.int .u32) n.m, vi n.e]]) ∧ True) ∧ ((checkN n) = true) ∧ (True ∧ True ∧ True) ∧ True) (lv := .ret) (T' := [(2, .ptr 1001 0)]) (B' := [(1001, .var [vb n.neg, .row (.int .u32) n.m, vi n.e])]) mix hI hs ?_ ?_ ?_ ?_
  ·exact ⟨⟨⟨ent174, con174 _ ha hl⟩, trivial⟩, trivial⟩
  ·kernel_rfl
  ·exact ⟨⟨trivial, trivial, trivial⟩, ⟨trivial, rfl, trivial⟩, b1, ⟨trivial, trivial, trivial⟩, trivial⟩
  intro a w hs
  exact FnQ_cast (out := .val (.agg [vb n.neg, .row (.int .u32) n.m, vi n.e])) (by rw [isN, if_pos b1]) (ret_ok [] hs ⟨by kernel_rfl, rfl⟩)
 ·skip
  refine way_L (tt := tt) (rs := [(1, ⟨[(1, ciA 174 [.agg [vb n.neg, .row (.int .u32) n.m, vi n.e]] [] [] (.val (vb (checkN n))))], [], []⟩)]) (bs := [false]) (tk := [2]) (bk := [1001]) (C := (True ∧ True ∧ True) ∧ ((True ∧ (okArgs [.agg [vb n.neg, .row (.int .u32) n.m, vi n.e]]) ∧ True) ∧ ((checkN n) = false) ∧ True) ∧ (True ∧ True ∧ True) ∧ True) (lv := .ret) (T' := [(2, .ptr 1001 0)]) (B' := [(1001, .var [vb false, nilv, vi 0])]) mix hI hs ?_ ?_ ?_ ?_
  ·exact ⟨⟨⟨ent174, con174 _ ha hl⟩, trivial⟩, trivial⟩
  ·kernel_rfl
  ·exact ⟨⟨trivial, trivial, trivial⟩, ⟨⟨trivial, rfl, trivial⟩, b1, trivial⟩, ⟨trivial, trivial, trivial⟩, trivial⟩
  intro a w hs
  exact FnQ_cast (out := .val (.agg [vb false, .row (.int .u32) ([]), vi 0])) (by rw [isN, if_neg (by rw [b1]; decide)]) (ret_ok [] hs ⟨by kernel_rfl, rfl⟩)
set_option maxRecDepth 100000 in
theorem con61 (n k : Num) (ha : Ok n.m) (hb : Ok k.m) (hl : n.m.length < 1000000000) (hm : k.m.length < 1000000000) : Con Tryz.prog I0 61 [.agg [vb n.neg, .row (.int .u32) n.m, vi n.e], .agg [vb k.neg, .row (.int .u32) k.m, vi k.e]] (.val (vb (sameN n k))) := by
 refine con_of Tryz.func61 rfl (Nat.le_of_ble_eq_true rfl) stab (fun w0 fz a hI hs => ?_)
 rcases Bool.eq_false_or_eq_true (((isN n).neg) == ((isN k).neg)) with b1 | b1
 ·skip
  have n1 := eq_of_beq b1
  rcases Bool.eq_false_or_eq_true (((isN n).e) == ((isN k).e)) with b2 | b2
  ·skip
   have n2 := eq_of_beq b2
   refine way_L (tt := tt) (rs := [(1, ⟨[(1, ciA 123 [.agg [vb n.neg, .row (.int .u32) n.m, vi n.e]] [] [] (.val (.agg [vb ((isN n).neg), .row (.int .u32) ((isN n).m), vi ((isN n).e)]))), (3, ciA 123 [.agg [vb k.neg, .row (.int .u32) k.m, vi k.e]] [] [] (.val (.agg [vb ((isN k).neg), .row (.int .u32) ((isN k).m), vi ((isN k).e)])))], [], []⟩), (2, ⟨[(17, ciA 124 [.row (.int .u32) ((isN n).m), .row (.int .u32) ((isN k).m)] [] [] (.val (vi (cmpV (val ((isN n).m)) (val ((isN k).m))))))], [(6, true), (7, true), (8, true), (9, true), (10, true), (1011, true), (13, true), (14, true), (15, true), (16, true), (17, true), (18, true), (1019, true)], []⟩)]) (bs := []) (tk := [4]) (bk := []) (C := (tr 3 True) ∧ (True ∧ (okArgs [.agg [vb n.neg, .row (.int .u32) n.m, vi n.e]]) ∧ True ∧ (okArgs [.agg [vb k.neg, .row (.int .u32) k.m, vi k.e]]) ∧ (tr 4 True)) ∧ (tr 6 (((((isN n).neg) == ((isN k).neg)) = true) ∧ True ∧ ((((isN n).neg) == ((isN k).neg)) = true) ∧ True ∧ ((((isN n).neg) == ((isN k).neg)) = true) ∧ True ∧ ((((isN n).neg) == ((isN k).neg)) = true) ∧ True ∧ ((((isN n).neg) == ((isN k).neg)) = true) ∧ True ∧ ((((isN n).neg) == ((isN k).neg)) = true) ∧ True ∧ ((((isN n).e) == ((isN k).e)) = true) ∧ True ∧ ((((isN n).e) == ((isN k).e)) = true) ∧ True ∧ ((((isN n).e) == ((isN k).e)) = true) ∧ True ∧ ((((isN n).e) == ((isN k).e)) = true) ∧ True ∧ ((((isN n).e) == ((isN k).e)) = true) ∧ (okArgs [.row (.int .u32) ((isN n).m), .row (.int .u32) ((isN k).m)]) ∧ ((((isN n).e) == ((isN k).e)) = true) ∧ True ∧ ((((isN n).e) == ((isN k).e)) = true) ∧ True ∧ True)) ∧ True) (lv := .ret) (T' := [(4, vb ((cmpV (val ((isN n).m)) (val ((isN k).m))) == 0))]) (B' := []) mix hI hs ?_ ?_ ?_ ?_
   ·exact ⟨⟨⟨ent123, con123 _ (by assumption) (by assumption)⟩, ⟨ent123, con123 _ (by assumption) (by assumption)⟩, trivial⟩, ⟨⟨ent124, con124 _ _ (isN_ok ha) (isN_ok hb) (isN_len hl) (isN_len hm)⟩, trivial⟩, trivial⟩
   ·kernel_rfl
   ·exact ⟨tr_mk trivial 3, ⟨trivial, rfl, trivial, rfl, tr_mk trivial 4⟩, tr_mk (⟨b1, trivial, b1, trivial, b1, trivial, b1, trivial, b1, trivial, b1, trivial, b2, trivial, b2, trivial, b2, trivial, b2, trivial, b2, rfl, b2, trivial, b2, trivial, trivial⟩) 6, trivial⟩
   intro a w hs
   exact FnQ_cast (out := .val (vb ((cmpV (val ((isN n).m)) (val ((isN k).m))) == 0))) (by simp only [sameN, cmpV_zero, b1, b2]; rfl) (ret_ok [] hs ⟨by kernel_rfl, rfl⟩)
  ·skip
   have n2 := beq_eq_false_iff_ne.1 b2
   refine way_L (tt := tt) (rs := [(1, ⟨[(1, ciA 123 [.agg [vb n.neg, .row (.int .u32) n.m, vi n.e]] [] [] (.val (.agg [vb ((isN n).neg), .row (.int .u32) ((isN n).m), vi ((isN n).e)]))), (3, ciA 123 [.agg [vb k.neg, .row (.int .u32) k.m, vi k.e]] [] [] (.val (.agg [vb ((isN k).neg), .row (.int .u32) ((isN k).m), vi ((isN k).e)])))], [], []⟩), (2, ⟨[], [(6, true), (7, true), (8, true), (9, true), (10, true), (1011, true), (13, false), (14, false), (15, false), (16, false), (17, false), (18, false), (1019, false)], []⟩)]) (bs := []) (tk := [4]) (bk := []) (C := (tr 3 True) ∧ (True ∧ (okArgs [.agg [vb n.neg, .row (.int .u32) n.m, vi n.e]]) ∧ True ∧ (okArgs [.agg [vb k.neg, .row (.int .u32) k.m, vi k.e]]) ∧ (tr 4 True)) ∧ (tr 6 (((((isN n).neg) == ((isN k).neg)) = true) ∧ True ∧ ((((isN n).neg) == ((isN k).neg)) = true) ∧ True ∧ ((((isN n).neg) == ((isN k).neg)) = true) ∧ True ∧ ((((isN n).neg) == ((isN k).neg)) = true) ∧ True ∧ ((((isN n).neg) == ((isN k).neg)) = true) ∧ True ∧ ((((isN n).neg) == ((isN k).neg)) = true) ∧ True ∧ ((((isN n).e) == ((isN k).e)) = false) ∧ ((((isN n).e) == ((isN k).e)) = false) ∧ ((((isN n).e) == ((isN k).e)) = false) ∧ ((((isN n).e) == ((isN k).e)) = false) ∧ ((((isN n).e) == ((isN k).e)) = false) ∧ ((((isN n).e) == ((isN k).e)) = false) ∧ ((((isN n).e) == ((isN k).e)) = false) ∧ True ∧ True)) ∧ True) (lv := .ret) (T' := [(4, vb false)]) (B' := []) mix hI hs ?_ ?_ ?_ ?_
   ·exact ⟨⟨⟨ent123, con123 _ (by assumption) (by assumption)⟩, ⟨ent123, con123 _ (by assumption) (by assumption)⟩, trivial⟩, trivial, trivial⟩
   ·kernel_rfl
   ·exact ⟨tr_mk trivial 3, ⟨trivial, rfl, trivial, rfl, tr_mk trivial 4⟩, tr_mk (⟨b1, trivial, b1, trivial, b1, trivial, b1, trivial, b1, trivial, b1, trivial, b2, b2, b2, b2, b2, b2, b2, trivial, trivial⟩) 6, trivial⟩
   intro a w hs
   exact FnQ_cast (out := .val (vb false)) (by simp only [sameN, b1, b2]; rfl) (ret_ok [] hs ⟨by kernel_rfl, rfl⟩)
 ·skip
  have n1 := beq_eq_false_iff_ne.1 b1
  refine way_L (tt := tt) (rs := [(1, ⟨[(1, ciA 123 [.agg [vb n.neg, .row (.int .u32) n.m, vi n.e]] [] [] (.val (.agg [vb ((isN n).neg), .row (.int .u32) ((isN n).m), vi ((isN n).e)]))), (3, ciA 123 [.agg [vb k.neg, .row (.int .u32) k.m, vi k.e]] [] [] (.val (.agg [vb ((isN k).neg), .row (.int .u32) ((isN k).m), vi ((isN k).e)])))], [], []⟩), (2, ⟨[], [(6, false), (7, false), (8, false), (9, false), (10, false), (1011, false), (13, false), (14, false), (15, false), (16, false), (17, false), (18, false), (1019, false)], []⟩)]) (bs := []) (tk := [4]) (bk := []) (C := (tr 3 True) ∧ (True ∧ (okArgs [.agg [vb n.neg, .row (.int .u32) n.m, vi n.e]]) ∧ True ∧ (okArgs [.agg [vb k.neg, .row (.int .u32) k.m, vi k.e]]) ∧ (tr 4 True)) ∧ (tr 6 (((((isN n).neg) == ((isN k).neg)) = false) ∧ ((((isN n).neg) == ((isN k).neg)) = false) ∧ ((((isN n).neg) == ((isN k).neg)) = false) ∧ ((((isN n).neg) == ((isN k).neg)) = false) ∧ ((((isN n).neg) == ((isN k).neg)) = false) ∧ ((((isN n).neg) == ((isN k).neg)) = false) ∧ True ∧ (false = false) ∧ (false = false) ∧ (false = false) ∧ (false = false) ∧ (false = false) ∧ (false = false) ∧ (false = false) ∧ True ∧ True)) ∧ True) (lv := .ret) (T' := [(4, vb false)]) (B' := []) mix hI hs ?_ ?_ ?_ ?_
  ·exact ⟨⟨⟨ent123, con123 _ (by assumption) (by assumption)⟩, ⟨ent123, con123 _ (by assumption) (by assumption)⟩, trivial⟩, trivial, trivial⟩
  ·kernel_rfl
  ·exact ⟨tr_mk trivial 3, ⟨trivial, rfl, trivial, rfl, tr_mk trivial 4⟩, tr_mk (⟨b1, b1, b1, b1, b1, b1, trivial, rfl, rfl, rfl, rfl, rfl, rfl, rfl, trivial, trivial⟩) 6, trivial⟩
  intro a w hs
  exact FnQ_cast (out := .val (vb false)) (by simp only [sameN, b1]; rfl) (ret_ok [] hs ⟨by kernel_rfl, rfl⟩)
end Go.Proofs.YtondpnipoogoiaaGreatDoor.F
namespace Go.Proofs.YtondpnipoogoiaaGreatDoor.F
open Go Go.RowKit Go.Proofs.Tryz
set_option linter.unusedVariables false
set_option linter.unusedSimpArgs false
mutual
def sameT : Tree → Tree → Bool
  | .mk k b n s ks v, t => if k = t.kind then (if k = 2 then b == t.b else if k = 3 then sameN n t.n else if k = 4 ∨ k = 5 then (s.toList == t.s.toList) else if k = 6 then decide (v.length = t.v.length) && sameL v t.v else if k = 7 then decide (v.length = t.v.length) && (decide (ks.length = t.k.length) && (decide (ks = t.k) && sameL v t.v)) else true) else false
def sameL : List Tree → List Tree → Bool
  | [], _ => true
  | _ :: _, [] => false
  | x :: l, y :: m => sameT x y && sameL l m
end
theorem sameT_eq (t u : Tree) : sameT t u = if t.kind = u.kind then (if t.kind = 2 then t.b == u.b else if t.kind = 3 then sameN t.n u.n else if t.kind = 4 ∨ t.kind = 5 then (t.s.toList == u.s.toList) else if t.kind = 6 then decide (t.v.length = u.v.length) && sameL t.v u.v else if t.kind = 7 then decide (t.v.length = u.v.length) && (decide (t.k.length = u.k.length) && (decide (t.k = u.k) && sameL t.v u.v)) else true) else false := by cases t; rfl
theorem sameL_drop {v m : List Tree} {i : Nat} (hi : i < v.length) (hm : i < m.length) : sameL (v.drop i) (m.drop i) = (sameT (v.getD i (dflt .tree)) (m.getD i (dflt .tree)) && sameL (v.drop (i + 1)) (m.drop (i + 1))) := by
  rw [List.drop_eq_getElem_cons hi, List.drop_eq_getElem_cons hm, sameL]
  have e : v.getD i (dflt .tree) = v[i] := by rw [List.getD_eq_getElem?_getD, List.getElem?_eq_getElem hi]; rfl
  have e' : m.getD i (dflt .tree) = m[i] := by rw [List.getD_eq_getElem?_getD, List.getElem?_eq_getElem hm]; rfl
  rw [e, e']
theorem keys_eq {a b : List ByteArray} (hl : a.length = b.length) (h : ∀ j, j < a.length → a.getD j (dflt .str) = b.getD j (dflt .str)) : a = b := by
  refine List.ext_getElem hl (fun i h1 h2 => ?_)
  have := h i h1
  rw [List.getD_eq_getElem?_getD, List.getD_eq_getElem?_getD, List.getElem?_eq_getElem h1, List.getElem?_eq_getElem h2] at this
  exact this
theorem keys_ne {a b : List ByteArray} {i : Nat} (h : a.getD i (dflt .str) ≠ b.getD i (dflt .str)) : a ≠ b := fun e => h (by rw [e])
set_option maxRecDepth 100000 in
theorem con18_ : ∀ (n : Nat) (t u : Tree), nodes t < n → fineT t → fineT u → Con Tryz.prog I0 18 [.agg (encTree t), .agg (encTree u)] (.val (vb (sameT t u))) := by
 intro n
 induction n
 case zero => intro t u hn; omega
 rename_i n ih
 intro t u hn hft hfu
 obtain ⟨⟨hf1, hf2, hf3, hf4⟩, hf5⟩ := (fine_eq t).1 hft
 obtain ⟨⟨hg1, hg2, hg3, hg4⟩, hg5⟩ := (fine_eq u).1 hfu
 refine con_of Tryz.func18 rfl (Nat.le_of_ble_eq_true rfl) stab (fun w0 fz a hI hs => ?_)
 refine wp_seq ?_
 refine way_L (tt := tt) (rs := []) (bs := []) (tk := [2, 3]) (bk := [1000, 1001]) (C := tr 3 True) (lv := .norm) (T' := [(2, .ptr 1000 0), (3, .ptr 1001 0)]) (B' := [(1000, .var [vi t.kind, vb t.b, vb t.n.neg, .row (.int .u32) t.n.m, vi t.n.e, vs t.s, .row .str t.k, .row .tree t.v]), (1001, .var [vi u.kind, vb u.b, vb u.n.neg, .row (.int .u32) u.n.m, vi u.n.e, vs u.s, .row .str u.k, .row .tree u.v])]) mix hI hs ?_ ?_ ?_ ?_
 ·exact trivial
 ·kernel_rfl
 ·exact tr_mk trivial 3
 intro a w hs
 refine then_norm ?_
 refine wp_seq ?_
 rcases Bool.eq_false_or_eq_true (t.kind != u.kind) with b1 | b1
 ·skip
  have n1 := bne_iff_ne.1 b1
  refine way_L (tt := tt) (rs := []) (bs := [true]) (tk := [4]) (bk := []) (C := (tr 5 True) ∧ ((t.kind != u.kind) = true) ∧ (True ∧ True) ∧ True) (lv := .ret) (T' := [(4, vb false)]) (B' := []) mix hI hs ?_ ?_ ?_ ?_
  ·exact trivial
  ·kernel_rfl
  ·exact ⟨tr_mk trivial 5, b1, ⟨trivial, trivial⟩, trivial⟩
  intro a w hs
  refine then_ret ?_
  exact FnQ_cast (out := .val (vb false)) (by rw [sameT_eq]; (repeat (first | rw [if_pos (by omega)] | rw [if_neg (by omega)]))) (ret_ok [] hs ⟨by kernel_rfl, rfl⟩)
 ·skip
  have n1 := bne_eq_false_iff_eq.1 b1
  refine way_L (tt := tt) (rs := []) (bs := [false]) (tk := [2, 3]) (bk := [1000, 1001]) (C := (tr 5 True) ∧ ((t.kind != u.kind) = false) ∧ True) (lv := .norm) (T' := [(2, .ptr 1000 0), (3, .ptr 1001 0)]) (B' := [(1000, .var [vi t.kind, vb t.b, vb t.n.neg, .row (.int .u32) t.n.m, vi t.n.e, vs t.s, .row .str t.k, .row .tree t.v]), (1001, .var [vi u.kind, vb u.b, vb u.n.neg, .row (.int .u32) u.n.m, vi u.n.e, vs u.s, .row .str u.k, .row .tree u.v])]) mix hI hs ?_ ?_ ?_ ?_
  ·exact trivial
  ·kernel_rfl
  ·exact ⟨tr_mk trivial 5, b1, trivial⟩
  intro a w hs
  refine then_norm ?_
  refine wp_seq ?_
  refine wp_seq ?_
  refine way_L (tt := tt) (rs := []) (bs := []) (tk := [2, 3, 13]) (bk := [1000, 1001]) (C := True ∧ True ∧ True) (lv := .norm) (T' := [(2, .ptr 1000 0), (3, .ptr 1001 0), (13, vi t.kind)]) (B' := [(1000, .var [vi t.kind, vb t.b, vb t.n.neg, .row (.int .u32) t.n.m, vi t.n.e, vs t.s, .row .str t.k, .row .tree t.v]), (1001, .var [vi u.kind, vb u.b, vb u.n.neg, .row (.int .u32) u.n.m, vi u.n.e, vs u.s, .row .str u.k, .row .tree u.v])]) mix hI hs ?_ ?_ ?_ ?_
  ·exact trivial
  ·kernel_rfl
  ·exact ⟨trivial, trivial, trivial⟩
  intro a w hs
  refine then_norm ?_
  refine wp_block ?_
  refine wp_seq ?_
  refine way_L (tt := tt) (rs := []) (bs := []) (tk := [2, 3, 13, 14]) (bk := [1000, 1001]) (C := True ∧ True ∧ True) (lv := .norm) (T' := [(2, .ptr 1000 0), (3, .ptr 1001 0), (13, vi t.kind), (14, vb (t.kind == 2))]) (B' := [(1000, .var [vi t.kind, vb t.b, vb t.n.neg, .row (.int .u32) t.n.m, vi t.n.e, vs t.s, .row .str t.k, .row .tree t.v]), (1001, .var [vi u.kind, vb u.b, vb u.n.neg, .row (.int .u32) u.n.m, vi u.n.e, vs u.s, .row .str u.k, .row .tree u.v])]) mix hI hs ?_ ?_ ?_ ?_
  ·exact trivial
  ·kernel_rfl
  ·exact ⟨trivial, trivial, trivial⟩
  intro a w hs
  refine then_norm ?_
  refine cond_L (c := 14) hs (b := t.kind == 2) rfl (fun hb => ?_) (fun hb => ?_)
  ·have b2 := hb
   clear hb
   have n2 := eq_of_beq b2
   refine way_L (tt := tt) (rs := []) (bs := []) (tk := [4]) (bk := []) (C := (tr 6 True) ∧ True) (lv := .ret) (T' := [(4, vb (t.b == u.b))]) (B' := []) mix hI hs ?_ ?_ ?_ ?_
   ·exact trivial
   ·kernel_rfl
   ·exact ⟨tr_mk trivial 6, trivial⟩
   intro a w hs
   refine inb_ret ?_
   refine then_ret ?_
   exact FnQ_cast (out := .val (vb (t.b == u.b))) (by rw [sameT_eq]; (repeat (first | rw [if_pos (by omega)] | rw [if_neg (by omega)]))) (ret_ok [] hs ⟨by kernel_rfl, rfl⟩)
  ·have b3 := hb
   clear hb
   have n3 := beq_eq_false_iff_ne.1 b3
   refine wp_seq ?_
   refine way_L (tt := tt) (rs := []) (bs := []) (tk := [2, 3, 13, 21]) (bk := [1000, 1001]) (C := True ∧ True ∧ True) (lv := .norm) (T' := [(2, .ptr 1000 0), (3, .ptr 1001 0), (13, vi t.kind), (21, vb (t.kind == 3))]) (B' := [(1000, .var [vi t.kind, vb t.b, vb t.n.neg, .row (.int .u32) t.n.m, vi t.n.e, vs t.s, .row .str t.k, .row .tree t.v]), (1001, .var [vi u.kind, vb u.b, vb u.n.neg, .row (.int .u32) u.n.m, vi u.n.e, vs u.s, .row .str u.k, .row .tree u.v])]) mix hI hs ?_ ?_ ?_ ?_
   ·exact trivial
   ·kernel_rfl
   ·exact ⟨trivial, trivial, trivial⟩
   intro a w hs
   refine then_norm ?_
   refine cond_L (c := 21) hs (b := t.kind == 3) rfl (fun hb => ?_) (fun hb => ?_)
   ·have b4 := hb
    clear hb
    have n4 := eq_of_beq b4
    refine way_L (tt := tt) (rs := [(7, ⟨[(4, ciA 61 [.agg [vb t.n.neg, .row (.int .u32) t.n.m, vi t.n.e], .agg [vb u.n.neg, .row (.int .u32) u.n.m, vi u.n.e]] [] [] (.val (vb (sameN t.n u.n))))], [], []⟩)]) (bs := []) (tk := [4]) (bk := []) (C := (tr 4 ((okArgs [.agg [vb t.n.neg, .row (.int .u32) t.n.m, vi t.n.e], .agg [vb u.n.neg, .row (.int .u32) u.n.m, vi u.n.e]]) ∧ True ∧ True)) ∧ True) (lv := .ret) (T' := [(4, vb (sameN t.n u.n))]) (B' := []) mix hI hs ?_ ?_ ?_ ?_
    ·exact ⟨⟨⟨ent61, con61 _ _ hf1 hg1 hf2 hg2⟩, trivial⟩, trivial⟩
    ·kernel_rfl
    ·exact ⟨tr_mk (⟨rfl, trivial, trivial⟩) 4, trivial⟩
    intro a w hs
    refine inb_ret ?_
    refine then_ret ?_
    exact FnQ_cast (out := .val (vb (sameN t.n u.n))) (by rw [sameT_eq]; (repeat (first | rw [if_pos (by omega)] | rw [if_neg (by omega)]))) (ret_ok [] hs ⟨by kernel_rfl, rfl⟩)
   ·have b5 := hb
    clear hb
    have n5 := beq_eq_false_iff_ne.1 b5
    refine wp_seq ?_
    rcases Bool.eq_false_or_eq_true (t.kind == 4) with b6 | b6
    ·skip
     have n6 := eq_of_beq b6
     refine way_L (tt := tt) (rs := []) (bs := [true]) (tk := [2, 3, 13, 28]) (bk := [1000, 1001]) (C := (True ∧ True ∧ True) ∧ ((t.kind == 4) = true) ∧ True) (lv := .norm) (T' := [(2, .ptr 1000 0), (3, .ptr 1001 0), (13, vi t.kind), (28, vb (t.kind == 4))]) (B' := [(1000, .var [vi t.kind, vb t.b, vb t.n.neg, .row (.int .u32) t.n.m, vi t.n.e, vs t.s, .row .str t.k, .row .tree t.v]), (1001, .var [vi u.kind, vb u.b, vb u.n.neg, .row (.int .u32) u.n.m, vi u.n.e, vs u.s, .row .str u.k, .row .tree u.v])]) mix hI hs ?_ ?_ ?_ ?_
     ·exact trivial
     ·kernel_rfl
     ·exact ⟨⟨trivial, trivial, trivial⟩, b6, trivial⟩
     intro a w hs
     refine then_norm ?_
     refine cond_L (c := 28) hs (b := t.kind == 4) rfl (fun hb => ?_) (fun hb => ?_)
     ·have b7 := hb
      clear hb
      have n7 := eq_of_beq b7
      refine way_L (tt := tt) (rs := []) (bs := []) (tk := [4]) (bk := []) (C := (tr 6 True) ∧ True) (lv := .ret) (T' := [(4, vb (t.s.toList == u.s.toList))]) (B' := []) mix hI hs ?_ ?_ ?_ ?_
      ·exact trivial
      ·kernel_rfl
      ·exact ⟨tr_mk trivial 6, trivial⟩
      intro a w hs
      refine inb_ret ?_
      refine then_ret ?_
      exact FnQ_cast (out := .val (vb (t.s.toList == u.s.toList))) (by rw [sameT_eq]; (repeat (first | rw [if_pos (by omega)] | rw [if_neg (by omega)]))) (ret_ok [] hs ⟨by kernel_rfl, rfl⟩)
     ·exact absurd ((show (t.kind == 4) = true by exact b6).symm.trans hb) (by decide)
    ·skip
     have n6 := beq_eq_false_iff_ne.1 b6
     refine way_L (tt := tt) (rs := []) (bs := [false]) (tk := [2, 3, 13, 28]) (bk := [1000, 1001]) (C := (True ∧ True ∧ True) ∧ ((t.kind == 4) = false) ∧ True ∧ True ∧ True) (lv := .norm) (T' := [(2, .ptr 1000 0), (3, .ptr 1001 0), (13, vi t.kind), (28, vb (t.kind == 5))]) (B' := [(1000, .var [vi t.kind, vb t.b, vb t.n.neg, .row (.int .u32) t.n.m, vi t.n.e, vs t.s, .row .str t.k, .row .tree t.v]), (1001, .var [vi u.kind, vb u.b, vb u.n.neg, .row (.int .u32) u.n.m, vi u.n.e, vs u.s, .row .str u.k, .row .tree u.v])]) mix hI hs ?_ ?_ ?_ ?_
     ·exact trivial
     ·kernel_rfl
     ·exact ⟨⟨trivial, trivial, trivial⟩, b6, trivial, trivial, trivial⟩
     intro a w hs
     refine then_norm ?_
     refine cond_L (c := 28) hs (b := t.kind == 5) rfl (fun hb => ?_) (fun hb => ?_)
     ·have b9 := hb
      clear hb
      have n9 := eq_of_beq b9
      refine way_L (tt := tt) (rs := []) (bs := []) (tk := [4]) (bk := []) (C := (tr 6 True) ∧ True) (lv := .ret) (T' := [(4, vb (t.s.toList == u.s.toList))]) (B' := []) mix hI hs ?_ ?_ ?_ ?_
      ·exact trivial
      ·kernel_rfl
      ·exact ⟨tr_mk trivial 6, trivial⟩
      intro a w hs
      refine inb_ret ?_
      refine then_ret ?_
      exact FnQ_cast (out := .val (vb (t.s.toList == u.s.toList))) (by rw [sameT_eq]; (repeat (first | rw [if_pos (by omega)] | rw [if_neg (by omega)]))) (ret_ok [] hs ⟨by kernel_rfl, rfl⟩)
     ·have b10 := hb
      clear hb
      have n10 := beq_eq_false_iff_ne.1 b10
      refine wp_seq ?_
      rcases Bool.eq_false_or_eq_true (t.kind == 6) with b11 | b11
      ·skip
       have n11 := eq_of_beq b11
       refine way_L (tt := tt) (rs := []) (bs := [true]) (tk := [2, 3, 36]) (bk := [1000, 1001]) (C := (True ∧ True ∧ True) ∧ ((t.kind == 6) = true) ∧ True) (lv := .norm) (T' := [(2, .ptr 1000 0), (3, .ptr 1001 0), (36, vb (t.kind == 6))]) (B' := [(1000, .var [vi t.kind, vb t.b, vb t.n.neg, .row (.int .u32) t.n.m, vi t.n.e, vs t.s, .row .str t.k, .row .tree t.v]), (1001, .var [vi u.kind, vb u.b, vb u.n.neg, .row (.int .u32) u.n.m, vi u.n.e, vs u.s, .row .str u.k, .row .tree u.v])]) mix hI hs ?_ ?_ ?_ ?_
       ·exact trivial
       ·kernel_rfl
       ·exact ⟨⟨trivial, trivial, trivial⟩, b11, trivial⟩
       intro a w hs
       refine then_norm ?_
       refine cond_L (c := 36) hs (b := t.kind == 6) rfl (fun hb => ?_) (fun hb => ?_)
       ·have b12 := hb
        clear hb
        have n12 := eq_of_beq b12
        refine wp_seq ?_
        rcases Bool.eq_false_or_eq_true ((t.v.length : Int) != (u.v.length : Int)) with b13 | b13
        ·skip
         have n13 := bne_iff_ne.1 b13
         refine way_L (tt := tt) (rs := [(13, ⟨[], [(8, false), (9, false), (10, false), (11, false), (19, false), (1020, true)], []⟩)]) (bs := [true]) (tk := [4]) (bk := []) (C := (tr 8 ((((t.v.length : Int) != (u.v.length : Int)) = true) ∧ (((t.v.length : Int) != (u.v.length : Int)) = true) ∧ (((t.v.length : Int) != (u.v.length : Int)) = true) ∧ (((t.v.length : Int) != (u.v.length : Int)) = true) ∧ (tr 7 ((((t.v.length : Int) != (u.v.length : Int)) = true) ∧ (((t.v.length : Int) != (u.v.length : Int)) = true) ∧ True)))) ∧ (true = true) ∧ (True ∧ True) ∧ True) (lv := .ret) (T' := [(4, vb false)]) (B' := []) mix hI hs ?_ ?_ ?_ ?_
         ·exact ⟨trivial, trivial⟩
         ·kernel_rfl
         ·exact ⟨tr_mk (⟨b13, b13, b13, b13, tr_mk (⟨b13, b13, trivial⟩) 7⟩) 8, rfl, ⟨trivial, trivial⟩, trivial⟩
         intro a w hs
         refine then_ret ?_
         refine inb_ret ?_
         refine then_ret ?_
         exact FnQ_cast (out := .val (vb false)) (by rw [sameT_eq]; (repeat (first | rw [if_pos (by omega)] | rw [if_neg (by omega)])); rw [decide_eq_false (by omega)]; rfl) (ret_ok [] hs ⟨by kernel_rfl, rfl⟩)
        ·skip
         have n13 := bne_eq_false_iff_eq.1 b13
         have b14 : (t.kind == 7) = false := by rw [show t.kind = 6 from eq_of_beq b11]; rfl
         refine way_L (tt := tt) (rs := [(13, ⟨[], [(8, true), (9, true), (10, true), (11, true), (12, false), (13, false), (14, false), (15, false), (16, false), (17, false), (18, false), (19, true), (1019, false), (1020, false)], []⟩)]) (bs := [false]) (tk := [2, 3]) (bk := [1000, 1001]) (C := (tr 8 ((((t.v.length : Int) != (u.v.length : Int)) = false) ∧ True ∧ (((t.v.length : Int) != (u.v.length : Int)) = false) ∧ True ∧ (((t.v.length : Int) != (u.v.length : Int)) = false) ∧ True ∧ (((t.v.length : Int) != (u.v.length : Int)) = false) ∧ True ∧ ((t.kind == 7) = false) ∧ ((t.kind == 7) = false) ∧ ((t.kind == 7) = false) ∧ ((t.kind == 7) = false) ∧ ((t.kind == 7) = false) ∧ ((t.kind == 7) = false) ∧ ((t.kind == 7) = false) ∧ (((t.v.length : Int) != (u.v.length : Int)) = false) ∧ ((t.kind == 7) = false) ∧ (((t.v.length : Int) != (u.v.length : Int)) = false) ∧ True)) ∧ (false = false) ∧ True) (lv := .norm) (T' := [(2, .ptr 1000 0), (3, .ptr 1001 0)]) (B' := [(1000, .var [vi t.kind, vb t.b, vb t.n.neg, .row (.int .u32) t.n.m, vi t.n.e, vs t.s, .row .str t.k, .row .tree t.v]), (1001, .var [vi u.kind, vb u.b, vb u.n.neg, .row (.int .u32) u.n.m, vi u.n.e, vs u.s, .row .str u.k, .row .tree u.v])]) mix hI hs ?_ ?_ ?_ ?_
         ·exact ⟨trivial, trivial⟩
         ·kernel_rfl
         ·exact ⟨tr_mk (⟨b13, trivial, b13, trivial, b13, trivial, b13, trivial, b14, b14, b14, b14, b14, b14, b14, b13, b14, b13, trivial⟩) 8, rfl, trivial⟩
         intro a w hs
         refine then_norm ?_
         refine wp_seq ?_
         refine wp_seq ?_
         refine way_L (tt := tt) (rs := []) (bs := []) (tk := [2, 3, 5]) (bk := [1000, 1001]) (C := True ∧ True) (lv := .norm) (T' := [(2, .ptr 1000 0), (3, .ptr 1001 0), (5, vi 0)]) (B' := [(1000, .var [vi t.kind, vb t.b, vb t.n.neg, .row (.int .u32) t.n.m, vi t.n.e, vs t.s, .row .str t.k, .row .tree t.v]), (1001, .var [vi u.kind, vb u.b, vb u.n.neg, .row (.int .u32) u.n.m, vi u.n.e, vs u.s, .row .str u.k, .row .tree u.v])]) mix hI hs ?_ ?_ ?_ ?_
         ·exact trivial
         ·kernel_rfl
         ·exact ⟨trivial, trivial⟩
         intro a w hs
         refine then_norm ?_
         refine wp_block ?_
         refine loop_L (N := Tryz.f18.ntmps) (w0 := w0) (ow := noO fz) (α := Nat) (fun p => [(2, .ptr 1000 0), (3, .ptr 1001 0), (5, vi ((p : Nat) : Int))]) (fun p => [(1000, .var [vi t.kind, vb t.b, vb t.n.neg, .row (.int .u32) t.n.m, vi t.n.e, vs t.s, .row .str t.k, .row .tree t.v]), (1001, .var [vi u.kind, vb u.b, vb u.n.neg, .row (.int .u32) u.n.m, vi u.n.e, vs u.s, .row .str u.k, .row .tree u.v])]) (fun p => p ≤ t.k.length ∧ ∀ j, j < p → t.k.getD j (dflt .str) = u.k.getD j (dflt .str)) (fun p => t.k.length - p) 0 ?_ ?_ ?_
         ·exact ⟨Nat.zero_le _, fun j hj => absurd hj (Nat.not_lt_zero _)⟩
         ·exact (SimL.cast hs (T' := [(2, .ptr 1000 0), (3, .ptr 1001 0), (5, vi ((0 : Nat) : Int))]) (B' := [(1000, .var [vi t.kind, vb t.b, vb t.n.neg, .row (.int .u32) t.n.m, vi t.n.e, vs t.s, .row .str t.k, .row .tree t.v]), (1001, .var [vi u.kind, vb u.b, vb u.n.neg, .row (.int .u32) u.n.m, vi u.n.e, vs u.s, .row .str u.k, .row .tree u.v])]) (by rfl) rfl).ren [(1000, 1000), (1001, 1001)] (by kernel_rfl) (by kernel_rfl) (by kernel_rfl)
         rintro i hJ a w hs
         obtain ⟨hi, hall⟩ := hJ
         rcases Bool.eq_false_or_eq_true (decide (((i : Nat) : Int) < (t.k.length : Int))) with b15 | b15
         ·skip
          have n15 := of_decide_eq_true b15
          refine way_L (tt := tt) (rs := [(16, ⟨[], [(6, true), (7, true), (8, true), (1009, true)], []⟩)]) (bs := [false]) (tk := [2, 3]) (bk := [1000, 1001]) (C := (tr 6 (((decide (((i : Nat) : Int) < (t.k.length : Int))) = true) ∧ True ∧ ((decide (((i : Nat) : Int) < (t.k.length : Int))) = true) ∧ True ∧ ((decide (((i : Nat) : Int) < (t.k.length : Int))) = true) ∧ True ∧ ((decide (((i : Nat) : Int) < (t.k.length : Int))) = true) ∧ True)) ∧ ((t.kind == 7) = false) ∧ True) (lv := .exit 1) (T' := [(2, .ptr 1000 0), (3, .ptr 1001 0)]) (B' := [(1000, .var [vi t.kind, vb t.b, vb t.n.neg, .row (.int .u32) t.n.m, vi t.n.e, vs t.s, .row .str t.k, .row .tree t.v]), (1001, .var [vi u.kind, vb u.b, vb u.n.neg, .row (.int .u32) u.n.m, vi u.n.e, vs u.s, .row .str u.k, .row .tree u.v])]) mix hI hs ?_ ?_ ?_ ?_
          ·exact ⟨trivial, trivial⟩
          ·kernel_rfl
          ·exact ⟨tr_mk (⟨b15, trivial, b15, trivial, b15, trivial, b15, trivial⟩) 6, b14, trivial⟩
          intro a w hs
          refine then_exit ?_
          refine inb_hit ?_
          refine then_norm ?_
          refine wp_seq ?_
          refine way_L (tt := tt) (rs := []) (bs := []) (tk := [2, 3, 6]) (bk := [1000, 1001]) (C := True ∧ True) (lv := .norm) (T' := [(2, .ptr 1000 0), (3, .ptr 1001 0), (6, vi 0)]) (B' := [(1000, .var [vi t.kind, vb t.b, vb t.n.neg, .row (.int .u32) t.n.m, vi t.n.e, vs t.s, .row .str t.k, .row .tree t.v]), (1001, .var [vi u.kind, vb u.b, vb u.n.neg, .row (.int .u32) u.n.m, vi u.n.e, vs u.s, .row .str u.k, .row .tree u.v])]) mix hI hs ?_ ?_ ?_ ?_
          ·exact trivial
          ·kernel_rfl
          ·exact ⟨trivial, trivial⟩
          intro a w hs
          refine then_norm ?_
          refine wp_block ?_
          refine loop_L (N := Tryz.f18.ntmps) (w0 := w0) (ow := noO fz) (α := Nat) (fun p => [(2, .ptr 1000 0), (3, .ptr 1001 0), (6, vi ((p : Nat) : Int))]) (fun p => [(1000, .var [vi t.kind, vb t.b, vb t.n.neg, .row (.int .u32) t.n.m, vi t.n.e, vs t.s, .row .str t.k, .row .tree t.v]), (1001, .var [vi u.kind, vb u.b, vb u.n.neg, .row (.int .u32) u.n.m, vi u.n.e, vs u.s, .row .str u.k, .row .tree u.v])]) (fun p => p ≤ t.v.length ∧ sameL (t.v.drop p) (u.v.drop p) = sameL t.v u.v) (fun p => t.v.length - p) 0 ?_ ?_ ?_
          ·exact ⟨Nat.zero_le _, rfl⟩
          ·exact (SimL.cast hs (T' := [(2, .ptr 1000 0), (3, .ptr 1001 0), (6, vi ((0 : Nat) : Int))]) (B' := [(1000, .var [vi t.kind, vb t.b, vb t.n.neg, .row (.int .u32) t.n.m, vi t.n.e, vs t.s, .row .str t.k, .row .tree t.v]), (1001, .var [vi u.kind, vb u.b, vb u.n.neg, .row (.int .u32) u.n.m, vi u.n.e, vs u.s, .row .str u.k, .row .tree u.v])]) (by rfl) rfl).ren [(1000, 1000), (1001, 1001)] (by kernel_rfl) (by kernel_rfl) (by kernel_rfl)
          rintro i hJ a w hs
          obtain ⟨hi, hd⟩ := hJ
          rcases Bool.eq_false_or_eq_true (decide (((i : Nat) : Int) < (t.v.length : Int))) with b16 | b16
          ·skip
           have n16 := of_decide_eq_true b16
           rcases Bool.eq_false_or_eq_true (sameT (t.v.getD i (dflt .tree)) (u.v.getD i (dflt .tree))) with b17 | b17
           ·skip
            refine way_L (tt := tt) (rs := [(23, ⟨[(10, ciA 18 [.agg (encTree (t.v.getD i (dflt .tree))), .agg (encTree (u.v.getD i (dflt .tree)))] [] [] (.val (vb (sameT (t.v.getD i (dflt .tree)) (u.v.getD i (dflt .tree))))))], [], []⟩)]) (bs := [true, false]) (tk := [2, 3, 6]) (bk := [1000, 1001]) (C := ((tr 5 True) ∧ ((decide (((i : Nat) : Int) < (t.v.length : Int))) = true) ∧ True) ∧ ((tr 3 ((0 ≤ ((i : Nat) : Int) ∧ ((i : Nat) : Int) < t.v.length) ∧ (tr 4 ((0 ≤ ((i : Nat) : Int) ∧ ((i : Nat) : Int) < u.v.length) ∧ True ∧ (okArgs [.agg (encTree (t.v.getD i (dflt .tree))), .agg (encTree (u.v.getD i (dflt .tree)))]) ∧ True ∧ True)))) ∧ ((!(sameT (t.v.getD i (dflt .tree)) (u.v.getD i (dflt .tree)))) = false) ∧ True) ∧ True ∧ (InR .i64 (((i : Nat) : Int) + 1)) ∧ True ∧ True) (lv := .norm) (T' := [(2, .ptr 1000 0), (3, .ptr 1001 0), (6, vi (((i : Nat) : Int) + 1))]) (B' := [(1000, .var [vi t.kind, vb t.b, vb t.n.neg, .row (.int .u32) t.n.m, vi t.n.e, vs t.s, .row .str t.k, .row .tree t.v]), (1001, .var [vi u.kind, vb u.b, vb u.n.neg, .row (.int .u32) u.n.m, vi u.n.e, vs u.s, .row .str u.k, .row .tree u.v])]) mix hI hs ?_ ?_ ?_ ?_
            ·exact ⟨⟨⟨ent18, ih _ _ (by have h1 := nodes_eq t; have h2 := nodes_at (l := t.v) (i := i) (by omega); omega) (fine_at hft (by omega) _) (fine_at hfu (by omega) _)⟩, trivial⟩, trivial⟩
            ·kernel_rfl
            ·exact ⟨⟨tr_mk trivial 5, b16, trivial⟩, ⟨tr_mk (⟨⟨by omega, by omega⟩, tr_mk (⟨⟨by omega, by omega⟩, trivial, rfl, trivial, trivial⟩) 4⟩) 3, (by rw [b17]; rfl), trivial⟩, trivial, (inR64 (by omega) (by omega)), trivial, trivial⟩
            intro a w hs
            refine then_norm ⟨i + 1, ⟨by omega, by rw [← hd, sameL_drop (i := i) (by omega) (by omega), b17]; rfl⟩, by omega, ?_⟩
            (have e0_ : (((i : Nat) : Int) + 1) = ((((i + 1) : Nat) : Int)) := (by first | rfl | (omega)); exact (SimL.cast hs (T' := [(2, .ptr 1000 0), (3, .ptr 1001 0), (6, vi (((i + 1) : Nat) : Int))]) (B' := [(1000, .var [vi t.kind, vb t.b, vb t.n.neg, .row (.int .u32) t.n.m, vi t.n.e, vs t.s, .row .str t.k, .row .tree t.v]), (1001, .var [vi u.kind, vb u.b, vb u.n.neg, .row (.int .u32) u.n.m, vi u.n.e, vs u.s, .row .str u.k, .row .tree u.v])]) (by first | rfl | (rw [e0_]; done) | (simp only [e0_]; done) | (simp only [e0_]; rfl)) (by first | rfl | (rw [e0_]; done) | (simp only [e0_]; done) | (simp only [e0_]; rfl))).ren [(1000, 1000), (1001, 1001)] (by kernel_rfl) (by kernel_rfl) (by kernel_rfl))
           ·skip
            refine way_L (tt := tt) (rs := [(23, ⟨[(10, ciA 18 [.agg (encTree (t.v.getD i (dflt .tree))), .agg (encTree (u.v.getD i (dflt .tree)))] [] [] (.val (vb (sameT (t.v.getD i (dflt .tree)) (u.v.getD i (dflt .tree))))))], [], []⟩)]) (bs := [true, true]) (tk := [4]) (bk := []) (C := ((tr 5 True) ∧ ((decide (((i : Nat) : Int) < (t.v.length : Int))) = true) ∧ True) ∧ (tr 3 ((0 ≤ ((i : Nat) : Int) ∧ ((i : Nat) : Int) < t.v.length) ∧ (tr 4 ((0 ≤ ((i : Nat) : Int) ∧ ((i : Nat) : Int) < u.v.length) ∧ True ∧ (okArgs [.agg (encTree (t.v.getD i (dflt .tree))), .agg (encTree (u.v.getD i (dflt .tree)))]) ∧ True ∧ True)))) ∧ ((!(sameT (t.v.getD i (dflt .tree)) (u.v.getD i (dflt .tree)))) = true) ∧ (True ∧ True) ∧ True) (lv := .ret) (T' := [(4, vb false)]) (B' := []) mix hI hs ?_ ?_ ?_ ?_
            ·exact ⟨⟨⟨ent18, ih _ _ (by have h1 := nodes_eq t; have h2 := nodes_at (l := t.v) (i := i) (by omega); omega) (fine_at hft (by omega) _) (fine_at hfu (by omega) _)⟩, trivial⟩, trivial⟩
            ·kernel_rfl
            ·exact ⟨⟨tr_mk trivial 5, b16, trivial⟩, tr_mk (⟨⟨by omega, by omega⟩, tr_mk (⟨⟨by omega, by omega⟩, trivial, rfl, trivial, trivial⟩) 4⟩) 3, (by rw [b17]; rfl), ⟨trivial, trivial⟩, trivial⟩
            intro a w hs
            refine then_ret ?_
            refine inb_ret ?_
            refine inb_ret ?_
            refine then_ret ?_
            exact FnQ_cast (out := .val (vb false)) (by rw [sameT_eq]; (repeat (first | rw [if_pos (by omega)] | rw [if_neg (by omega)])); rw [decide_eq_true (by omega), ← hd, sameL_drop (i := i) (by omega) (by omega), b17]; rfl) (ret_ok [] hs ⟨by kernel_rfl, rfl⟩)
          ·skip
           have n16 := of_decide_eq_false b16
           refine way_L (tt := tt) (rs := []) (bs := [false]) (tk := []) (bk := []) (C := (tr 5 True) ∧ ((decide (((i : Nat) : Int) < (t.v.length : Int))) = false) ∧ True) (lv := .exit 3) (T' := []) (B' := []) mix hI hs ?_ ?_ ?_ ?_
           ·exact trivial
           ·kernel_rfl
           ·exact ⟨tr_mk trivial 5, b16, trivial⟩
           intro a w hs
           refine then_exit ?_
           refine inb_hit ?_
           refine inb_norm ?_
           refine then_norm ?_
           refine way_L (tt := tt) (rs := []) (bs := []) (tk := [4]) (bk := []) (C := (True ∧ True) ∧ True) (lv := .ret) (T' := [(4, vb true)]) (B' := []) mix hI hs ?_ ?_ ?_ ?_
           ·exact trivial
           ·kernel_rfl
           ·exact ⟨⟨trivial, trivial⟩, trivial⟩
           intro a w hs
           exact FnQ_cast (out := .val (vb true)) (by rw [sameT_eq]; (repeat (first | rw [if_pos (by omega)] | rw [if_neg (by omega)])); rw [decide_eq_true (by omega), ← hd, List.drop_of_length_le (by omega)]; rfl) (ret_ok [] hs ⟨by kernel_rfl, rfl⟩)
         ·skip
          have n15 := of_decide_eq_false b15
          refine way_L (tt := tt) (rs := [(16, ⟨[], [(6, false), (7, false), (8, false), (1009, false)], []⟩)]) (bs := [false]) (tk := [2, 3]) (bk := [1000, 1001]) (C := (tr 6 (((decide (((i : Nat) : Int) < (t.k.length : Int))) = false) ∧ ((decide (((i : Nat) : Int) < (t.k.length : Int))) = false) ∧ ((decide (((i : Nat) : Int) < (t.k.length : Int))) = false) ∧ ((decide (((i : Nat) : Int) < (t.k.length : Int))) = false) ∧ True)) ∧ (false = false) ∧ True) (lv := .exit 1) (T' := [(2, .ptr 1000 0), (3, .ptr 1001 0)]) (B' := [(1000, .var [vi t.kind, vb t.b, vb t.n.neg, .row (.int .u32) t.n.m, vi t.n.e, vs t.s, .row .str t.k, .row .tree t.v]), (1001, .var [vi u.kind, vb u.b, vb u.n.neg, .row (.int .u32) u.n.m, vi u.n.e, vs u.s, .row .str u.k, .row .tree u.v])]) mix hI hs ?_ ?_ ?_ ?_
          ·exact ⟨trivial, trivial⟩
          ·kernel_rfl
          ·exact ⟨tr_mk (⟨b15, b15, b15, b15, trivial⟩) 6, rfl, trivial⟩
          intro a w hs
          refine then_exit ?_
          refine inb_hit ?_
          refine then_norm ?_
          refine wp_seq ?_
          refine way_L (tt := tt) (rs := []) (bs := []) (tk := [2, 3, 6]) (bk := [1000, 1001]) (C := True ∧ True) (lv := .norm) (T' := [(2, .ptr 1000 0), (3, .ptr 1001 0), (6, vi 0)]) (B' := [(1000, .var [vi t.kind, vb t.b, vb t.n.neg, .row (.int .u32) t.n.m, vi t.n.e, vs t.s, .row .str t.k, .row .tree t.v]), (1001, .var [vi u.kind, vb u.b, vb u.n.neg, .row (.int .u32) u.n.m, vi u.n.e, vs u.s, .row .str u.k, .row .tree u.v])]) mix hI hs ?_ ?_ ?_ ?_
          ·exact trivial
          ·kernel_rfl
          ·exact ⟨trivial, trivial⟩
          intro a w hs
          refine then_norm ?_
          refine wp_block ?_
          refine loop_L (N := Tryz.f18.ntmps) (w0 := w0) (ow := noO fz) (α := Nat) (fun p => [(2, .ptr 1000 0), (3, .ptr 1001 0), (6, vi ((p : Nat) : Int))]) (fun p => [(1000, .var [vi t.kind, vb t.b, vb t.n.neg, .row (.int .u32) t.n.m, vi t.n.e, vs t.s, .row .str t.k, .row .tree t.v]), (1001, .var [vi u.kind, vb u.b, vb u.n.neg, .row (.int .u32) u.n.m, vi u.n.e, vs u.s, .row .str u.k, .row .tree u.v])]) (fun p => p ≤ t.v.length ∧ sameL (t.v.drop p) (u.v.drop p) = sameL t.v u.v) (fun p => t.v.length - p) 0 ?_ ?_ ?_
          ·exact ⟨Nat.zero_le _, rfl⟩
          ·exact (SimL.cast hs (T' := [(2, .ptr 1000 0), (3, .ptr 1001 0), (6, vi ((0 : Nat) : Int))]) (B' := [(1000, .var [vi t.kind, vb t.b, vb t.n.neg, .row (.int .u32) t.n.m, vi t.n.e, vs t.s, .row .str t.k, .row .tree t.v]), (1001, .var [vi u.kind, vb u.b, vb u.n.neg, .row (.int .u32) u.n.m, vi u.n.e, vs u.s, .row .str u.k, .row .tree u.v])]) (by rfl) rfl).ren [(1000, 1000), (1001, 1001)] (by kernel_rfl) (by kernel_rfl) (by kernel_rfl)
          rintro i hJ a w hs
          obtain ⟨hi, hd⟩ := hJ
          rcases Bool.eq_false_or_eq_true (decide (((i : Nat) : Int) < (t.v.length : Int))) with b18 | b18
          ·skip
           have n18 := of_decide_eq_true b18
           rcases Bool.eq_false_or_eq_true (sameT (t.v.getD i (dflt .tree)) (u.v.getD i (dflt .tree))) with b19 | b19
           ·skip
            refine way_L (tt := tt) (rs := [(23, ⟨[(10, ciA 18 [.agg (encTree (t.v.getD i (dflt .tree))), .agg (encTree (u.v.getD i (dflt .tree)))] [] [] (.val (vb (sameT (t.v.getD i (dflt .tree)) (u.v.getD i (dflt .tree))))))], [], []⟩)]) (bs := [true, false]) (tk := [2, 3, 6]) (bk := [1000, 1001]) (C := ((tr 5 True) ∧ ((decide (((i : Nat) : Int) < (t.v.length : Int))) = true) ∧ True) ∧ ((tr 3 ((0 ≤ ((i : Nat) : Int) ∧ ((i : Nat) : Int) < t.v.length) ∧ (tr 4 ((0 ≤ ((i : Nat) : Int) ∧ ((i : Nat) : Int) < u.v.length) ∧ True ∧ (okArgs [.agg (encTree (t.v.getD i (dflt .tree))), .agg (encTree (u.v.getD i (dflt .tree)))]) ∧ True ∧ True)))) ∧ ((!(sameT (t.v.getD i (dflt .tree)) (u.v.getD i (dflt .tree)))) = false) ∧ True) ∧ True ∧ (InR .i64 (((i : Nat) : Int) + 1)) ∧ True ∧ True) (lv := .norm) (T' := [(2, .ptr 1000 0), (3, .ptr 1001 0), (6, vi (((i : Nat) : Int) + 1))]) (B' := [(1000, .var [vi t.kind, vb t.b, vb t.n.neg, .row (.int .u32) t.n.m, vi t.n.e, vs t.s, .row .str t.k, .row .tree t.v]), (1001, .var [vi u.kind, vb u.b, vb u.n.neg, .row (.int .u32) u.n.m, vi u.n.e, vs u.s, .row .str u.k, .row .tree u.v])]) mix hI hs ?_ ?_ ?_ ?_
            ·exact ⟨⟨⟨ent18, ih _ _ (by have h1 := nodes_eq t; have h2 := nodes_at (l := t.v) (i := i) (by omega); omega) (fine_at hft (by omega) _) (fine_at hfu (by omega) _)⟩, trivial⟩, trivial⟩
            ·kernel_rfl
            ·exact ⟨⟨tr_mk trivial 5, b18, trivial⟩, ⟨tr_mk (⟨⟨by omega, by omega⟩, tr_mk (⟨⟨by omega, by omega⟩, trivial, rfl, trivial, trivial⟩) 4⟩) 3, (by rw [b19]; rfl), trivial⟩, trivial, (inR64 (by omega) (by omega)), trivial, trivial⟩
            intro a w hs
            refine then_norm ⟨i + 1, ⟨by omega, by rw [← hd, sameL_drop (i := i) (by omega) (by omega), b19]; rfl⟩, by omega, ?_⟩
            (have e0_ : (((i : Nat) : Int) + 1) = ((((i + 1) : Nat) : Int)) := (by first | rfl | (omega)); exact (SimL.cast hs (T' := [(2, .ptr 1000 0), (3, .ptr 1001 0), (6, vi (((i + 1) : Nat) : Int))]) (B' := [(1000, .var [vi t.kind, vb t.b, vb t.n.neg, .row (.int .u32) t.n.m, vi t.n.e, vs t.s, .row .str t.k, .row .tree t.v]), (1001, .var [vi u.kind, vb u.b, vb u.n.neg, .row (.int .u32) u.n.m, vi u.n.e, vs u.s, .row .str u.k, .row .tree u.v])]) (by first | rfl | (rw [e0_]; done) | (simp only [e0_]; done) | (simp only [e0_]; rfl)) (by first | rfl | (rw [e0_]; done) | (simp only [e0_]; done) | (simp only [e0_]; rfl))).ren [(1000, 1000), (1001, 1001)] (by kernel_rfl) (by kernel_rfl) (by kernel_rfl))
           ·skip
            refine way_L (tt := tt) (rs := [(23, ⟨[(10, ciA 18 [.agg (encTree (t.v.getD i (dflt .tree))), .agg (encTree (u.v.getD i (dflt .tree)))] [] [] (.val (vb (sameT (t.v.getD i (dflt .tree)) (u.v.getD i (dflt .tree))))))], [], []⟩)]) (bs := [true, true]) (tk := [4]) (bk := []) (C := ((tr 5 True) ∧ ((decide (((i : Nat) : Int) < (t.v.length : Int))) = true) ∧ True) ∧ (tr 3 ((0 ≤ ((i : Nat) : Int) ∧ ((i : Nat) : Int) < t.v.length) ∧ (tr 4 ((0 ≤ ((i : Nat) : Int) ∧ ((i : Nat) : Int) < u.v.length) ∧ True ∧ (okArgs [.agg (encTree (t.v.getD i (dflt .tree))), .agg (encTree (u.v.getD i (dflt .tree)))]) ∧ True ∧ True)))) ∧ ((!(sameT (t.v.getD i (dflt .tree)) (u.v.getD i (dflt .tree)))) = true) ∧ (True ∧ True) ∧ True) (lv := .ret) (T' := [(4, vb false)]) (B' := []) mix hI hs ?_ ?_ ?_ ?_
            ·exact ⟨⟨⟨ent18, ih _ _ (by have h1 := nodes_eq t; have h2 := nodes_at (l := t.v) (i := i) (by omega); omega) (fine_at hft (by omega) _) (fine_at hfu (by omega) _)⟩, trivial⟩, trivial⟩
            ·kernel_rfl
            ·exact ⟨⟨tr_mk trivial 5, b18, trivial⟩, tr_mk (⟨⟨by omega, by omega⟩, tr_mk (⟨⟨by omega, by omega⟩, trivial, rfl, trivial, trivial⟩) 4⟩) 3, (by rw [b19]; rfl), ⟨trivial, trivial⟩, trivial⟩
            intro a w hs
            refine then_ret ?_
            refine inb_ret ?_
            refine inb_ret ?_
            refine then_ret ?_
            exact FnQ_cast (out := .val (vb false)) (by rw [sameT_eq]; (repeat (first | rw [if_pos (by omega)] | rw [if_neg (by omega)])); rw [decide_eq_true (by omega), ← hd, sameL_drop (i := i) (by omega) (by omega), b19]; rfl) (ret_ok [] hs ⟨by kernel_rfl, rfl⟩)
          ·skip
           have n18 := of_decide_eq_false b18
           refine way_L (tt := tt) (rs := []) (bs := [false]) (tk := []) (bk := []) (C := (tr 5 True) ∧ ((decide (((i : Nat) : Int) < (t.v.length : Int))) = false) ∧ True) (lv := .exit 3) (T' := []) (B' := []) mix hI hs ?_ ?_ ?_ ?_
           ·exact trivial
           ·kernel_rfl
           ·exact ⟨tr_mk trivial 5, b18, trivial⟩
           intro a w hs
           refine then_exit ?_
           refine inb_hit ?_
           refine inb_norm ?_
           refine then_norm ?_
           refine way_L (tt := tt) (rs := []) (bs := []) (tk := [4]) (bk := []) (C := (True ∧ True) ∧ True) (lv := .ret) (T' := [(4, vb true)]) (B' := []) mix hI hs ?_ ?_ ?_ ?_
           ·exact trivial
           ·kernel_rfl
           ·exact ⟨⟨trivial, trivial⟩, trivial⟩
           intro a w hs
           exact FnQ_cast (out := .val (vb true)) (by rw [sameT_eq]; (repeat (first | rw [if_pos (by omega)] | rw [if_neg (by omega)])); rw [decide_eq_true (by omega), ← hd, List.drop_of_length_le (by omega)]; rfl) (ret_ok [] hs ⟨by kernel_rfl, rfl⟩)
       ·exact absurd ((show (t.kind == 6) = true by exact b11).symm.trans hb) (by decide)
      ·skip
       have n11 := beq_eq_false_iff_ne.1 b11
       refine way_L (tt := tt) (rs := []) (bs := [false]) (tk := [2, 3, 36]) (bk := [1000, 1001]) (C := (True ∧ True ∧ True) ∧ ((t.kind == 6) = false) ∧ True ∧ True ∧ True) (lv := .norm) (T' := [(2, .ptr 1000 0), (3, .ptr 1001 0), (36, vb (t.kind == 7))]) (B' := [(1000, .var [vi t.kind, vb t.b, vb t.n.neg, .row (.int .u32) t.n.m, vi t.n.e, vs t.s, .row .str t.k, .row .tree t.v]), (1001, .var [vi u.kind, vb u.b, vb u.n.neg, .row (.int .u32) u.n.m, vi u.n.e, vs u.s, .row .str u.k, .row .tree u.v])]) mix hI hs ?_ ?_ ?_ ?_
       ·exact trivial
       ·kernel_rfl
       ·exact ⟨⟨trivial, trivial, trivial⟩, b11, trivial, trivial, trivial⟩
       intro a w hs
       refine then_norm ?_
       refine cond_L (c := 36) hs (b := t.kind == 7) rfl (fun hb => ?_) (fun hb => ?_)
       ·have b21 := hb
        clear hb
        have n21 := eq_of_beq b21
        refine wp_seq ?_
        rcases Bool.eq_false_or_eq_true ((t.v.length : Int) != (u.v.length : Int)) with b22 | b22
        ·skip
         have n22 := bne_iff_ne.1 b22
         refine way_L (tt := tt) (rs := [(13, ⟨[], [(8, false), (9, false), (10, false), (11, false), (19, false), (1020, true)], []⟩)]) (bs := [true]) (tk := [4]) (bk := []) (C := (tr 8 ((((t.v.length : Int) != (u.v.length : Int)) = true) ∧ (((t.v.length : Int) != (u.v.length : Int)) = true) ∧ (((t.v.length : Int) != (u.v.length : Int)) = true) ∧ (((t.v.length : Int) != (u.v.length : Int)) = true) ∧ (tr 7 ((((t.v.length : Int) != (u.v.length : Int)) = true) ∧ (((t.v.length : Int) != (u.v.length : Int)) = true) ∧ True)))) ∧ (true = true) ∧ (True ∧ True) ∧ True) (lv := .ret) (T' := [(4, vb false)]) (B' := []) mix hI hs ?_ ?_ ?_ ?_
         ·exact ⟨trivial, trivial⟩
         ·kernel_rfl
         ·exact ⟨tr_mk (⟨b22, b22, b22, b22, tr_mk (⟨b22, b22, trivial⟩) 7⟩) 8, rfl, ⟨trivial, trivial⟩, trivial⟩
         intro a w hs
         refine then_ret ?_
         refine inb_ret ?_
         refine then_ret ?_
         exact FnQ_cast (out := .val (vb false)) (by rw [sameT_eq]; (repeat (first | rw [if_pos (by omega)] | rw [if_neg (by omega)])); rw [decide_eq_false (by omega)]; rfl) (ret_ok [] hs ⟨by kernel_rfl, rfl⟩)
        ·skip
         have n22 := bne_eq_false_iff_eq.1 b22
         rcases Bool.eq_false_or_eq_true ((t.k.length : Int) != (u.k.length : Int)) with b23 | b23
         ·skip
          have n23 := bne_iff_ne.1 b23
          refine way_L (tt := tt) (rs := [(13, ⟨[], [(8, true), (9, true), (10, true), (11, true), (12, true), (13, true), (14, true), (15, true), (16, true), (17, true), (18, true), (19, true), (1019, true), (1020, false)], []⟩)]) (bs := [true]) (tk := [4]) (bk := []) (C := (tr 8 ((((t.v.length : Int) != (u.v.length : Int)) = false) ∧ True ∧ (((t.v.length : Int) != (u.v.length : Int)) = false) ∧ True ∧ (((t.v.length : Int) != (u.v.length : Int)) = false) ∧ True ∧ (((t.v.length : Int) != (u.v.length : Int)) = false) ∧ True ∧ ((t.kind == 7) = true) ∧ True ∧ ((t.kind == 7) = true) ∧ True ∧ ((t.kind == 7) = true) ∧ True ∧ ((t.kind == 7) = true) ∧ True ∧ ((t.kind == 7) = true) ∧ True ∧ ((t.kind == 7) = true) ∧ True ∧ ((t.kind == 7) = true) ∧ True ∧ (((t.v.length : Int) != (u.v.length : Int)) = false) ∧ ((t.kind == 7) = true) ∧ (((t.v.length : Int) != (u.v.length : Int)) = false) ∧ True)) ∧ (((t.k.length : Int) != (u.k.length : Int)) = true) ∧ (True ∧ True) ∧ True) (lv := .ret) (T' := [(4, vb false)]) (B' := []) mix hI hs ?_ ?_ ?_ ?_
          ·exact ⟨trivial, trivial⟩
          ·kernel_rfl
          ·exact ⟨tr_mk (⟨b22, trivial, b22, trivial, b22, trivial, b22, trivial, b21, trivial, b21, trivial, b21, trivial, b21, trivial, b21, trivial, b21, trivial, b21, trivial, b22, b21, b22, trivial⟩) 8, b23, ⟨trivial, trivial⟩, trivial⟩
          intro a w hs
          refine then_ret ?_
          refine inb_ret ?_
          refine then_ret ?_
          exact FnQ_cast (out := .val (vb false)) (by rw [sameT_eq]; (repeat (first | rw [if_pos (by omega)] | rw [if_neg (by omega)])); rw [decide_eq_true (show t.v.length = u.v.length by omega), decide_eq_false (show ¬ t.k.length = u.k.length by omega)]; rfl) (ret_ok [] hs ⟨by kernel_rfl, rfl⟩)
         ·skip
          have n23 := bne_eq_false_iff_eq.1 b23
          refine way_L (tt := tt) (rs := [(13, ⟨[], [(8, true), (9, true), (10, true), (11, true), (12, true), (13, true), (14, true), (15, true), (16, true), (17, true), (18, true), (19, true), (1019, true), (1020, false)], []⟩)]) (bs := [false]) (tk := [2, 3]) (bk := [1000, 1001]) (C := (tr 8 ((((t.v.length : Int) != (u.v.length : Int)) = false) ∧ True ∧ (((t.v.length : Int) != (u.v.length : Int)) = false) ∧ True ∧ (((t.v.length : Int) != (u.v.length : Int)) = false) ∧ True ∧ (((t.v.length : Int) != (u.v.length : Int)) = false) ∧ True ∧ ((t.kind == 7) = true) ∧ True ∧ ((t.kind == 7) = true) ∧ True ∧ ((t.kind == 7) = true) ∧ True ∧ ((t.kind == 7) = true) ∧ True ∧ ((t.kind == 7) = true) ∧ True ∧ ((t.kind == 7) = true) ∧ True ∧ ((t.kind == 7) = true) ∧ True ∧ (((t.v.length : Int) != (u.v.length : Int)) = false) ∧ ((t.kind == 7) = true) ∧ (((t.v.length : Int) != (u.v.length : Int)) = false) ∧ True)) ∧ (((t.k.length : Int) != (u.k.length : Int)) = false) ∧ True) (lv := .norm) (T' := [(2, .ptr 1000 0), (3, .ptr 1001 0)]) (B' := [(1000, .var [vi t.kind, vb t.b, vb t.n.neg, .row (.int .u32) t.n.m, vi t.n.e, vs t.s, .row .str t.k, .row .tree t.v]), (1001, .var [vi u.kind, vb u.b, vb u.n.neg, .row (.int .u32) u.n.m, vi u.n.e, vs u.s, .row .str u.k, .row .tree u.v])]) mix hI hs ?_ ?_ ?_ ?_
          ·exact ⟨trivial, trivial⟩
          ·kernel_rfl
          ·exact ⟨tr_mk (⟨b22, trivial, b22, trivial, b22, trivial, b22, trivial, b21, trivial, b21, trivial, b21, trivial, b21, trivial, b21, trivial, b21, trivial, b21, trivial, b22, b21, b22, trivial⟩) 8, b23, trivial⟩
          intro a w hs
          refine then_norm ?_
          refine wp_seq ?_
          refine wp_seq ?_
          refine way_L (tt := tt) (rs := []) (bs := []) (tk := [2, 3, 5]) (bk := [1000, 1001]) (C := True ∧ True) (lv := .norm) (T' := [(2, .ptr 1000 0), (3, .ptr 1001 0), (5, vi 0)]) (B' := [(1000, .var [vi t.kind, vb t.b, vb t.n.neg, .row (.int .u32) t.n.m, vi t.n.e, vs t.s, .row .str t.k, .row .tree t.v]), (1001, .var [vi u.kind, vb u.b, vb u.n.neg, .row (.int .u32) u.n.m, vi u.n.e, vs u.s, .row .str u.k, .row .tree u.v])]) mix hI hs ?_ ?_ ?_ ?_
          ·exact trivial
          ·kernel_rfl
          ·exact ⟨trivial, trivial⟩
          intro a w hs
          refine then_norm ?_
          refine wp_block ?_
          refine loop_L (N := Tryz.f18.ntmps) (w0 := w0) (ow := noO fz) (α := Nat) (fun p => [(2, .ptr 1000 0), (3, .ptr 1001 0), (5, vi ((p : Nat) : Int))]) (fun p => [(1000, .var [vi t.kind, vb t.b, vb t.n.neg, .row (.int .u32) t.n.m, vi t.n.e, vs t.s, .row .str t.k, .row .tree t.v]), (1001, .var [vi u.kind, vb u.b, vb u.n.neg, .row (.int .u32) u.n.m, vi u.n.e, vs u.s, .row .str u.k, .row .tree u.v])]) (fun p => p ≤ t.k.length ∧ ∀ j, j < p → t.k.getD j (dflt .str) = u.k.getD j (dflt .str)) (fun p => t.k.length - p) 0 ?_ ?_ ?_
          ·exact ⟨Nat.zero_le _, fun j hj => absurd hj (Nat.not_lt_zero _)⟩
          ·exact (SimL.cast hs (T' := [(2, .ptr 1000 0), (3, .ptr 1001 0), (5, vi ((0 : Nat) : Int))]) (B' := [(1000, .var [vi t.kind, vb t.b, vb t.n.neg, .row (.int .u32) t.n.m, vi t.n.e, vs t.s, .row .str t.k, .row .tree t.v]), (1001, .var [vi u.kind, vb u.b, vb u.n.neg, .row (.int .u32) u.n.m, vi u.n.e, vs u.s, .row .str u.k, .row .tree u.v])]) (by rfl) rfl).ren [(1000, 1000), (1001, 1001)] (by kernel_rfl) (by kernel_rfl) (by kernel_rfl)
          rintro i hJ a w hs
          obtain ⟨hi, hall⟩ := hJ
          rcases Bool.eq_false_or_eq_true (decide (((i : Nat) : Int) < (t.k.length : Int))) with b24 | b24
          ·skip
           have n24 := of_decide_eq_true b24
           rcases Bool.eq_false_or_eq_true ((t.k.getD i (dflt .str)).toList == (u.k.getD i (dflt .str)).toList) with b25 | b25
           ·skip
            have n25 := eq_of_beq b25
            refine way_L (tt := tt) (rs := [(16, ⟨[], [(6, true), (7, true), (8, true), (1009, true)], []⟩)]) (bs := [true, false]) (tk := [2, 3, 5]) (bk := [1000, 1001]) (C := ((tr 6 (((decide (((i : Nat) : Int) < (t.k.length : Int))) = true) ∧ True ∧ ((decide (((i : Nat) : Int) < (t.k.length : Int))) = true) ∧ True ∧ ((decide (((i : Nat) : Int) < (t.k.length : Int))) = true) ∧ True ∧ ((decide (((i : Nat) : Int) < (t.k.length : Int))) = true) ∧ True)) ∧ ((t.kind == 7) = true) ∧ True) ∧ ((tr 3 ((0 ≤ ((i : Nat) : Int) ∧ ((i : Nat) : Int) < t.k.length) ∧ (tr 4 ((0 ≤ ((i : Nat) : Int) ∧ ((i : Nat) : Int) < u.k.length) ∧ True ∧ True ∧ True)))) ∧ ((!((t.k.getD i (dflt .str)).toList == (u.k.getD i (dflt .str)).toList)) = false) ∧ True) ∧ True ∧ (InR .i64 (((i : Nat) : Int) + 1)) ∧ True ∧ True) (lv := .norm) (T' := [(2, .ptr 1000 0), (3, .ptr 1001 0), (5, vi (((i : Nat) : Int) + 1))]) (B' := [(1000, .var [vi t.kind, vb t.b, vb t.n.neg, .row (.int .u32) t.n.m, vi t.n.e, vs t.s, .row .str t.k, .row .tree t.v]), (1001, .var [vi u.kind, vb u.b, vb u.n.neg, .row (.int .u32) u.n.m, vi u.n.e, vs u.s, .row .str u.k, .row .tree u.v])]) mix hI hs ?_ ?_ ?_ ?_
            ·exact ⟨trivial, trivial⟩
            ·kernel_rfl
            ·exact ⟨⟨tr_mk (⟨b24, trivial, b24, trivial, b24, trivial, b24, trivial⟩) 6, b21, trivial⟩, ⟨tr_mk (⟨⟨by omega, by omega⟩, tr_mk (⟨⟨by omega, by omega⟩, trivial, trivial, trivial⟩) 4⟩) 3, (by rw [b25]; rfl), trivial⟩, trivial, (inR64 (by omega) (by omega)), trivial, trivial⟩
            intro a w hs
            refine then_norm ⟨i + 1, ⟨by omega, fun j hj => by rcases Nat.lt_succ_iff_lt_or_eq.1 hj with h | h; exact hall j h; subst h; exact eqT_iff.1 b25⟩, by omega, ?_⟩
            (have e0_ : (((i : Nat) : Int) + 1) = ((((i + 1) : Nat) : Int)) := (by first | rfl | (omega)); exact (SimL.cast hs (T' := [(2, .ptr 1000 0), (3, .ptr 1001 0), (5, vi (((i + 1) : Nat) : Int))]) (B' := [(1000, .var [vi t.kind, vb t.b, vb t.n.neg, .row (.int .u32) t.n.m, vi t.n.e, vs t.s, .row .str t.k, .row .tree t.v]), (1001, .var [vi u.kind, vb u.b, vb u.n.neg, .row (.int .u32) u.n.m, vi u.n.e, vs u.s, .row .str u.k, .row .tree u.v])]) (by first | rfl | (rw [e0_]; done) | (simp only [e0_]; done) | (simp only [e0_]; rfl)) (by first | rfl | (rw [e0_]; done) | (simp only [e0_]; done) | (simp only [e0_]; rfl))).ren [(1000, 1000), (1001, 1001)] (by kernel_rfl) (by kernel_rfl) (by kernel_rfl))
           ·skip
            have n25 := beq_eq_false_iff_ne.1 b25
            refine way_L (tt := tt) (rs := [(16, ⟨[], [(6, true), (7, true), (8, true), (1009, true)], []⟩)]) (bs := [true, true]) (tk := [4]) (bk := []) (C := ((tr 6 (((decide (((i : Nat) : Int) < (t.k.length : Int))) = true) ∧ True ∧ ((decide (((i : Nat) : Int) < (t.k.length : Int))) = true) ∧ True ∧ ((decide (((i : Nat) : Int) < (t.k.length : Int))) = true) ∧ True ∧ ((decide (((i : Nat) : Int) < (t.k.length : Int))) = true) ∧ True)) ∧ ((t.kind == 7) = true) ∧ True) ∧ (tr 3 ((0 ≤ ((i : Nat) : Int) ∧ ((i : Nat) : Int) < t.k.length) ∧ (tr 4 ((0 ≤ ((i : Nat) : Int) ∧ ((i : Nat) : Int) < u.k.length) ∧ True ∧ True ∧ True)))) ∧ ((!((t.k.getD i (dflt .str)).toList == (u.k.getD i (dflt .str)).toList)) = true) ∧ (True ∧ True) ∧ True) (lv := .ret) (T' := [(4, vb false)]) (B' := []) mix hI hs ?_ ?_ ?_ ?_
            ·exact ⟨trivial, trivial⟩
            ·kernel_rfl
            ·exact ⟨⟨tr_mk (⟨b24, trivial, b24, trivial, b24, trivial, b24, trivial⟩) 6, b21, trivial⟩, tr_mk (⟨⟨by omega, by omega⟩, tr_mk (⟨⟨by omega, by omega⟩, trivial, trivial, trivial⟩) 4⟩) 3, (by rw [b25]; rfl), ⟨trivial, trivial⟩, trivial⟩
            intro a w hs
            refine then_ret ?_
            refine inb_ret ?_
            refine then_ret ?_
            refine inb_ret ?_
            refine then_ret ?_
            exact FnQ_cast (out := .val (vb false)) (by rw [sameT_eq]; (repeat (first | rw [if_pos (by omega)] | rw [if_neg (by omega)])); rw [decide_eq_true (show t.v.length = u.v.length by omega), decide_eq_true (show t.k.length = u.k.length by omega), decide_eq_false (keys_ne (i := i) (eqT_ne.1 b25))]; rfl) (ret_ok [] hs ⟨by kernel_rfl, rfl⟩)
          ·skip
           have n24 := of_decide_eq_false b24
           refine way_L (tt := tt) (rs := [(16, ⟨[], [(6, false), (7, false), (8, false), (1009, false)], []⟩)]) (bs := [false]) (tk := [2, 3]) (bk := [1000, 1001]) (C := (tr 6 (((decide (((i : Nat) : Int) < (t.k.length : Int))) = false) ∧ ((decide (((i : Nat) : Int) < (t.k.length : Int))) = false) ∧ ((decide (((i : Nat) : Int) < (t.k.length : Int))) = false) ∧ ((decide (((i : Nat) : Int) < (t.k.length : Int))) = false) ∧ True)) ∧ (false = false) ∧ True) (lv := .exit 1) (T' := [(2, .ptr 1000 0), (3, .ptr 1001 0)]) (B' := [(1000, .var [vi t.kind, vb t.b, vb t.n.neg, .row (.int .u32) t.n.m, vi t.n.e, vs t.s, .row .str t.k, .row .tree t.v]), (1001, .var [vi u.kind, vb u.b, vb u.n.neg, .row (.int .u32) u.n.m, vi u.n.e, vs u.s, .row .str u.k, .row .tree u.v])]) mix hI hs ?_ ?_ ?_ ?_
           ·exact ⟨trivial, trivial⟩
           ·kernel_rfl
           ·exact ⟨tr_mk (⟨b24, b24, b24, b24, trivial⟩) 6, rfl, trivial⟩
           intro a w hs
           refine then_exit ?_
           refine inb_hit ?_
           refine then_norm ?_
           refine wp_seq ?_
           refine way_L (tt := tt) (rs := []) (bs := []) (tk := [2, 3, 6]) (bk := [1000, 1001]) (C := True ∧ True) (lv := .norm) (T' := [(2, .ptr 1000 0), (3, .ptr 1001 0), (6, vi 0)]) (B' := [(1000, .var [vi t.kind, vb t.b, vb t.n.neg, .row (.int .u32) t.n.m, vi t.n.e, vs t.s, .row .str t.k, .row .tree t.v]), (1001, .var [vi u.kind, vb u.b, vb u.n.neg, .row (.int .u32) u.n.m, vi u.n.e, vs u.s, .row .str u.k, .row .tree u.v])]) mix hI hs ?_ ?_ ?_ ?_
           ·exact trivial
           ·kernel_rfl
           ·exact ⟨trivial, trivial⟩
           intro a w hs
           refine then_norm ?_
           refine wp_block ?_
           refine loop_L (N := Tryz.f18.ntmps) (w0 := w0) (ow := noO fz) (α := Nat) (fun p => [(2, .ptr 1000 0), (3, .ptr 1001 0), (6, vi ((p : Nat) : Int))]) (fun p => [(1000, .var [vi t.kind, vb t.b, vb t.n.neg, .row (.int .u32) t.n.m, vi t.n.e, vs t.s, .row .str t.k, .row .tree t.v]), (1001, .var [vi u.kind, vb u.b, vb u.n.neg, .row (.int .u32) u.n.m, vi u.n.e, vs u.s, .row .str u.k, .row .tree u.v])]) (fun p => p ≤ t.v.length ∧ sameL (t.v.drop p) (u.v.drop p) = sameL t.v u.v) (fun p => t.v.length - p) 0 ?_ ?_ ?_
           ·exact ⟨Nat.zero_le _, rfl⟩
           ·exact (SimL.cast hs (T' := [(2, .ptr 1000 0), (3, .ptr 1001 0), (6, vi ((0 : Nat) : Int))]) (B' := [(1000, .var [vi t.kind, vb t.b, vb t.n.neg, .row (.int .u32) t.n.m, vi t.n.e, vs t.s, .row .str t.k, .row .tree t.v]), (1001, .var [vi u.kind, vb u.b, vb u.n.neg, .row (.int .u32) u.n.m, vi u.n.e, vs u.s, .row .str u.k, .row .tree u.v])]) (by rfl) rfl).ren [(1000, 1000), (1001, 1001)] (by kernel_rfl) (by kernel_rfl) (by kernel_rfl)
           rintro i hJ a w hs
           obtain ⟨hi, hd⟩ := hJ
           rcases Bool.eq_false_or_eq_true (decide (((i : Nat) : Int) < (t.v.length : Int))) with b26 | b26
           ·skip
            have n26 := of_decide_eq_true b26
            rcases Bool.eq_false_or_eq_true (sameT (t.v.getD i (dflt .tree)) (u.v.getD i (dflt .tree))) with b27 | b27
            ·skip
             refine way_L (tt := tt) (rs := [(23, ⟨[(10, ciA 18 [.agg (encTree (t.v.getD i (dflt .tree))), .agg (encTree (u.v.getD i (dflt .tree)))] [] [] (.val (vb (sameT (t.v.getD i (dflt .tree)) (u.v.getD i (dflt .tree))))))], [], []⟩)]) (bs := [true, false]) (tk := [2, 3, 6]) (bk := [1000, 1001]) (C := ((tr 5 True) ∧ ((decide (((i : Nat) : Int) < (t.v.length : Int))) = true) ∧ True) ∧ ((tr 3 ((0 ≤ ((i : Nat) : Int) ∧ ((i : Nat) : Int) < t.v.length) ∧ (tr 4 ((0 ≤ ((i : Nat) : Int) ∧ ((i : Nat) : Int) < u.v.length) ∧ True ∧ (okArgs [.agg (encTree (t.v.getD i (dflt .tree))), .agg (encTree (u.v.getD i (dflt .tree)))]) ∧ True ∧ True)))) ∧ ((!(sameT (t.v.getD i (dflt .tree)) (u.v.getD i (dflt .tree)))) = false) ∧ True) ∧ True ∧ (InR .i64 (((i : Nat) : Int) + 1)) ∧ True ∧ True) (lv := .norm) (T' := [(2, .ptr 1000 0), (3, .ptr 1001 0), (6, vi (((i : Nat) : Int) + 1))]) (B' := [(1000, .var [vi t.kind, vb t.b, vb t.n.neg, .row (.int .u32) t.n.m, vi t.n.e, vs t.s, .row .str t.k, .row .tree t.v]), (1001, .var [vi u.kind, vb u.b, vb u.n.neg, .row (.int .u32) u.n.m, vi u.n.e, vs u.s, .row .str u.k, .row .tree u.v])]) mix hI hs ?_ ?_ ?_ ?_
             ·exact ⟨⟨⟨ent18, ih _ _ (by have h1 := nodes_eq t; have h2 := nodes_at (l := t.v) (i := i) (by omega); omega) (fine_at hft (by omega) _) (fine_at hfu (by omega) _)⟩, trivial⟩, trivial⟩
             ·kernel_rfl
             ·exact ⟨⟨tr_mk trivial 5, b26, trivial⟩, ⟨tr_mk (⟨⟨by omega, by omega⟩, tr_mk (⟨⟨by omega, by omega⟩, trivial, rfl, trivial, trivial⟩) 4⟩) 3, (by rw [b27]; rfl), trivial⟩, trivial, (inR64 (by omega) (by omega)), trivial, trivial⟩
             intro a w hs
             refine then_norm ⟨i + 1, ⟨by omega, by rw [← hd, sameL_drop (i := i) (by omega) (by omega), b27]; rfl⟩, by omega, ?_⟩
             (have e0_ : (((i : Nat) : Int) + 1) = ((((i + 1) : Nat) : Int)) := (by first | rfl | (omega)); exact (SimL.cast hs (T' := [(2, .ptr 1000 0), (3, .ptr 1001 0), (6, vi (((i + 1) : Nat) : Int))]) (B' := [(1000, .var [vi t.kind, vb t.b, vb t.n.neg, .row (.int .u32) t.n.m, vi t.n.e, vs t.s, .row .str t.k, .row .tree t.v]), (1001, .var [vi u.kind, vb u.b, vb u.n.neg, .row (.int .u32) u.n.m, vi u.n.e, vs u.s, .row .str u.k, .row .tree u.v])]) (by first | rfl | (rw [e0_]; done) | (simp only [e0_]; done) | (simp only [e0_]; rfl)) (by first | rfl | (rw [e0_]; done) | (simp only [e0_]; done) | (simp only [e0_]; rfl))).ren [(1000, 1000), (1001, 1001)] (by kernel_rfl) (by kernel_rfl) (by kernel_rfl))
            ·skip
             refine way_L (tt := tt) (rs := [(23, ⟨[(10, ciA 18 [.agg (encTree (t.v.getD i (dflt .tree))), .agg (encTree (u.v.getD i (dflt .tree)))] [] [] (.val (vb (sameT (t.v.getD i (dflt .tree)) (u.v.getD i (dflt .tree))))))], [], []⟩)]) (bs := [true, true]) (tk := [4]) (bk := []) (C := ((tr 5 True) ∧ ((decide (((i : Nat) : Int) < (t.v.length : Int))) = true) ∧ True) ∧ (tr 3 ((0 ≤ ((i : Nat) : Int) ∧ ((i : Nat) : Int) < t.v.length) ∧ (tr 4 ((0 ≤ ((i : Nat) : Int) ∧ ((i : Nat) : Int) < u.v.length) ∧ True ∧ (okArgs [.agg (encTree (t.v.getD i (dflt .tree))), .agg (encTree (u.v.getD i (dflt .tree)))]) ∧ True ∧ True)))) ∧ ((!(sameT (t.v.getD i (dflt .tree)) (u.v.getD i (dflt .tree)))) = true) ∧ (True ∧ True) ∧ True) (lv := .ret) (T' := [(4, vb false)]) (B' := []) mix hI hs ?_ ?_ ?_ ?_
             ·exact ⟨⟨⟨ent18, ih _ _ (by have h1 := nodes_eq t; have h2 := nodes_at (l := t.v) (i := i) (by omega); omega) (fine_at hft (by omega) _) (fine_at hfu (by omega) _)⟩, trivial⟩, trivial⟩
             ·kernel_rfl
             ·exact ⟨⟨tr_mk trivial 5, b26, trivial⟩, tr_mk (⟨⟨by omega, by omega⟩, tr_mk (⟨⟨by omega, by omega⟩, trivial, rfl, trivial, trivial⟩) 4⟩) 3, (by rw [b27]; rfl), ⟨trivial, trivial⟩, trivial⟩
             intro a w hs
             refine then_ret ?_
             refine inb_ret ?_
             refine inb_ret ?_
             refine then_ret ?_
             exact FnQ_cast (out := .val (vb false)) (by rw [sameT_eq]; (repeat (first | rw [if_pos (by omega)] | rw [if_neg (by omega)])); rw [decide_eq_true (show t.v.length = u.v.length by omega), decide_eq_true (show t.k.length = u.k.length by omega), decide_eq_true (keys_eq (a := t.k) (b := u.k) (by omega) (fun j hj => hall j (by omega))), ← hd, sameL_drop (i := i) (by omega) (by omega), b27]; rfl) (ret_ok [] hs ⟨by kernel_rfl, rfl⟩)
           ·skip
            have n26 := of_decide_eq_false b26
            refine way_L (tt := tt) (rs := []) (bs := [false]) (tk := []) (bk := []) (C := (tr 5 True) ∧ ((decide (((i : Nat) : Int) < (t.v.length : Int))) = false) ∧ True) (lv := .exit 3) (T' := []) (B' := []) mix hI hs ?_ ?_ ?_ ?_
            ·exact trivial
            ·kernel_rfl
            ·exact ⟨tr_mk trivial 5, b26, trivial⟩
            intro a w hs
            refine then_exit ?_
            refine inb_hit ?_
            refine inb_norm ?_
            refine then_norm ?_
            refine way_L (tt := tt) (rs := []) (bs := []) (tk := [4]) (bk := []) (C := (True ∧ True) ∧ True) (lv := .ret) (T' := [(4, vb true)]) (B' := []) mix hI hs ?_ ?_ ?_ ?_
            ·exact trivial
            ·kernel_rfl
            ·exact ⟨⟨trivial, trivial⟩, trivial⟩
            intro a w hs
            exact FnQ_cast (out := .val (vb true)) (by rw [sameT_eq]; (repeat (first | rw [if_pos (by omega)] | rw [if_neg (by omega)])); rw [decide_eq_true (show t.v.length = u.v.length by omega), decide_eq_true (show t.k.length = u.k.length by omega), decide_eq_true (keys_eq (a := t.k) (b := u.k) (by omega) (fun j hj => hall j (by omega))), ← hd, List.drop_of_length_le (by omega)]; rfl) (ret_ok [] hs ⟨by kernel_rfl, rfl⟩)
       ·have b28 := hb
        clear hb
        have n28 := beq_eq_false_iff_ne.1 b28
        refine way_L (tt := tt) (rs := []) (bs := []) (tk := []) (bk := []) (C := True) (lv := .norm) (T' := []) (B' := []) mix hI hs ?_ ?_ ?_ ?_
        ·exact trivial
        ·kernel_rfl
        ·exact trivial
        intro a w hs
        refine inb_norm ?_
        refine then_norm ?_
        refine way_L (tt := tt) (rs := []) (bs := []) (tk := [4]) (bk := []) (C := (True ∧ True) ∧ True) (lv := .ret) (T' := [(4, vb true)]) (B' := []) mix hI hs ?_ ?_ ?_ ?_
        ·exact trivial
        ·kernel_rfl
        ·exact ⟨⟨trivial, trivial⟩, trivial⟩
        intro a w hs
        exact FnQ_cast (out := .val (vb true)) (by rw [sameT_eq]; (repeat (first | rw [if_pos (by omega)] | rw [if_neg (by omega)]))) (ret_ok [] hs ⟨by kernel_rfl, rfl⟩)
theorem con18 (t u : Tree) (ht : fineT t) (hu : fineT u) : Con Tryz.prog I0 18 [.agg (encTree t), .agg (encTree u)] (.val (vb (sameT t u))) := con18_ (nodes t + 1) t u (Nat.lt_succ_self _) ht hu
end Go.Proofs.YtondpnipoogoiaaGreatDoor.F
namespace Go.Proofs.YtondpnipoogoiaaGreatDoor.F
open Go Go.RowKit Go.Proofs.Tryz
set_option linter.unusedVariables false
set_option linter.unusedSimpArgs false
def validT (t : Tree) : Bool := (chk t 1 2000).1
mutual
def fewT : Tree → Bool
  | .mk _ _ _ _ _ v => decide ((v.length : Int) ≤ 300) && fewL v
def fewL : List Tree → Bool
  | [] => true
  | t :: l => fewT t && fewL l
end
theorem fewT_eq (t : Tree) : fewT t = (decide ((t.v.length : Int) ≤ 300) && fewL t.v) := by cases t; rfl
theorem fewL_any : ∀ l : List Tree, fewL l = !(l.any fun t => !fewT t)
  | [] => rfl
  | t :: l => by simp only [fewL, List.any_cons, fewL_any l]; cases fewT t <;> simp
set_option maxRecDepth 100000 in
theorem con57 (t : Tree) (hft : fineT t) : Con Tryz.prog I0 57 [.agg (encTree t)] (.val (vb (validT t))) := by
 refine con_of Tryz.func57 rfl (Nat.le_of_ble_eq_true rfl) stab (fun w0 fz a hI hs => ?_)
 refine way_L (tt := tt) (rs := [(2, ⟨[(1, ciB 117 [.agg (encTree t), vi 1, .ptr 0 0] [] (.val (vb (validT t))) [(0, .var [vi 2000])] [(0, .var [vi ((chk t 1 2000).2)])] [(0, 2000)])], [], []⟩)]) (bs := []) (tk := [2]) (bk := []) (C := (True ∧ True ∧ True) ∧ (True ∧ True ∧ True) ∧ (True ∧ (okArgs [.agg (encTree t), vi 1, .ptr 2000 0] ∧ okBxs [some (.var [vi 2000])]) ∧ True ∧ True) ∧ True) (lv := .ret) (T' := [(2, vb (validT t))]) (B' := []) mix hI hs ?_ ?_ ?_ ?_
 ·exact ⟨⟨⟨ent117, con117_ (nodes t + 1) t 1 2000 (Nat.lt_succ_self _) hft (by decide) (by decide) (by decide) (by decide)⟩, trivial⟩, trivial⟩
 ·kernel_rfl
 ·exact ⟨⟨trivial, trivial, trivial⟩, ⟨trivial, trivial, trivial⟩, ⟨trivial, ⟨rfl, rfl⟩, trivial, trivial⟩, trivial⟩
 intro a w hs
 exact FnQ_cast (out := .val (vb (validT t))) (rfl) (ret_ok [] hs ⟨by kernel_rfl, rfl⟩)
set_option maxRecDepth 100000 in
theorem conIx_mask (xs : List Tree) (q : Tree → Bool) (H : ∀ t ∈ xs, Con Tryz.prog I0 138 [.agg (encTree t)] (.val (vb (q t)))) (hlen : xs.length < 4611686018427387904) : Con Tryz.prog I0 193 [.row .tree xs, .lit (.func (.func 138) #[] #[])] (.val (vi (idxF q xs))) := by
 refine con_of Tryz.func193 rfl (Nat.le_of_ble_eq_true rfl) stab (fun w0 fz a hI hs => ?_)
 refine wp_seq ?_
 refine way_L (tt := tt) (rs := []) (bs := []) (tk := [0, 1]) (bk := []) (C := True ∧ True) (lv := .norm) (T' := [(0, .row .tree xs), (1, .lit (.func (.func 138) #[] #[]))]) (B' := []) mix hI hs ?_ ?_ ?_ ?_
 ·exact trivial
 ·kernel_rfl
 ·exact ⟨trivial, trivial⟩
 intro a w hs
 refine then_norm ?_
 refine wp_seq ?_
 refine wp_seq ?_
 refine way_L (tt := tt) (rs := []) (bs := []) (tk := [0, 1, 7, 8]) (bk := []) (C := tr 3 True) (lv := .norm) (T' := [(0, .row .tree xs), (1, .lit (.func (.func 138) #[] #[])), (7, vi (xs.length : Int)), (8, vi 0)]) (B' := []) mix hI hs ?_ ?_ ?_ ?_
 ·exact trivial
 ·kernel_rfl
 ·exact tr_mk trivial 3
 intro a w hs
 refine then_norm ?_
 refine wp_block ?_
 refine loop_L (N := Tryz.f193.ntmps) (w0 := w0) (ow := noO fz) (α := Nat) (fun p => [(0, .row .tree xs), (1, .lit (.func (.func 138) #[] #[])), (7, vi (xs.length : Int)), (8, vi ((p : Nat) : Int))]) (fun p => []) (fun p => p ≤ xs.length ∧ ∀ j, j < p → ∀ d, q (xs.getD j d) = false) (fun p => xs.length - p) 0 ?_ ?_ ?_
 ·exact ⟨Nat.zero_le _, fun j hj => absurd hj (Nat.not_lt_zero _)⟩
 ·(have e0_ : (0) = (((0 : Nat) : Int)) := (by first | rfl | (rfl)); exact (SimL.cast hs (T' := [(0, .row .tree xs), (1, .lit (.func (.func 138) #[] #[])), (7, vi (xs.length : Int)), (8, vi ((0 : Nat) : Int))]) (B' := []) (by first | rfl | (rw [e0_]; done) | (simp only [e0_]; done) | (simp only [e0_]; rfl)) (by first | rfl | (rw [e0_]; done) | (simp only [e0_]; done) | (simp only [e0_]; rfl))).ren [] (by kernel_rfl) (by kernel_rfl) (by kernel_rfl))
 rintro i hJ a w hs
 obtain ⟨hi, hall⟩ := hJ
 rcases Bool.eq_false_or_eq_true (decide (((i : Nat) : Int) < (xs.length : Int))) with b1 | b1
 ·skip
  have n1 := of_decide_eq_true b1
  rcases Bool.eq_false_or_eq_true (q (xs.getD i (dflt .tree))) with b2 | b2
  ·skip
   refine way_L (tt := tt) (rs := [(4, ⟨[(5, ciA 138 [.agg (encTree (xs.getD i (dflt .tree)))] [] [] (.val (vb (q (xs.getD i (dflt .tree))))))], [], []⟩)]) (bs := [true, true]) (tk := [4]) (bk := []) (C := (True ∧ True) ∧ (((decide (((i : Nat) : Int) < (xs.length : Int))) = true) ∧ True) ∧ (True ∧ True ∧ True) ∧ (tr 3 ((0 ≤ ((i : Nat) : Int) ∧ ((i : Nat) : Int) < xs.length) ∧ True ∧ (okArgs [.agg (encTree (xs.getD i (dflt .tree)))]) ∧ True)) ∧ ((q (xs.getD i (dflt .tree))) = true) ∧ (True ∧ True ∧ True) ∧ True) (lv := .ret) (T' := [(4, vi ((i : Nat) : Int))]) (B' := []) mix hI hs ?_ ?_ ?_ ?_
   ·exact ⟨⟨⟨ent138, H _ (getD_mem (by omega) _)⟩, trivial⟩, trivial⟩
   ·kernel_rfl
   ·exact ⟨⟨trivial, trivial⟩, ⟨b1, trivial⟩, ⟨trivial, trivial, trivial⟩, tr_mk (⟨⟨by omega, by omega⟩, trivial, rfl, trivial⟩) 3, b2, ⟨trivial, trivial, trivial⟩, trivial⟩
   intro a w hs
   refine then_ret ?_
   refine inb_ret ?_
   refine then_ret ?_
   exact FnQ_cast (out := .val (vi ((i : Nat) : Int))) (by rw [idxF_at (q := q) (i := i) (dflt .tree) (by omega) b2 (fun j hj d => hall j hj d)]) (ret_ok [] hs ⟨by kernel_rfl, rfl⟩)
  ·skip
   refine way_L (tt := tt) (rs := [(4, ⟨[(5, ciA 138 [.agg (encTree (xs.getD i (dflt .tree)))] [] [] (.val (vb (q (xs.getD i (dflt .tree))))))], [], []⟩)]) (bs := [true, false]) (tk := [0, 1, 7, 8]) (bk := []) (C := (True ∧ True) ∧ (((decide (((i : Nat) : Int) < (xs.length : Int))) = true) ∧ True) ∧ ((True ∧ True ∧ True) ∧ (tr 3 ((0 ≤ ((i : Nat) : Int) ∧ ((i : Nat) : Int) < xs.length) ∧ True ∧ (okArgs [.agg (encTree (xs.getD i (dflt .tree)))]) ∧ True)) ∧ ((q (xs.getD i (dflt .tree))) = false) ∧ True) ∧ (InR .i64 (((i : Nat) : Int) + 1)) ∧ True ∧ True) (lv := .norm) (T' := [(0, .row .tree xs), (1, .lit (.func (.func 138) #[] #[])), (7, vi (xs.length : Int)), (8, vi (((i : Nat) : Int) + 1))]) (B' := []) mix hI hs ?_ ?_ ?_ ?_
   ·exact ⟨⟨⟨ent138, H _ (getD_mem (by omega) _)⟩, trivial⟩, trivial⟩
   ·kernel_rfl
   ·exact ⟨⟨trivial, trivial⟩, ⟨b1, trivial⟩, ⟨⟨trivial, trivial, trivial⟩, tr_mk (⟨⟨by omega, by omega⟩, trivial, rfl, trivial⟩) 3, b2, trivial⟩, (inR64 (by omega) (by omega)), trivial, trivial⟩
   intro a w hs
   refine then_norm ⟨i + 1, ⟨by omega, fun j hj d => by rcases Nat.lt_succ_iff_lt_or_eq.1 hj with h | h; exact hall j h d; subst h; rw [getD_any (by omega) d (dflt .tree)]; exact b2⟩, by omega, ?_⟩
   (have e0_ : (((i : Nat) : Int) + 1) = ((((i + 1) : Nat) : Int)) := (by first | rfl | (omega)); exact (SimL.cast hs (T' := [(0, .row .tree xs), (1, .lit (.func (.func 138) #[] #[])), (7, vi (xs.length : Int)), (8, vi (((i + 1) : Nat) : Int))]) (B' := []) (by first | rfl | (rw [e0_]; done) | (simp only [e0_]; done) | (simp only [e0_]; rfl)) (by first | rfl | (rw [e0_]; done) | (simp only [e0_]; done) | (simp only [e0_]; rfl))).ren [] (by kernel_rfl) (by kernel_rfl) (by kernel_rfl))
 ·skip
  have n1 := of_decide_eq_false b1
  refine way_L (tt := tt) (rs := []) (bs := [false]) (tk := []) (bk := []) (C := (True ∧ True) ∧ ((decide (((i : Nat) : Int) < (xs.length : Int))) = false) ∧ True) (lv := .exit 0) (T' := []) (B' := []) mix hI hs ?_ ?_ ?_ ?_
  ·exact trivial
  ·kernel_rfl
  ·exact ⟨⟨trivial, trivial⟩, b1, trivial⟩
  intro a w hs
  refine then_exit ?_
  refine inb_hit ?_
  refine then_norm ?_
  refine way_L (tt := tt) (rs := []) (bs := []) (tk := [4]) (bk := []) (C := (True ∧ True) ∧ True) (lv := .ret) (T' := [(4, vi (-1))]) (B' := []) mix hI hs ?_ ?_ ?_ ?_
  ·exact trivial
  ·kernel_rfl
  ·exact ⟨⟨trivial, trivial⟩, trivial⟩
  intro a w hs
  exact FnQ_cast (out := .val (vi (-1))) (by rw [idxF_no (q := q) (fun j hj d => hall j (by omega) d)]) (ret_ok [] hs ⟨by kernel_rfl, rfl⟩)
set_option maxRecDepth 100000 in
theorem conCf_mask (xs : List Tree) (q : Tree → Bool) (H : ∀ t ∈ xs, Con Tryz.prog I0 138 [.agg (encTree t)] (.val (vb (q t)))) (hlen : xs.length < 4611686018427387904) : Con Tryz.prog I0 137 [.row .tree xs, .lit (.func (.func 138) #[] #[])] (.val (vb (xs.any q))) := by
 refine con_of Tryz.func137 rfl (Nat.le_of_ble_eq_true rfl) stab (fun w0 fz a hI hs => ?_)
 refine way_L (tt := tt) (rs := [(1, ⟨[(2, ciA 193 [.row .tree xs, .lit (.func (.func 138) #[] #[])] [] [] (.val (vi (idxF q xs))))], [], []⟩)]) (bs := []) (tk := [4]) (bk := []) (C := (True ∧ True) ∧ (True ∧ True ∧ (okArgs [.row .tree xs, .lit (.func (.func 138) #[] #[])]) ∧ True ∧ True ∧ True) ∧ True) (lv := .ret) (T' := [(4, vb (decide ((idxF q xs) ≥ 0)))]) (B' := []) mix hI hs ?_ ?_ ?_ ?_
 ·exact ⟨⟨⟨ent193, conIx_mask _ _ H hlen⟩, trivial⟩, trivial⟩
 ·kernel_rfl
 ·exact ⟨⟨trivial, trivial⟩, ⟨trivial, trivial, rfl, trivial, trivial, trivial⟩, trivial⟩
 intro a w hs
 exact FnQ_cast (out := .val (vb (decide ((idxF q xs) ≥ 0)))) (by rw [← idxF_any]) (ret_ok [] hs ⟨by kernel_rfl, rfl⟩)
set_option maxRecDepth 100000 in
theorem conF1_mask (t : Tree) (h : Con Tryz.prog I0 81 [.agg (encTree t)] (.val (vb (fewT t)))) : Con Tryz.prog I0 138 [.agg (encTree t)] (.val (vb (!fewT t))) := by
 refine con_of Tryz.func138 rfl (Nat.le_of_ble_eq_true rfl) stab (fun w0 fz a hI hs => ?_)
 refine way_L (tt := tt) (rs := [(1, ⟨[(1, ciA 81 [.agg (encTree t)] [] [] (.val (vb (fewT t))))], [], []⟩)]) (bs := []) (tk := [2]) (bk := []) (C := (True ∧ True ∧ True) ∧ (True ∧ (okArgs [.agg (encTree t)]) ∧ True ∧ True ∧ True) ∧ True) (lv := .ret) (T' := [(2, vb (!(fewT t)))]) (B' := []) mix hI hs ?_ ?_ ?_ ?_
 ·exact ⟨⟨⟨ent81, h⟩, trivial⟩, trivial⟩
 ·kernel_rfl
 ·exact ⟨⟨trivial, trivial, trivial⟩, ⟨trivial, rfl, trivial, trivial, trivial⟩, trivial⟩
 intro a w hs
 exact FnQ_cast (out := .val (vb (!(fewT t)))) (rfl) (ret_ok [] hs ⟨by kernel_rfl, rfl⟩)
set_option maxRecDepth 100000 in
theorem conFew_mask_ : ∀ (n : Nat) (t : Tree), nodes t < n → nodes t < 4611686018427387904 → Con Tryz.prog I0 81 [.agg (encTree t)] (.val (vb (fewT t))) := by
 intro n
 induction n
 case zero => intro t hn; omega
 rename_i n ih
 intro t hn hw
 have hnl := nodesL_len t.v
 have hne := nodes_eq t
 refine con_of Tryz.func81 rfl (Nat.le_of_ble_eq_true rfl) stab (fun w0 fz a hI hs => ?_)
 rcases Bool.eq_false_or_eq_true (decide ((t.v.length : Int) ≤ 300)) with b1 | b1
 ·skip
  have n1 := of_decide_eq_true b1
  refine way_L (tt := tt) (rs := [(1, ⟨[(7, ciA 137 [.row .tree t.v, .lit (.func (.func 138) #[] #[])] [] [] (.val (vb (t.v.any (fun t => !fewT t)))))], [(5, true), (6, true), (7, true), (8, true), (1009, true)], []⟩)]) (bs := []) (tk := [2]) (bk := []) (C := (True ∧ True ∧ True) ∧ (tr 5 (((decide ((t.v.length : Int) ≤ 300)) = true) ∧ True ∧ ((decide ((t.v.length : Int) ≤ 300)) = true) ∧ True ∧ ((decide ((t.v.length : Int) ≤ 300)) = true) ∧ (okArgs [.row .tree t.v, .lit (.func (.func 138) #[] #[])]) ∧ ((decide ((t.v.length : Int) ≤ 300)) = true) ∧ True ∧ ((decide ((t.v.length : Int) ≤ 300)) = true) ∧ True ∧ True)) ∧ True) (lv := .ret) (T' := [(2, vb (!(t.v.any (fun t => !fewT t))))]) (B' := []) mix hI hs ?_ ?_ ?_ ?_
  ·exact ⟨⟨⟨ent137, conCf_mask _ (fun t => !fewT t) (fun x hx => conF1_mask x (ih x (by have h1 := nodes_eq t; have h2 := nodesL_mem hx; omega) (by have h1 := nodes_eq t; have h2 := nodesL_mem hx; omega))) (by omega)⟩, trivial⟩, trivial⟩
  ·kernel_rfl
  ·exact ⟨⟨trivial, trivial, trivial⟩, tr_mk (⟨b1, trivial, b1, trivial, b1, rfl, b1, trivial, b1, trivial, trivial⟩) 5, trivial⟩
  intro a w hs
  exact FnQ_cast (out := .val (vb (!(t.v.any (fun t => !fewT t))))) (by rw [fewT_eq, b1, fewL_any]; simp) (ret_ok [] hs ⟨by kernel_rfl, rfl⟩)
 ·skip
  have n1 := of_decide_eq_false b1
  refine way_L (tt := tt) (rs := [(1, ⟨[], [(5, false), (6, false), (7, false), (8, false), (1009, false)], []⟩)]) (bs := []) (tk := [2]) (bk := []) (C := (True ∧ True ∧ True) ∧ (tr 5 (((decide ((t.v.length : Int) ≤ 300)) = false) ∧ ((decide ((t.v.length : Int) ≤ 300)) = false) ∧ ((decide ((t.v.length : Int) ≤ 300)) = false) ∧ ((decide ((t.v.length : Int) ≤ 300)) = false) ∧ ((decide ((t.v.length : Int) ≤ 300)) = false) ∧ True ∧ True)) ∧ True) (lv := .ret) (T' := [(2, vb false)]) (B' := []) mix hI hs ?_ ?_ ?_ ?_
  ·exact ⟨trivial, trivial⟩
  ·kernel_rfl
  ·exact ⟨⟨trivial, trivial, trivial⟩, tr_mk (⟨b1, b1, b1, b1, b1, trivial, trivial⟩) 5, trivial⟩
  intro a w hs
  exact FnQ_cast (out := .val (vb false)) (by rw [fewT_eq, b1, fewL_any]; simp) (ret_ok [] hs ⟨by kernel_rfl, rfl⟩)
theorem conFew_mask (t : Tree) (h : nodes t < 4611686018427387904) : Con Tryz.prog I0 81 [.agg (encTree t)] (.val (vb (fewT t))) := conFew_mask_ (nodes t + 1) t (Nat.lt_succ_self _) h
end Go.Proofs.YtondpnipoogoiaaGreatDoor.F
