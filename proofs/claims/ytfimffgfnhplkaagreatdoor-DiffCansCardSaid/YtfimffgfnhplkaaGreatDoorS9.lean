import Derived.Test.YtfimffgfnhplkaaGreatDoorS8
set_option maxRecDepth 100000
set_option linter.unusedVariables false
set_option linter.unusedSimpArgs false
namespace Go.Proofs.YtfimffgfnhplkaaGreatDoor.F
open Go Go.RowKit Go.Proofs.Tryz
theorem contB_lt {s : ByteArray} {k : Nat} (h : contB s k = true) : k < s.size := by
 unfold contB at h; rw [Bool.and_eq_true] at h; exact of_decide_eq_true h.1
theorem cont_in {s : ByteArray} {at_ : Int} {k : Nat} (h : at_ = k) : (bitsAnd .u8 (byteAt s at_) 192 == 128) = (bN s k / 64 == 2) := by
 subst h; rw [byteAt_bN]; exact (and_u8 _ (bN_lt s k)).2
theorem b32 (s : ByteArray) (i : Nat) : IntKind.wrap .i32 (byteAt s (i : Int)) = (bN s i : Int) := by
 rw [byteAt_bN]; have := bN_lt s i; exact wrap32 (by omega) (by omega)
theorem low6 {s : ByteArray} {at_ : Int} {k : Nat} (h : at_ = k) : IntKind.wrap .i32 (bitsAnd .u8 (byteAt s at_) 63) = ((bN s k % 64 : Nat) : Int) := by
 subst h
 rw [byteAt_bN, (and_u8 _ (bN_lt s k)).1]
 exact wrap32 (by omega) (by omega)
theorem p6 : (2 : Nat) ^ 6 = 64 := rfl
theorem p12 : (2 : Nat) ^ 12 = 4096 := rfl
theorem p18 : (2 : Nat) ^ 18 = 262144 := rfl
theorem mul_lo (X y : Nat) : X * 2 ^ 12 + y * 2 ^ 6 = (X * 64 + y) * 2 ^ 6 := by rw [p12, p6]; omega
theorem rune2_eq (s : ByteArray) (i : Nat) : bitsOr .i32 (IntKind.wrap .i32 ((bitsAnd .i32 (bN s i : Int) 31) * 2 ^ 6)) (IntKind.wrap .i32 (bitsAnd .u8 (byteAt s ((i : Int) + 1)) 63)) = (rune2 s i : Int) := by
 have h := bN_lt s i
 rw [low6 (k := i + 1) (by omega), (and_i32 _ h).1, shl32 6 (by omega), or32 6 (by omega) (by omega)]; rfl
theorem rune3_eq (s : ByteArray) (i : Nat) : bitsOr .i32 (bitsOr .i32 (IntKind.wrap .i32 ((bitsAnd .i32 (bN s i : Int) 15) * 2 ^ 12)) (IntKind.wrap .i32 ((IntKind.wrap .i32 (bitsAnd .u8 (byteAt s ((i : Int) + 1)) 63)) * 2 ^ 6))) (IntKind.wrap .i32 (bitsAnd .u8 (byteAt s ((i : Int) + 2)) 63)) = (rune3 s i : Int) := by
 have h := bN_lt s i
 rw [low6 (k := i + 1) (by omega), low6 (k := i + 2) (by omega), (and_i32 _ h).2.1, shl32 12 (by rw [p12]; omega), shl32 6 (by omega), or32 12 (by rw [p12]; omega) (by rw [p12]; omega)]
 have e : bN s i % 16 * 2 ^ 12 + bN s (i + 1) % 64 * 2 ^ 6 = (bN s i % 16 * 64 + bN s (i + 1) % 64) * 2 ^ 6 := mul_lo _ _
 rw [e, or32 6 (by omega) (by omega)]
 unfold rune3; omega
theorem rune4_eq (s : ByteArray) (i : Nat) : bitsOr .i32 (bitsOr .i32 (bitsOr .i32 (IntKind.wrap .i32 ((bitsAnd .i32 (bN s i : Int) 7) * 2 ^ 18)) (IntKind.wrap .i32 ((IntKind.wrap .i32 (bitsAnd .u8 (byteAt s ((i : Int) + 1)) 63)) * 2 ^ 12))) (IntKind.wrap .i32 ((IntKind.wrap .i32 (bitsAnd .u8 (byteAt s ((i : Int) + 2)) 63)) * 2 ^ 6))) (IntKind.wrap .i32 (bitsAnd .u8 (byteAt s ((i : Int) + 3)) 63)) = (rune4 s i : Int) := by
 have h := bN_lt s i
 rw [low6 (k := i + 1) (by omega), low6 (k := i + 2) (by omega), low6 (k := i + 3) (by omega), (and_i32 _ h).2.2, shl32 18 (by rw [p18]; omega), shl32 12 (by rw [p12]; omega), shl32 6 (by omega), or32 18 (by rw [p18]; omega) (by rw [p18]; omega)]
 have e : bN s i % 8 * 2 ^ 18 + bN s (i + 1) % 64 * 2 ^ 12 = (bN s i % 8 * 64 + bN s (i + 1) % 64) * 2 ^ 12 := by rw [p18, p12, Nat.add_mul, Nat.mul_assoc]
 rw [e, or32 12 (by rw [p12]; omega) (by rw [p12]; omega)]
 have e2 : (bN s i % 8 * 64 + bN s (i + 1) % 64) * 2 ^ 12 + bN s (i + 2) % 64 * 2 ^ 6 = ((bN s i % 8 * 64 + bN s (i + 1) % 64) * 64 + bN s (i + 2) % 64) * 2 ^ 6 := mul_lo _ _
 rw [e2, or32 6 (by omega) (by omega)]
 unfold rune4; omega
theorem con276 (s : ByteArray) (at_ : Int) (k : Nat) (hk : at_ = k) : Con Tryz.prog I0 189 [vs s, vi at_] (.val (vb (contB s k))) := by
 refine con_of Tryz.func189 rfl (Nat.le_of_ble_eq_true rfl) stab (fun w0 fz a hI hs => ?_)
 rcases bd (at_ < (s.size : Int)) with ⟨b1, n1⟩ | ⟨b1, n1⟩
 refine wL hs hI [(1, rg [] [5, 6, 7, 8, 9, 1010] [])] [] 126666177733770820 [q1 b1, q1 b1, q1 b1, q4 at_ s.size, q1 b1, q1 b1, q1 b1] .ret [(4, vb ((bitsAnd .u8 (byteAt s at_) 192) == 128))] [] tv fun a w hs => ?_
 exact rK (.val (vb ((bitsAnd .u8 (byteAt s at_) 192) == 128))) [] hs (by unfold contB; rw [← cont_in (s := s) hk, show decide (k < s.size) = true from by simp; omega]; simp_all)
 refine wL hs hI [(1, rg [] [] [5, 6, 7, 8, 9, 1010])] [] 166617333330820 [q1 b1, q1 b1, q1 b1, q1 b1, q1 b1, q1 b1] .ret [(4, vb false)] [] tv fun a w hs => ?_
 exact rK (.val (vb false)) [] hs (by unfold contB; rw [← cont_in (s := s) hk, show decide (k < s.size) = false from by simp; omega]; simp_all)
theorem con261 (s : ByteArray) (i : Nat) (hi : i < s.size) (hz : s.size < 4294967281) : Con Tryz.prog I0 182 [vs s, vi (i : Int)] (.val (.tup [.lit (.int .i32 ((runeF s i).1)), vi ((runeF s i).2)])) := by
 refine con_of Tryz.func182 rfl (Nat.le_of_ble_eq_true rfl) stab (fun w0 fz a hI hs => ?_)
 refine wNs hs hI [] 8 [] [(0, vs s), (1, vi (i : Int))] [] fun a w hs => ?_
 refine wp_seq ?_
 have b1 : (decide ((i : Int) < 0)) = false := by exact decide_eq_false (by omega)
 have b2 : (decide ((i : Int) ≥ (s.size : Int))) = false := by exact decide_eq_false (by omega)
 refine wL hs hI [(1, rg [] [3, 4, 5, 6] [1007])] (bz 1 0) 7666777778 [q1 b1, q1 b1, q1 b1, q1 b1, q1 b1, q1 b2] .norm [(0, vs s), (1, vi (i : Int))] [] tv fun a w hs => ?_
 refine then_norm ?_
 refine wp_cut (N := Tryz.f182.ntmps) (w0 := w0) (ow := noO fz) (T := [(0, vs s), (1, vi (i : Int)), (6, .lit (.int .i32 (bN s i : Int)))]) (B := []) (True) ?_ ?_
 refine wN hs hI [] 1170 [q4 (i : Int) s.size] .norm [(0, vs s), (1, vi (i : Int)), (6, .lit (.int .i32 (IntKind.wrap .i32 (byteAt s (i : Int)))))] [] fun a w hs => ?_
 refine then_norm ⟨trivial, ?_⟩
 (have e0_ : (IntKind.wrap .i32 (byteAt s (i : Int))) = ((bN s i : Int)) := (by first | rfl | (exact b32 s i)); exact (hs.cst [(0, vs s), (1, vi (i : Int)), (6, .lit (.int .i32 (bN s i : Int)))] [] (by first | (rw [e0_]; done) | (simp only [e0_]; done) | rfl | (simp only [e0_]; rfl))).rk [])
 intro hF a w hs
 refine wp_seq ?_
 refine wp_block ?_
 refine wNs hs hI [] 18 [] [(0, vs s), (1, vi (i : Int)), (6, .lit (.int .i32 (bN s i : Int))), (21, vb (decide ((bN s i : Int) < 128)))] [] fun a w hs => ?_
 refine cond_L (c := 21) hs (b := decide ((bN s i : Int) < 128)) rfl (fun hb => ?_) (fun hb => ?_)
 have b3 := hb
 clear hb
 have n3 := dT b3
 refine wN hs hI [] 12918 [] .ret [(4, .lit (.int .i32 (bN s i : Int))), (5, vi 1)] [] fun a w hs => ?_
 refine inb_ret ?_
 refine then_ret ?_
 exact rK (.val (.tup [.lit (.int .i32 (bN s i : Int)), vi 1])) [] hs (by rw [runeF, if_pos (by omega)])
 have b4 := hb
 clear hb
 have n4 := dF b4
 refine wp_cut (N := Tryz.f182.ntmps) (w0 := w0) (ow := noO fz) (T := [(0, vs s), (1, vi (i : Int)), (6, .lit (.int .i32 (bN s i : Int))), (25, vb (c2B s i))]) (B := []) (True) ?_ ?_
 rcases bd ((bN s i : Int) ≥ 194) with ⟨b5, n5⟩ | ⟨b5, n5⟩
 rcases bd ((bN s i : Int) < 224) with ⟨b6, n6⟩ | ⟨b6, n6⟩
 refine wL hs hI [(6, rg [(10, ciV 189 [vs s, vi ((i : Int) + 1)] (vb (contB s (i + 1))))] [3, 4, 1005, 7, 8, 9, 10, 1011] [])] [] 174333777778 [q1 b5, q1 b5, q1 b5, q1 b6, q1 b6, q1 b6, q3 ((i : Int) + 1), q1 b6, q1 b6] .norm [(0, vs s), (1, vi (i : Int)), (6, .lit (.int .i32 (bN s i : Int))), (25, vb (contB s (i + 1)))] [] ⟨con276 _ _ (i + 1) (by omega), tv⟩ fun a w hs => ?_
 refine then_norm ⟨trivial, ?_⟩
 (have e0_ : (contB s (i + 1)) = (c2B s i) := (by first | rfl | (simp [c2B, b5, b6])); exact (hs.cst [(0, vs s), (1, vi (i : Int)), (6, .lit (.int .i32 (bN s i : Int))), (25, vb (c2B s i))] [] (by first | (rw [e0_]; done) | (simp only [e0_]; done) | rfl | (simp only [e0_]; rfl))).rk [])
 refine wL hs hI [(6, rg [] [3, 4, 1005] [7, 8, 9, 10, 1011])] [] 1733337778 [q1 b5, q1 b5, q1 b5, q1 b6, q1 b6, q1 b6, q1 b6, q1 b6] .norm [(0, vs s), (1, vi (i : Int)), (6, .lit (.int .i32 (bN s i : Int))), (25, vb false)] [] tv fun a w hs => ?_
 refine then_norm ⟨trivial, ?_⟩
 (have e0_ : (false) = (c2B s i) := (by first | rfl | (simp [c2B, b5, b6])); exact (hs.cst [(0, vs s), (1, vi (i : Int)), (6, .lit (.int .i32 (bN s i : Int))), (25, vb (c2B s i))] [] (by first | (rw [e0_]; done) | (simp only [e0_]; done) | rfl | (simp only [e0_]; rfl))).rk [])
 refine wL hs hI [(6, rg [] [] [3, 4, 1005, 7, 8, 9, 10, 1011])] [] 1733337338 [q1 b5, q1 b5, q1 b5, q0 false, q0 false, q0 false, q0 false, q0 false] .norm [(0, vs s), (1, vi (i : Int)), (6, .lit (.int .i32 (bN s i : Int))), (25, vb false)] [] tv fun a w hs => ?_
 refine then_norm ⟨trivial, ?_⟩
 (have e0_ : (false) = (c2B s i) := (by first | rfl | (simp [c2B, b5])); exact (hs.cst [(0, vs s), (1, vi (i : Int)), (6, .lit (.int .i32 (bN s i : Int))), (25, vb (c2B s i))] [] (by first | (rw [e0_]; done) | (simp only [e0_]; done) | rfl | (simp only [e0_]; rfl))).rk [])
 intro hF a w hs
 refine cond_L (c := 25) hs (b := c2B s i) rfl (fun hb => ?_) (fun hb => ?_)
 have b7 := hb
 clear hb
 have hc1 := contB_lt (s := s) (k := i + 1) (by have hq : c2B s i = true := (by assumption); simp only [c2B, Bool.and_eq_true] at hq; exact hq.2.2)
 refine wN hs hI [] 1666087308 [q3 ((i : Int) + 1), q4 ((i : Int) + 1) s.size] .ret [(4, .lit (.int .i32 (bitsOr .i32 (IntKind.wrap .i32 ((bitsAnd .i32 (bN s i : Int) 31) * 2 ^ 6)) (IntKind.wrap .i32 (bitsAnd .u8 (byteAt s ((i : Int) + 1)) 63))))), (5, vi 2)] [] fun a w hs => ?_
 refine inb_ret ?_
 refine then_ret ?_
 exact rK (.val (.tup [.lit (.int .i32 (bitsOr .i32 (IntKind.wrap .i32 ((bitsAnd .i32 (bN s i : Int) 31) * 2 ^ 6)) (IntKind.wrap .i32 (bitsAnd .u8 (byteAt s ((i : Int) + 1)) 63)))), vi 2])) [] hs (by rw [rune2_eq]; rw [runeF, if_neg (by omega), if_pos b7])
 have b8 := hb
 clear hb
 refine wp_cut (N := Tryz.f182.ntmps) (w0 := w0) (ow := noO fz) (T := [(0, vs s), (1, vi (i : Int)), (6, .lit (.int .i32 (bN s i : Int))), (48, vb (c3B s i))]) (B := []) (True) ?_ ?_
 rcases bd ((bN s i : Int) ≥ 224) with ⟨b9, n9⟩ | ⟨b9, n9⟩
 rcases bd ((bN s i : Int) < 240) with ⟨b10, n10⟩ | ⟨b10, n10⟩
 rcases bt (contB s (i + 1)) with b11 | b11
 refine wL hs hI [(8, rg [(10, ciV 189 [vs s, vi ((i : Int) + 1)] (vb (contB s (i + 1)))), (16, ciV 189 [vs s, vi ((i : Int) + 2)] (vb (contB s (i + 2))))] [3, 4, 1005, 7, 8, 9, 10, 1011, 13, 14, 15, 16, 1017] [])] [] 1743337774333777778 [q1 b9, q1 b9, q1 b9, q1 b10, q1 b10, q1 b10, q3 ((i : Int) + 1), q1 b10, q1 b10, q1 b11, q1 b11, q1 b11, q3 ((i : Int) + 2), q1 b11, q1 b11] .norm [(0, vs s), (1, vi (i : Int)), (6, .lit (.int .i32 (bN s i : Int))), (48, vb (contB s (i + 2)))] [] ⟨con276 _ _ (i + 1) (by omega), con276 _ _ (i + 2) (by omega), tv⟩ fun a w hs => ?_
 refine then_norm ⟨trivial, ?_⟩
 (have e0_ : (contB s (i + 2)) = (c3B s i) := (by first | rfl | (simp [c3B, b9, b10, b11])); exact (hs.cst [(0, vs s), (1, vi (i : Int)), (6, .lit (.int .i32 (bN s i : Int))), (48, vb (c3B s i))] [] (by first | (rw [e0_]; done) | (simp only [e0_]; done) | rfl | (simp only [e0_]; rfl))).rk [])
 refine wL hs hI [(8, rg [(10, ciV 189 [vs s, vi ((i : Int) + 1)] (vb (contB s (i + 1))))] [3, 4, 1005, 7, 8, 9, 10, 1011] [13, 14, 15, 16, 1017])] [] 17333374333777778 [q1 b9, q1 b9, q1 b9, q1 b10, q1 b10, q1 b10, q3 ((i : Int) + 1), q1 b10, q1 b10, q1 b11, q1 b11, q1 b11, q1 b11, q1 b11] .norm [(0, vs s), (1, vi (i : Int)), (6, .lit (.int .i32 (bN s i : Int))), (48, vb false)] [] ⟨con276 _ _ (i + 1) (by omega), tv⟩ fun a w hs => ?_
 refine then_norm ⟨trivial, ?_⟩
 (have e0_ : (false) = (c3B s i) := (by first | rfl | (simp [c3B, b9, b10, b11])); exact (hs.cst [(0, vs s), (1, vi (i : Int)), (6, .lit (.int .i32 (bN s i : Int))), (48, vb (c3B s i))] [] (by first | (rw [e0_]; done) | (simp only [e0_]; done) | rfl | (simp only [e0_]; rfl))).rk [])
 refine wL hs hI [(8, rg [] [3, 4, 1005] [7, 8, 9, 10, 1011, 13, 14, 15, 16, 1017])] [] 173333733337778 [q1 b9, q1 b9, q1 b9, q1 b10, q1 b10, q1 b10, q1 b10, q1 b10, q0 false, q0 false, q0 false, q0 false, q0 false] .norm [(0, vs s), (1, vi (i : Int)), (6, .lit (.int .i32 (bN s i : Int))), (48, vb false)] [] tv fun a w hs => ?_
 refine then_norm ⟨trivial, ?_⟩
 (have e0_ : (false) = (c3B s i) := (by first | rfl | (simp [c3B, b9, b10])); exact (hs.cst [(0, vs s), (1, vi (i : Int)), (6, .lit (.int .i32 (bN s i : Int))), (48, vb (c3B s i))] [] (by first | (rw [e0_]; done) | (simp only [e0_]; done) | rfl | (simp only [e0_]; rfl))).rk [])
 refine wL hs hI [(8, rg [] [] [3, 4, 1005, 7, 8, 9, 10, 1011, 13, 14, 15, 16, 1017])] [] 173333733337338 [q1 b9, q1 b9, q1 b9, q0 false, q0 false, q0 false, q0 false, q0 false, q0 false, q0 false, q0 false, q0 false, q0 false] .norm [(0, vs s), (1, vi (i : Int)), (6, .lit (.int .i32 (bN s i : Int))), (48, vb false)] [] tv fun a w hs => ?_
 refine then_norm ⟨trivial, ?_⟩
 (have e0_ : (false) = (c3B s i) := (by first | rfl | (simp [c3B, b9])); exact (hs.cst [(0, vs s), (1, vi (i : Int)), (6, .lit (.int .i32 (bN s i : Int))), (48, vb (c3B s i))] [] (by first | (rw [e0_]; done) | (simp only [e0_]; done) | rfl | (simp only [e0_]; rfl))).rk [])
 intro hF a w hs
 refine cond_L (c := 48) hs (b := c3B s i) rfl (fun hb => ?_) (fun hb => ?_)
 have b12 := hb
 clear hb
 have hc1 := contB_lt (s := s) (k := i + 1) (by have hq : c3B s i = true := (by assumption); simp only [c3B, Bool.and_eq_true] at hq; exact hq.2.2.1)
 have hc2 := contB_lt (s := s) (k := i + 2) (by have hq : c3B s i = true := (by assumption); simp only [c3B, Bool.and_eq_true] at hq; exact hq.2.2.2)
 refine wp_cut (N := Tryz.f182.ntmps) (w0 := w0) (ow := noO fz) (T := [(7, .lit (.int .i32 (rune3 s i : Int)))]) (B := []) (True) ?_ ?_
 refine wN hs hI [] 1873087308 [q3 ((i : Int) + 1), q4 ((i : Int) + 1) s.size, q3 ((i : Int) + 2), q4 ((i : Int) + 2) s.size] .norm [(7, .lit (.int .i32 (bitsOr .i32 (bitsOr .i32 (IntKind.wrap .i32 ((bitsAnd .i32 (bN s i : Int) 15) * 2 ^ 12)) (IntKind.wrap .i32 ((IntKind.wrap .i32 (bitsAnd .u8 (byteAt s ((i : Int) + 1)) 63)) * 2 ^ 6))) (IntKind.wrap .i32 (bitsAnd .u8 (byteAt s ((i : Int) + 2)) 63)))))] [] fun a w hs => ?_
 refine then_norm ⟨trivial, ?_⟩
 (have e0_ : (bitsOr .i32 (bitsOr .i32 (IntKind.wrap .i32 ((bitsAnd .i32 (bN s i : Int) 15) * 2 ^ 12)) (IntKind.wrap .i32 ((IntKind.wrap .i32 (bitsAnd .u8 (byteAt s ((i : Int) + 1)) 63)) * 2 ^ 6))) (IntKind.wrap .i32 (bitsAnd .u8 (byteAt s ((i : Int) + 2)) 63))) = ((rune3 s i : Int)) := (by first | rfl | (exact rune3_eq s i)); exact (hs.cst [(7, .lit (.int .i32 (rune3 s i : Int)))] [] (by first | (rw [e0_]; done) | (simp only [e0_]; done) | rfl | (simp only [e0_]; rfl))).rk [])
 intro hF a w hs
 refine wp_seq ?_
 rcases bd ((rune3 s i : Int) ≥ 2048) with ⟨b13, n13⟩ | ⟨b13, n13⟩
 rcases bd ((rune3 s i : Int) < 55296) with ⟨b14, n14⟩ | ⟨b14, n14⟩
 refine wL hs hI [(10, rg [] [3, 4, 5, 8, 1008, 1009] [6, 7])] [] 733337778 [q1 b13, q1 b13, q1 b13, q1 b14, q1 b14, q1 b13, q1 b14, q1 b13] .norm [(7, .lit (.int .i32 (rune3 s i : Int))), (94, vb true)] [] tv fun a w hs => ?_
 refine then_norm ?_
 refine wN hs hI (bz 1 1) 12987 [q0 true] .ret [(4, .lit (.int .i32 (rune3 s i : Int))), (5, vi 3)] [] fun a w hs => ?_
 refine inb_ret ?_
 refine then_ret ?_
 exact rK (.val (.tup [.lit (.int .i32 (rune3 s i : Int)), vi 3])) [] hs (by rw [runeF, if_neg (by omega), if_neg (by rw [b8]; decide), if_pos b12, if_pos (by omega)])
 refine wL hs hI [(10, rg [] [3, 4, 5, 6, 7, 8, 1009] [1008])] [] 733777778 [q1 b13, q1 b13, q1 b13, q1 b14, q1 b14, q1 b13, q1 b14, q1 b13] .norm [(7, .lit (.int .i32 (rune3 s i : Int))), (94, vb (decide ((rune3 s i : Int) > 57343)))] [] tv fun a w hs => ?_
 refine then_norm ?_
 rcases bd ((rune3 s i : Int) > 57343) with ⟨b15, n15⟩ | ⟨b15, n15⟩
 refine wN hs hI (bz 1 1) 12987 [q1 b15] .ret [(4, .lit (.int .i32 (rune3 s i : Int))), (5, vi 3)] [] fun a w hs => ?_
 refine inb_ret ?_
 refine then_ret ?_
 exact rK (.val (.tup [.lit (.int .i32 (rune3 s i : Int)), vi 3])) [] hs (by rw [runeF, if_neg (by omega), if_neg (by rw [b8]; decide), if_pos b12, if_pos (by omega)])
 refine wN hs hI (bz 1 0) 7 [q1 b15] .norm [] [] fun a w hs => ?_
 refine inb_norm ?_
 refine then_norm ?_
 refine wN hs hI [] 198 [] .ret [(4, .lit (.int .i32 (-1))), (5, vi 1)] [] fun a w hs => ?_
 exact rK (.val (.tup [.lit (.int .i32 (-1)), vi 1])) [] hs (by rw [runeF, if_neg (by omega), if_neg (by rw [b8]; decide), if_pos b12, if_neg (by omega)])
 refine wL hs hI [(10, rg [] [] [3, 4, 5, 8, 1009])] [] 7317338 [q1 b13, q1 b13, q1 b13, q1 b13, q1 b13] .norm [(7, .lit (.int .i32 (rune3 s i : Int))), (94, vb false)] [] tv fun a w hs => ?_
 refine then_norm ?_
 refine wN hs hI (bz 1 0) 7 [q0 false] .norm [] [] fun a w hs => ?_
 refine inb_norm ?_
 refine then_norm ?_
 refine wN hs hI [] 198 [] .ret [(4, .lit (.int .i32 (-1))), (5, vi 1)] [] fun a w hs => ?_
 exact rK (.val (.tup [.lit (.int .i32 (-1)), vi 1])) [] hs (by rw [runeF, if_neg (by omega), if_neg (by rw [b8]; decide), if_pos b12, if_neg (by omega)])
 have b16 := hb
 clear hb
 refine wp_cut (N := Tryz.f182.ntmps) (w0 := w0) (ow := noO fz) (T := [(0, vs s), (1, vi (i : Int)), (6, .lit (.int .i32 (bN s i : Int))), (96, vb (c4B s i))]) (B := []) (True) ?_ ?_
 rcases bd ((bN s i : Int) ≥ 240) with ⟨b17, n17⟩ | ⟨b17, n17⟩
 rcases bd ((bN s i : Int) < 245) with ⟨b18, n18⟩ | ⟨b18, n18⟩
 rcases bt (contB s (i + 1)) with b19 | b19
 rcases bt (contB s (i + 2)) with b20 | b20
 refine wL hs hI [(12, rg [(10, ciV 189 [vs s, vi ((i : Int) + 1)] (vb (contB s (i + 1)))), (16, ciV 189 [vs s, vi ((i : Int) + 2)] (vb (contB s (i + 2)))), (22, ciV 189 [vs s, vi ((i : Int) + 3)] (vb (contB s (i + 3))))] [3, 4, 1005, 7, 8, 9, 10, 1011, 13, 14, 15, 16, 1017, 19, 20, 21, 22, 1023] [])] [] 17433377743337774333777778 [q1 b17, q1 b17, q1 b17, q1 b18, q1 b18, q1 b18, q3 ((i : Int) + 1), q1 b18, q1 b18, q1 b19, q1 b19, q1 b19, q3 ((i : Int) + 2), q1 b19, q1 b19, q1 b20, q1 b20, q1 b20, q3 ((i : Int) + 3), q1 b20, q1 b20] .norm [(0, vs s), (1, vi (i : Int)), (6, .lit (.int .i32 (bN s i : Int))), (96, vb (contB s (i + 3)))] [] ⟨con276 _ _ (i + 1) (by omega), con276 _ _ (i + 2) (by omega), con276 _ _ (i + 3) (by omega), tv⟩ fun a w hs => ?_
 refine then_norm ⟨trivial, ?_⟩
 (have e0_ : (contB s (i + 3)) = (c4B s i) := (by first | rfl | (simp [c4B, b17, b18, b19, b20])); exact (hs.cst [(0, vs s), (1, vi (i : Int)), (6, .lit (.int .i32 (bN s i : Int))), (96, vb (c4B s i))] [] (by first | (rw [e0_]; done) | (simp only [e0_]; done) | rfl | (simp only [e0_]; rfl))).rk [])
 refine wL hs hI [(12, rg [(10, ciV 189 [vs s, vi ((i : Int) + 1)] (vb (contB s (i + 1)))), (16, ciV 189 [vs s, vi ((i : Int) + 2)] (vb (contB s (i + 2))))] [3, 4, 1005, 7, 8, 9, 10, 1011, 13, 14, 15, 16, 1017] [19, 20, 21, 22, 1023])] [] 173333743337774333777778 [q1 b17, q1 b17, q1 b17, q1 b18, q1 b18, q1 b18, q3 ((i : Int) + 1), q1 b18, q1 b18, q1 b19, q1 b19, q1 b19, q3 ((i : Int) + 2), q1 b19, q1 b19, q1 b20, q1 b20, q1 b20, q1 b20, q1 b20] .norm [(0, vs s), (1, vi (i : Int)), (6, .lit (.int .i32 (bN s i : Int))), (96, vb false)] [] ⟨con276 _ _ (i + 1) (by omega), con276 _ _ (i + 2) (by omega), tv⟩ fun a w hs => ?_
 refine then_norm ⟨trivial, ?_⟩
 (have e0_ : (false) = (c4B s i) := (by first | rfl | (simp [c4B, b17, b18, b19, b20])); exact (hs.cst [(0, vs s), (1, vi (i : Int)), (6, .lit (.int .i32 (bN s i : Int))), (96, vb (c4B s i))] [] (by first | (rw [e0_]; done) | (simp only [e0_]; done) | rfl | (simp only [e0_]; rfl))).rk [])
 refine wL hs hI [(12, rg [(10, ciV 189 [vs s, vi ((i : Int) + 1)] (vb (contB s (i + 1))))] [3, 4, 1005, 7, 8, 9, 10, 1011] [13, 14, 15, 16, 1017, 19, 20, 21, 22, 1023])] [] 1733337333374333777778 [q1 b17, q1 b17, q1 b17, q1 b18, q1 b18, q1 b18, q3 ((i : Int) + 1), q1 b18, q1 b18, q1 b19, q1 b19, q1 b19, q1 b19, q1 b19, q0 false, q0 false, q0 false, q0 false, q0 false] .norm [(0, vs s), (1, vi (i : Int)), (6, .lit (.int .i32 (bN s i : Int))), (96, vb false)] [] ⟨con276 _ _ (i + 1) (by omega), tv⟩ fun a w hs => ?_
 refine then_norm ⟨trivial, ?_⟩
 (have e0_ : (false) = (c4B s i) := (by first | rfl | (simp [c4B, b17, b18, b19])); exact (hs.cst [(0, vs s), (1, vi (i : Int)), (6, .lit (.int .i32 (bN s i : Int))), (96, vb (c4B s i))] [] (by first | (rw [e0_]; done) | (simp only [e0_]; done) | rfl | (simp only [e0_]; rfl))).rk [])
 refine wL hs hI [(12, rg [] [3, 4, 1005] [7, 8, 9, 10, 1011, 13, 14, 15, 16, 1017, 19, 20, 21, 22, 1023])] [] 17333373333733337778 [q1 b17, q1 b17, q1 b17, q1 b18, q1 b18, q1 b18, q1 b18, q1 b18, q0 false, q0 false, q0 false, q0 false, q0 false, q0 false, q0 false, q0 false, q0 false, q0 false] .norm [(0, vs s), (1, vi (i : Int)), (6, .lit (.int .i32 (bN s i : Int))), (96, vb false)] [] tv fun a w hs => ?_
 refine then_norm ⟨trivial, ?_⟩
 (have e0_ : (false) = (c4B s i) := (by first | rfl | (simp [c4B, b17, b18])); exact (hs.cst [(0, vs s), (1, vi (i : Int)), (6, .lit (.int .i32 (bN s i : Int))), (96, vb (c4B s i))] [] (by first | (rw [e0_]; done) | (simp only [e0_]; done) | rfl | (simp only [e0_]; rfl))).rk [])
 refine wL hs hI [(12, rg [] [] [3, 4, 1005, 7, 8, 9, 10, 1011, 13, 14, 15, 16, 1017, 19, 20, 21, 22, 1023])] [] 17333373333733337338 [q1 b17, q1 b17, q1 b17, q0 false, q0 false, q0 false, q0 false, q0 false, q0 false, q0 false, q0 false, q0 false, q0 false, q0 false, q0 false, q0 false, q0 false, q0 false] .norm [(0, vs s), (1, vi (i : Int)), (6, .lit (.int .i32 (bN s i : Int))), (96, vb false)] [] tv fun a w hs => ?_
 refine then_norm ⟨trivial, ?_⟩
 (have e0_ : (false) = (c4B s i) := (by first | rfl | (simp [c4B, b17])); exact (hs.cst [(0, vs s), (1, vi (i : Int)), (6, .lit (.int .i32 (bN s i : Int))), (96, vb (c4B s i))] [] (by first | (rw [e0_]; done) | (simp only [e0_]; done) | rfl | (simp only [e0_]; rfl))).rk [])
 intro hF a w hs
 refine cond_L (c := 96) hs (b := c4B s i) rfl (fun hb => ?_) (fun hb => ?_)
 have b21 := hb
 clear hb
 have hc1 := contB_lt (s := s) (k := i + 1) (by have hq : c4B s i = true := (by assumption); simp only [c4B, Bool.and_eq_true] at hq; exact hq.2.2.1)
 have hc2 := contB_lt (s := s) (k := i + 2) (by have hq : c4B s i = true := (by assumption); simp only [c4B, Bool.and_eq_true] at hq; exact hq.2.2.2.1)
 have hc3 := contB_lt (s := s) (k := i + 3) (by have hq : c4B s i = true := (by assumption); simp only [c4B, Bool.and_eq_true] at hq; exact hq.2.2.2.2)
 refine wp_cut (N := Tryz.f182.ntmps) (w0 := w0) (ow := noO fz) (T := [(8, .lit (.int .i32 (rune4 s i : Int)))]) (B := []) (True) ?_ ?_
 refine wN hs hI [] 18730873087308 [q3 ((i : Int) + 1), q4 ((i : Int) + 1) s.size, q3 ((i : Int) + 2), q4 ((i : Int) + 2) s.size, q3 ((i : Int) + 3), q4 ((i : Int) + 3) s.size] .norm [(8, .lit (.int .i32 (bitsOr .i32 (bitsOr .i32 (bitsOr .i32 (IntKind.wrap .i32 ((bitsAnd .i32 (bN s i : Int) 7) * 2 ^ 18)) (IntKind.wrap .i32 ((IntKind.wrap .i32 (bitsAnd .u8 (byteAt s ((i : Int) + 1)) 63)) * 2 ^ 12))) (IntKind.wrap .i32 ((IntKind.wrap .i32 (bitsAnd .u8 (byteAt s ((i : Int) + 2)) 63)) * 2 ^ 6))) (IntKind.wrap .i32 (bitsAnd .u8 (byteAt s ((i : Int) + 3)) 63)))))] [] fun a w hs => ?_
 refine then_norm ⟨trivial, ?_⟩
 (have e0_ : (bitsOr .i32 (bitsOr .i32 (bitsOr .i32 (IntKind.wrap .i32 ((bitsAnd .i32 (bN s i : Int) 7) * 2 ^ 18)) (IntKind.wrap .i32 ((IntKind.wrap .i32 (bitsAnd .u8 (byteAt s ((i : Int) + 1)) 63)) * 2 ^ 12))) (IntKind.wrap .i32 ((IntKind.wrap .i32 (bitsAnd .u8 (byteAt s ((i : Int) + 2)) 63)) * 2 ^ 6))) (IntKind.wrap .i32 (bitsAnd .u8 (byteAt s ((i : Int) + 3)) 63))) = ((rune4 s i : Int)) := (by first | rfl | (exact rune4_eq s i)); exact (hs.cst [(8, .lit (.int .i32 (rune4 s i : Int)))] [] (by first | (rw [e0_]; done) | (simp only [e0_]; done) | rfl | (simp only [e0_]; rfl))).rk [])
 intro hF a w hs
 rcases bd ((rune4 s i : Int) ≥ 65536) with ⟨b22, n22⟩ | ⟨b22, n22⟩
 rcases bd ((rune4 s i : Int) ≤ 1114111) with ⟨b23, n23⟩ | ⟨b23, n23⟩
 refine wL hs hI [(14, rg [] [3, 4, 1005] [])] (bz 1 1) 12987667778 [q1 b22, q1 b22, q1 b22, q1 b23] .ret [(4, .lit (.int .i32 (rune4 s i : Int))), (5, vi 4)] [] tv fun a w hs => ?_
 refine inb_ret ?_
 refine then_ret ?_
 exact rK (.val (.tup [.lit (.int .i32 (rune4 s i : Int)), vi 4])) [] hs (by rw [runeF, if_neg (by omega), if_neg (by rw [b8]; decide), if_neg (by rw [b16]; decide), if_pos b21, if_pos (by omega)])
 refine wL hs hI [(14, rg [] [3, 4, 1005] [])] (bz 1 0) 7667778 [q1 b22, q1 b22, q1 b22, q1 b23] .norm [] [] tv fun a w hs => ?_
 refine inb_norm ?_
 refine then_norm ?_
 refine wN hs hI [] 198 [] .ret [(4, .lit (.int .i32 (-1))), (5, vi 1)] [] fun a w hs => ?_
 exact rK (.val (.tup [.lit (.int .i32 (-1)), vi 1])) [] hs (by rw [runeF, if_neg (by omega), if_neg (by rw [b8]; decide), if_neg (by rw [b16]; decide), if_pos b21, if_neg (by omega)])
 refine wL hs hI [(14, rg [] [] [3, 4, 1005])] (bz 1 0) 7967338 [q1 b22, q1 b22, q1 b22, q0 false] .norm [] [] tv fun a w hs => ?_
 refine inb_norm ?_
 refine then_norm ?_
 refine wN hs hI [] 198 [] .ret [(4, .lit (.int .i32 (-1))), (5, vi 1)] [] fun a w hs => ?_
 exact rK (.val (.tup [.lit (.int .i32 (-1)), vi 1])) [] hs (by rw [runeF, if_neg (by omega), if_neg (by rw [b8]; decide), if_neg (by rw [b16]; decide), if_pos b21, if_neg (by omega)])
 have b24 := hb
 clear hb
 refine wN hs hI [] 1 [] .norm [] [] fun a w hs => ?_
 refine inb_norm ?_
 refine then_norm ?_
 refine wN hs hI [] 198 [] .ret [(4, .lit (.int .i32 (-1))), (5, vi 1)] [] fun a w hs => ?_
 exact rK (.val (.tup [.lit (.int .i32 (-1)), vi 1])) [] hs (by rw [runeF, if_neg (by omega), if_neg (by rw [b8]; decide), if_neg (by rw [b16]; decide), if_neg (by rw [b24]; decide)])
theorem con236 (s : ByteArray) (hz : s.size < 4294967281) : Con Tryz.prog I0 167 [vs s] (.val (.row (.int .i32) (runesF s s.size 0))) := by
 refine con_of Tryz.func167 rfl (Nat.le_of_ble_eq_true rfl) stab (fun w0 fz a hI hs => ?_)
 refine wNs hs hI [] 11 [] [(0, vs s)] [] fun a w hs => ?_
 refine wNs hs hI [] 11 [] [(0, vs s), (3, nilv)] [] fun a w hs => ?_
 refine wp_seq ?_
 refine wNs hs hI [] 11 [] [(0, vs s), (3, nilv), (4, vi 0)] [] fun a w hs => ?_
 refine wp_block ?_
 refine loop_L (N := Tryz.f167.ntmps) (w0 := w0) (ow := noO fz) (α := Nat × List Int) (fun p => [(0, vs s), (3, .own 90000001), (4, vi ((p.1 : Nat) : Int))]) (fun p => [(90000001, .sl 21 (.int .i32) p.2)]) (fun p => RunJ s p.1 p.2) (fun p => s.size - p.1) (0, []) ?_ ?_ ?_
 exact RunJ.start s
 (have hs := (hs.nil 10000003 3 21 (.int .i32) (by kernel_rfl) (by decide) (by kernel_rfl) (by kernel_rfl)).rmT [(0, vs s), (3, .own 10000003), (4, vi 0)] [(10000003, .sl 21 (.int .i32) ([]))] [(10000003, 10000003)] (by kernel_rfl); exact (hs.cst [(0, vs s), (3, .own 10000003), (4, vi ((0 : Nat) : Int))] [(10000003, .sl 21 (.int .i32) ([]))] rfl).rk [(90000001, 10000003)])
 rintro ⟨i, acc⟩ hJ a w hs
 try dsimp only at hJ
 have hln := hJ.len
 have hle := hJ.le
 have hri := rune_in s i
 rcases bd ((i : Int) < (s.size : Int)) with ⟨b1, n1⟩ | ⟨b1, n1⟩
 refine wL hs hI [(4, rc [(2, ciV 182 [vs s, vi (i : Int)] (.tup [.lit (.int .i32 ((runeF s i).1)), vi ((runeF s i).2)]))])] (bz 1 1) 1702617866884097608 [q1 b1, q7 acc.length 1 4, q3 ((i : Int) + ((runeF s i).2))] .norm [(0, vs s), (3, .own 6003), (4, vi ((i : Int) + ((runeF s i).2)))] [(6003, .sl 21 (.int .i32) (acc ++ ([(runeF s i).1])))] ⟨con261 s i (by omega) hz, tv⟩ fun a w hs => ?_
 refine then_norm ⟨(i + (runeF s i).2.toNat, acc ++ [(runeF s i).1]), hJ.on (by omega), by omega, ?_⟩
 (have e0_ : ((i : Int) + ((runeF s i).2)) = ((((i + (runeF s i).2.toNat) : Nat) : Int)) := (by first | rfl | (first | rfl | omega)); have e1_ : (acc ++ ([(runeF s i).1])) = ((acc ++ [(runeF s i).1])) := (by first | rfl | (first | rfl | omega)); exact (hs.cst [(0, vs s), (3, .own 6003), (4, vi (((i + (runeF s i).2.toNat) : Nat) : Int))] [(6003, .sl 21 (.int .i32) (acc ++ [(runeF s i).1]))] (by first | (rw [e0_, e1_]; done) | (simp only [e0_, e1_]; done) | rfl | (simp only [e0_, e1_]; rfl))).rk [(90000001, 6003)])
 refine wN hs hI (bz 1 0) 7608 [q1 b1] (.exit 0) [(3, .own 90000001)] [(90000001, .sl 21 (.int .i32) acc)] fun a w hs => ?_
 refine then_exit ?_
 refine inb_hit ?_
 refine then_norm ?_
 refine wN hs hI [] 198 [] .ret [(2, .own 90000001)] [(90000001, .sl 21 (.int .i32) acc)] fun a w hs => ?_
 exact rK (.val (.row (.int .i32) acc)) [90000001] hs (by rw [hJ.fin (by omega)])
theorem con200 (s : ByteArray) (hz : s.size < 4294967281) : Con Tryz.prog I0 148 [vs s] (.val (vb (X.validAt s s.size 0))) := by
 have hrl := runes_len s s.size 0
 refine con_of Tryz.func148 rfl (Nat.le_of_ble_eq_true rfl) stab (fun w0 fz a hI hs => ?_)
 refine wNs hs hI [] 11 [] [(0, vs s)] [] fun a w hs => ?_
 refine wLs hs hI [(1, rc [(1, ciV 167 [vs s] (.row (.int .i32) (runesF s s.size 0)))])] [] 1141 [] [(3, .row (.int .i32) (runesF s s.size 0))] [] ⟨con236 s hz, tv⟩ fun a w hs => ?_
 refine wp_seq ?_
 refine wNs hs hI [] 11 [] [(3, .row (.int .i32) (runesF s s.size 0)), (4, vi 0)] [] fun a w hs => ?_
 refine wp_block ?_
 refine loop_L (N := Tryz.f148.ntmps) (w0 := w0) (ow := noO fz) (α := Nat) (fun p => [(3, .row (.int .i32) (runesF s s.size 0)), (4, vi (p : Int))]) (fun p => []) (fun p => p ≤ (runesF s s.size 0).length ∧ ∀ j, j < p → ¬ (runesF s s.size 0).getD j (dflt (.int .i32)) < 0) (fun p => (runesF s s.size 0).length - p) 0 ?_ ?_ ?_
 exact ⟨Nat.zero_le _, fun j hj => absurd hj (Nat.not_lt_zero _)⟩
 exact (hs.cst [(3, .row (.int .i32) (runesF s s.size 0)), (4, vi ((0 : Nat) : Int))] [] rfl).rk []
 rintro i hJ a w hs
 obtain ⟨hi, hall⟩ := hJ
 rcases bd ((i : Int) < ((runesF s s.size 0).length : Int)) with ⟨b1, n1⟩ | ⟨b1, n1⟩
 rcases bd (((runesF s s.size 0).getD i (dflt (.int .i32))) < 0) with ⟨b2, n2⟩ | ⟨b2, n2⟩
 refine wN hs hI (bz 2 3) 12172607097608 [q1 b1, q4 (i : Int) ((runesF s s.size 0).length), q1 b2] .ret [(2, vb false)] [] fun a w hs => ?_
 refine then_ret ?_
 refine inb_ret ?_
 refine then_ret ?_
 exact rK (.val (vb false)) [] hs (by rw [valid_no (j := i) (by omega) (of_decide_eq_true b2)])
 refine wN hs hI (bz 2 1) 171972607097608 [q1 b1, q4 (i : Int) ((runesF s s.size 0).length), q1 b2, q3 ((i : Int) + 1)] .norm [(3, .row (.int .i32) (runesF s s.size 0)), (4, vi ((i : Int) + 1))] [] fun a w hs => ?_
 refine then_norm ⟨i + 1, ⟨by omega, fun j hj => by rcases Nat.lt_succ_iff_lt_or_eq.1 hj with h | h; exact hall j h; subst h; exact of_decide_eq_false b2⟩, by omega, ?_⟩
 exact hs.rk []
 refine wN hs hI (bz 1 0) 7608 [q1 b1] (.exit 0) [] [] fun a w hs => ?_
 refine then_exit ?_
 refine inb_hit ?_
 refine then_norm ?_
 refine wN hs hI [] 120 [] .ret [(2, vb true)] [] fun a w hs => ?_
 exact rK (.val (vb true)) [] hs (by rw [valid_yes (fun j hj => hall j (by omega))])
theorem leB_not {x y : ByteArray} : (Op.bytesLess x.toList y.toList || x.toList == y.toList) = !Op.bytesLess y.toList x.toList := by
 have e : (x.toList == y.toList) = eqT x y := rfl
 rw [e]
 rcases ltB_tri x y with h | h | h
 ·rw [ltB_less.2 h, show Op.bytesLess y.toList x.toList = false from by
   cases hq : Op.bytesLess y.toList x.toList with
   | false => rfl
   | true => exact absurd (ltB_trans h (ltB_less.1 hq)) (ltB_irrefl _)]; rfl
 ·subst h
  rw [eqT_self, show Op.bytesLess x.toList x.toList = false from by
   cases hq : Op.bytesLess x.toList x.toList with
   | false => rfl
   | true => exact absurd (ltB_less.1 hq) (ltB_irrefl _)]; rfl
 ·rw [ltB_less.2 h, show Op.bytesLess x.toList y.toList = false from by
   cases hq : Op.bytesLess x.toList y.toList with
   | false => rfl
   | true => exact absurd (ltB_trans h (ltB_less.1 hq)) (ltB_irrefl _), eqT_ne.2 (fun e => by subst e; exact ltB_irrefl _ h)]; rfl
theorem nm_yes {l : List ByteArray} {i : Nat} (h1 : X.validAt (l.getD i (dflt .str)) (l.getD i (dflt .str)).size 0 = true) (h2 : ((l.getD i (dflt .str)).size : Int) ≤ 2000) (h3 : i = 0 ∨ (Op.bytesLess (l.getD i (dflt .str)).toList (l.getD ((i : Int) - 1).toNat (dflt .str)).toList || (l.getD i (dflt .str)).toList == (l.getD ((i : Int) - 1).toNat (dflt .str)).toList) = false) : nmOk l i = true := by
 unfold nmOk textOk
 rw [h1, decide_eq_true h2]
 rcases h3 with h3 | h3
 subst h3; rfl
 rw [leB_not] at h3
 have h4 : Op.bytesLess (l.getD ((i : Int) - 1).toNat (dflt .str)).toList (l.getD i (dflt .str)).toList = true := by simpa using h3
 rw [h4]; simp
theorem nm_bad {l : List ByteArray} {i : Nat} (h : X.validAt (l.getD i (dflt .str)) (l.getD i (dflt .str)).size 0 = false ∨ ((l.getD i (dflt .str)).size : Int) > 2000 ∨ (0 < i ∧ (Op.bytesLess (l.getD i (dflt .str)).toList (l.getD ((i : Int) - 1).toNat (dflt .str)).toList || (l.getD i (dflt .str)).toList == (l.getD ((i : Int) - 1).toNat (dflt .str)).toList) = true)) : nmOk l i = false := by
 unfold nmOk textOk
 rcases h with h | h | ⟨h, h2⟩
 rw [h]; simp
 rw [decide_eq_false (by omega)]; rfl
 rw [leB_not] at h2
 have h4 : Op.bytesLess (l.getD ((i : Int) - 1).toNat (dflt .str)).toList (l.getD i (dflt .str)).toList = false := by simpa using h2
 rw [h4, decide_eq_true (show (i : Int) > 0 by omega)]; simp
theorem con201 (l : List ByteArray) (hsm : ∀ x ∈ l, x.size < 4294967281) (hl : l.length < 4611686018427387904) : Con Tryz.prog I0 149 [.row .str l] (.val (vb (namesOk l))) := by
 refine con_of Tryz.func149 rfl (Nat.le_of_ble_eq_true rfl) stab (fun w0 fz a hI hs => ?_)
 refine wNs hs hI [] 11 [] [(0, rwS l)] [] fun a w hs => ?_
 refine wp_seq ?_
 refine wNs hs hI [] 11 [] [(0, rwS l), (3, vi 0)] [] fun a w hs => ?_
 refine wp_block ?_
 refine loop_L (N := Tryz.f149.ntmps) (w0 := w0) (ow := noO fz) (α := Nat) (fun p => [(0, rwS l), (3, vi (p : Int))]) (fun p => []) (fun p => p ≤ l.length ∧ ∀ j, j < p → nmOk l j = true) (fun p => l.length - p) 0 ?_ ?_ ?_
 exact ⟨Nat.zero_le _, fun j hj => absurd hj (Nat.not_lt_zero _)⟩
 exact (hs.cst [(0, rwS l), (3, vi ((0 : Nat) : Int))] [] rfl).rk []
 rintro i hJ a w hs
 obtain ⟨hi, hall⟩ := hJ
 refine wp_seq ?_
 rcases bd ((i : Int) < (l.length : Int)) with ⟨b1, n1⟩ | ⟨b1, n1⟩
 refine wN hs hI (bz 1 1) 7608 [q1 b1] .norm [(0, rwS l), (3, vi (i : Int))] [] fun a w hs => ?_
 refine then_norm ?_
 rcases bt (X.validAt (l.getD i (dflt .str)) (l.getD i (dflt .str)).size 0) with b2 | b2
 rcases bd (((l.getD i (dflt .str)).size : Int) > 2000) with ⟨b3, n3⟩ | ⟨b3, n3⟩
 refine wL hs hI [(4, rg [(4, ciV 148 [vs (l.getD i (dflt .str))] (vb (X.validAt (l.getD i (dflt .str)) (l.getD i (dflt .str)).size 0)))] [7, 8, 9, 10, 11, 12, 1029] [1013, 15, 16, 17, 28])] (bz 1 1) 12179666666673888733727272723327270470 [q4 (i : Int) l.length, q1 (ng1 b2), q1 (ng1 b2), q1 (ng1 b2), q4 (i : Int) l.length, q1 (ng1 b2), q1 (ng1 b2), q1 (ng1 b2), q1 (ng1 b2), q1 b3, q1 b3, q1 b3, q1 b3, q1 b3, q0 true] .ret [(2, vb false)] [] ⟨con200 _ (hsm _ (getD_mem (by omega) _)), tv⟩ fun a w hs => ?_
 refine then_ret ?_
 refine inb_ret ?_
 refine then_ret ?_
 exact rK (.val (vb false)) [] hs (by simp only [namesOk]; rw [all_no' (i := i) (by omega) (nm_bad (.inr (.inl (by omega))))]; rfl)
 rcases bd ((i : Int) > 0) with ⟨b4, n4⟩ | ⟨b4, n4⟩
 rcases bt (Op.bytesLess (l.getD i (dflt .str)).toList (l.getD (((i : Int) - 1).toNat) (dflt .str)).toList || (l.getD i (dflt .str)).toList == (l.getD (((i : Int) - 1).toNat) (dflt .str)).toList) with b5 | b5
 refine wL hs hI [(4, rg [(4, ciV 148 [vs (l.getD i (dflt .str))] (vb (X.validAt (l.getD i (dflt .str)) (l.getD i (dflt .str)).size 0)))] [7, 8, 9, 10, 11, 12, 15, 16, 17, 18, 19, 20, 21, 22, 23, 24, 25, 26, 27, 28, 1028] [1013, 1029])] (bz 1 1) 121796666666723327272332332727272332727272727727272723327270470 [q4 (i : Int) l.length, q1 (ng1 b2), q1 (ng1 b2), q1 (ng1 b2), q4 (i : Int) l.length, q1 (ng1 b2), q1 (ng1 b2), q1 (ng1 b2), q1 (ng1 b2), q1 b3, q1 b3, q1 b3, q1 b4, q1 b4, q1 b4, q4 (i : Int) l.length, q1 b4, q1 b4, q1 b4, q1 b4, q3 ((i : Int) - 1), q1 b4, q4 ((i : Int) - 1) l.length, q1 b4, q1 b4, q1 b3, q1 b4, q1 b3, q1 b5] .ret [(2, vb false)] [] ⟨con200 _ (hsm _ (getD_mem (by omega) _)), tv⟩ fun a w hs => ?_
 refine then_ret ?_
 refine inb_ret ?_
 refine then_ret ?_
 exact rK (.val (vb false)) [] hs (by simp only [namesOk]; rw [all_no' (i := i) (by omega) (nm_bad (.inr (.inr ⟨by omega, by simp_all⟩)))]; rfl)
 refine wL hs hI [(4, rg [(4, ciV 148 [vs (l.getD i (dflt .str))] (vb (X.validAt (l.getD i (dflt .str)) (l.getD i (dflt .str)).size 0)))] [7, 8, 9, 10, 11, 12, 15, 16, 17, 18, 19, 20, 21, 22, 23, 24, 25, 26, 27, 28, 1028] [1013, 1029])] (bz 1 0) 1719796666666723327272332332727272332727272727727272723327270470 [q4 (i : Int) l.length, q1 (ng1 b2), q1 (ng1 b2), q1 (ng1 b2), q4 (i : Int) l.length, q1 (ng1 b2), q1 (ng1 b2), q1 (ng1 b2), q1 (ng1 b2), q1 b3, q1 b3, q1 b3, q1 b4, q1 b4, q1 b4, q4 (i : Int) l.length, q1 b4, q1 b4, q1 b4, q1 b4, q3 ((i : Int) - 1), q1 b4, q4 ((i : Int) - 1) l.length, q1 b4, q1 b4, q1 b3, q1 b4, q1 b3, q1 b5, q3 ((i : Int) + 1)] .norm [(0, rwS l), (3, vi ((i : Int) + 1))] [] ⟨con200 _ (hsm _ (getD_mem (by omega) _)), tv⟩ fun a w hs => ?_
 refine then_norm ⟨i + 1, ⟨by omega, fun j hj => by rcases Nat.lt_succ_iff_lt_or_eq.1 hj with h | h; exact hall j h; subst h; exact nm_yes (by simpa using b2) (by omega) (by exact .inr (by simpa [Bool.or_eq_false_iff] using b5))⟩, by omega, ?_⟩
 exact hs.rk []
 refine wL hs hI [(4, rg [(4, ciV 148 [vs (l.getD i (dflt .str))] (vb (X.validAt (l.getD i (dflt .str)) (l.getD i (dflt .str)).size 0)))] [7, 8, 9, 10, 11, 12, 15, 16, 17, 28] [1013, 18, 19, 20, 21, 22, 23, 24, 25, 26, 27, 1028, 1029])] (bz 1 0) 171979666666672333333333333272727727272723327270470 [q4 (i : Int) l.length, q1 (ng1 b2), q1 (ng1 b2), q1 (ng1 b2), q4 (i : Int) l.length, q1 (ng1 b2), q1 (ng1 b2), q1 (ng1 b2), q1 (ng1 b2), q1 b3, q1 b3, q1 b3, q1 b4, q1 b4, q1 b4, q1 b4, q1 b4, q1 b4, q1 b4, q1 b4, q1 b4, q1 b4, q1 b3, q1 b4, q1 b3, q0 false, q3 ((i : Int) + 1)] .norm [(0, rwS l), (3, vi ((i : Int) + 1))] [] ⟨con200 _ (hsm _ (getD_mem (by omega) _)), tv⟩ fun a w hs => ?_
 refine then_norm ⟨i + 1, ⟨by omega, fun j hj => by rcases Nat.lt_succ_iff_lt_or_eq.1 hj with h | h; exact hall j h; subst h; exact nm_yes (by simpa using b2) (by omega) (by exact .inl (by omega))⟩, by omega, ?_⟩
 exact hs.rk []
 refine wL hs hI [(4, rg [(4, ciV 148 [vs (l.getD i (dflt .str))] (vb (X.validAt (l.getD i (dflt .str)) (l.getD i (dflt .str)).size 0)))] [1013, 1029] [7, 8, 9, 10, 11, 12, 15, 16, 17, 28])] (bz 1 1) 1217966666667388873373333330470 [q4 (i : Int) l.length, q1 (ng0 b2), q1 (ng0 b2), q1 (ng0 b2), q1 (ng0 b2), q1 (ng0 b2), q1 (ng0 b2), q1 (ng0 b2), q0 true, q0 true, q0 true, q0 true, q0 true, q0 true] .ret [(2, vb false)] [] ⟨con200 _ (hsm _ (getD_mem (by omega) _)), tv⟩ fun a w hs => ?_
 refine then_ret ?_
 refine inb_ret ?_
 refine then_ret ?_
 exact rK (.val (vb false)) [] hs (by simp only [namesOk]; rw [all_no' (i := i) (by omega) (nm_bad (.inl b2))]; rfl)
 refine wN hs hI (bz 1 0) 7608 [q1 b1] (.exit 0) [(0, rwS l)] [] fun a w hs => ?_
 refine then_exit ?_
 refine then_exit ?_
 refine inb_hit ?_
 refine then_norm ?_
 refine wN hs hI [] 1608 [] .ret [(2, vb (decide ((l.length : Int) ≤ 300)))] [] fun a w hs => ?_
 exact rK (.val (vb (decide ((l.length : Int) ≤ 300)))) [] hs (by simp only [namesOk]; rw [all_yes' (fun j hj => hall j (by omega))]; simp)
theorem con199 (n : Num) : Con Tryz.prog I0 147 [.agg [vb n.neg, .row (.int .u32) n.m, vi n.e]] (.val (vb (ownN n))) := by
 refine con_of Tryz.func147 rfl (Nat.le_of_ble_eq_true rfl) stab (fun w0 fz a hI hs => ?_)
 rcases bt (n.neg) with b1 | b1
 refine wL hs hI [(1, rg [] [] [4, 5, 6, 7, 1008, 10, 11, 12, 1013])] [] 12966617333733331898 [q1 (ng1 b1), q1 (ng1 b1), q1 (ng1 b1), q1 (ng1 b1), q1 (ng1 b1), q0 false, q0 false, q0 false, q0 false] .ret [(2, vb false)] [] tv fun a w hs => ?_
 exact rK (.val (vb false)) [] hs (by simp only [ownN, b1]; rfl)
 rcases bq (n.m.length : Int) (0) with ⟨b2, n2⟩ | ⟨b2, n2⟩
 refine wL hs hI [(1, rg [] [4, 5, 6, 7, 1008, 10, 11, 12, 1013] [])] [] 196666617777777771898 [q1 (ng0 b1), q1 (ng0 b1), q1 (ng0 b1), q1 (ng0 b1), q1 (ng0 b1), q1 b2, q1 b2, q1 b2, q1 b2] .ret [(2, vb (n.e == 0))] [] tv fun a w hs => ?_
 exact rK (.val (vb (n.e == 0))) [] hs (by simp only [ownN, b1, b2]; rfl)
 refine wL hs hI [(1, rg [] [4, 5, 6, 7, 1008] [10, 11, 12, 1013])] [] 129666617333777771898 [q1 (ng0 b1), q1 (ng0 b1), q1 (ng0 b1), q1 (ng0 b1), q1 (ng0 b1), q1 b2, q1 b2, q1 b2, q1 b2] .ret [(2, vb false)] [] tv fun a w hs => ?_
 exact rK (.val (vb false)) [] hs (by simp only [ownN, b1, b2]; rfl)
end Go.Proofs.YtfimffgfnhplkaaGreatDoor.F
