import Derived.Test.YtondpnipoogoiaaGreatDoorO6
namespace Go.Proofs.YtondpnipoogoiaaGreatDoor.F
open Go Go.RowKit Go.Proofs.Tryz
set_option linter.unusedVariables false
set_option linter.unusedSimpArgs false
theorem wrapU64 {n : Int} (h0 : 0 ≤ n) (h1 : n < 18446744073709551616) : IntKind.wrap .u64 n = n := by
  simp only [IntKind.wrap, IntKind.bits, IntKind.signed]
  simp; omega
theorem wrapU32 {n : Int} (h0 : 0 ≤ n) (h1 : n < 4294967296) : IntKind.wrap .u32 n = n := by
  simp only [IntKind.wrap, IntKind.bits, IntKind.signed]
  simp; omega
theorem stepX {r x : Int} (r0 : 0 ≤ r) (r1 : r < 4294967296) (x0 : 0 ≤ x) (x1 : x < 4294967296) : bitsOr .u64 (IntKind.wrap .u64 (r * 2 ^ 32)) (IntKind.wrap .u64 x) = r * 4294967296 + x := by
  obtain ⟨r, rfl⟩ : ∃ n : Nat, r = (n : Int) := ⟨r.toNat, by omega⟩
  obtain ⟨x, rfl⟩ : ∃ n : Nat, x = (n : Int) := ⟨x.toNat, by omega⟩
  have e1 : ((r : Int) * 2 ^ 32) = ((r * 4294967296 : Nat) : Int) := by omega
  rw [wrapU64 (by omega) (by omega), wrapU64 (by omega) (by omega), e1]
  unfold bitsOr
  have hb : IntKind.bits .u64 = 64 := rfl
  rw [hb]
  have e2 : (BitVec.ofInt 64 ((r * 4294967296 : Nat) : Int) ||| BitVec.ofInt 64 ((x : Nat) : Int)).toNat = r * 4294967296 + x := by
    rw [BitVec.ofInt_natCast, BitVec.ofInt_natCast, BitVec.toNat_or, BitVec.toNat_ofNat, BitVec.toNat_ofNat, Nat.mod_eq_of_lt (by omega), Nat.mod_eq_of_lt (by omega)]
    have := Nat.shiftLeft_add_eq_or_of_lt (i := 32) (b := x) (by omega) r
    rw [Nat.shiftLeft_eq] at this
    exact this.symm
  rw [e2, wrapU64 (by omega) (by omega)]
  omega
theorem val_set {l : List Int} {m : Nat} {x : Int} (h : m < l.length) : val ((l.set m x).drop m) = x.toNat + 4294967296 * val (l.drop (m + 1)) := by
  rw [List.drop_eq_getElem_cons (by simpa using h), val, List.getElem_set_self, List.drop_set_of_lt (by omega)]
structure SmallJ (a : List Int) (d : Int) (m : Nat) (out : List Int) (r : Int) : Prop where
  le : m ≤ a.length
  len : out.length = a.length
  ok : Ok out
  r0 : 0 ≤ r
  r1 : r < d
  eq : val (a.drop m) = d.toNat * val (out.drop m) + r.toNat
theorem SmallJ.start {a : List Int} {d : Int} (hd : 0 < d) : SmallJ a d a.length (List.replicate a.length (dflt (.int .u32))) 0 := by
  refine ⟨Nat.le_refl _, List.length_replicate, Ok.rep _, Int.le_refl _, hd, ?_⟩
  rw [List.drop_of_length_le (Nat.le_refl _), List.drop_of_length_le (by simp)]
  simp [val]
theorem SmallJ.step {a : List Int} {d : Int} {m : Nat} {out : List Int} {r : Int} (ha : Ok a) (hd : 0 < d) (hd1 : d < 4294967296) (h : SmallJ a d m out r) (hm : ((m : Nat) : Int) - 1 ≥ 0) :
    SmallJ a d (m - 1) (out.set (((m : Nat) : Int) - 1).toNat (IntKind.wrap .u32 (IntKind.wrap .u64 ((bitsOr .u64 (IntKind.wrap .u64 (r * 2 ^ 32)) (IntKind.wrap .u64 (a.getD (((m : Nat) : Int) - 1).toNat (dflt (.int .u32))))).tdiv d))))
      ((bitsOr .u64 (IntKind.wrap .u64 (r * 2 ^ 32)) (IntKind.wrap .u64 (a.getD (((m : Nat) : Int) - 1).toNat (dflt (.int .u32))))).tmod d) := by
  obtain ⟨k, rfl⟩ : ∃ k, m = k + 1 := ⟨m - 1, by omega⟩
  have hk : k < a.length := h.le
  have e1 : (((k + 1 : Nat) : Int) - 1).toNat = k := by omega
  have e2 : k + 1 - 1 = k := rfl
  rw [e1, e2]
  have hx := ha.rdk (k : Int)
  have hxe : a.getD k (dflt (.int .u32)) = rd a k := rfl
  rw [hxe]
  generalize hX : rd a k = x at *
  rw [stepX h.r0 (by have := h.r1; omega) hx.1 hx.2]
  have r0 := h.r0
  have r1 := h.r1
  have hX0 : 0 ≤ r * 4294967296 + x := by omega
  rw [Int.tdiv_eq_ediv_of_nonneg hX0, Int.tmod_eq_emod_of_nonneg hX0]
  have hq : (r * 4294967296 + x) / d < 4294967296 := Int.ediv_lt_of_lt_mul hd (by
    have : r + 1 ≤ d := by omega
    have := Int.mul_le_mul_of_nonneg_right this (show (0 : Int) ≤ 4294967296 by decide)
    rw [Int.mul_comm 4294967296 d]; omega)
  have hq0 : 0 ≤ (r * 4294967296 + x) / d := Int.ediv_nonneg hX0 (by omega)
  rw [wrapU64 hq0 (by omega), wrapU32 hq0 hq]
  refine ⟨by omega, by rw [List.length_set]; exact h.len, h.ok.set _ hq0 hq, Int.emod_nonneg _ (by omega), Int.emod_lt_of_pos _ hd, ?_⟩
  rw [val_set (by rw [h.len]; exact hk), val_drop hk, hX, h.eq]
  have hdm := Int.mul_ediv_add_emod (r * 4294967296 + x) d
  have hm0 := Int.emod_nonneg (r * 4294967296 + x) (show d ≠ 0 by omega)
  obtain ⟨d, rfl⟩ : ∃ n : Nat, d = (n : Int) := ⟨d.toNat, by omega⟩
  obtain ⟨r, rfl⟩ : ∃ n : Nat, r = (n : Int) := ⟨r.toNat, by omega⟩
  obtain ⟨x, rfl⟩ : ∃ n : Nat, x = (n : Int) := ⟨x.toNat, by omega⟩
  simp only [Int.toNat_natCast] at *
  have hc : ((r : Int) * 4294967296 + x) = ((r * 4294967296 + x : Nat) : Int) := by omega
  have e3 : ((r : Int) * 4294967296 + x) / d = ((r * 4294967296 + x) / d : Nat) := by rw [hc]; exact (Int.natCast_ediv _ _).symm
  have e4 : ((r : Int) * 4294967296 + x) % d = ((r * 4294967296 + x) % d : Nat) := by rw [hc]; exact (Int.natCast_emod _ _).symm
  have e5 : (((r : Int) * 4294967296 + x) / d).toNat = (r * 4294967296 + x) / d := by rw [e3]; exact Int.toNat_natCast _
  have e6 : (((r : Int) * 4294967296 + x) % d).toNat = (r * 4294967296 + x) % d := by rw [e4]; exact Int.toNat_natCast _
  rw [e5, e6]
  clear e5 e6 e3 e4 hc
  have hdn := Nat.div_add_mod (r * 4294967296 + x) d
  generalize (r * 4294967296 + x) / d = q at *
  generalize (r * 4294967296 + x) % d = s at *
  generalize val (out.drop (k + 1)) = V at *
  have h9 : d * (q + 4294967296 * V) = d * q + 4294967296 * (d * V) := by rw [Nat.mul_add, Nat.mul_left_comm]
  rw [h9]
  generalize d * V = DV at *
  omega
theorem SmallJ.stop {a : List Int} {d : Int} {out : List Int} {r : Int} (ha : Ok a) (hd : 0 < d) (h : SmallJ a d 0 out r) : trimF out = lim (val a / d.toNat) ∧ r = ((val a % d.toNat : Nat) : Int) := by
  have he := h.eq
  have r0 := h.r0
  have r1 := h.r1
  simp only [List.drop_zero] at he
  rw [trim_lim h.ok]
  have h1 : val a / d.toNat = val out := by
    rw [he, Nat.mul_add_div (by omega), Nat.div_eq_of_lt (by omega), Nat.add_zero]
  have h2 : val a % d.toNat = r.toNat := by
    rw [he, Nat.mul_add_mod, Nat.mod_eq_of_lt (by omega)]
  rw [h1, h2]
  exact ⟨rfl, by omega⟩
set_option maxRecDepth 100000 in
theorem con271_10 (l : List Int) (ha : Ok l) (hl : l.length < 1000000000) : Con Tryz.prog I0 271 [.row (.int .u32) l, .lit (.int .u32 10)] (.val (.tup [.row (.int .u32) (lim (val l / 10)), .lit (.int .u32 ((val l % 10 : Nat) : Int))])) := by
 refine con_of Tryz.func271 rfl (Nat.le_of_ble_eq_true rfl) stab (fun w0 fz a hI hs => ?_)
 refine wp_seq ?_
 refine way_L (tt := tt) (rs := []) (bs := []) (tk := [0, 1]) (bk := []) (C := True ∧ True ∧ True) (lv := .norm) (T' := [(0, .row (.int .u32) l), (1, .lit (.int .u32 10))]) (B' := []) mix hI hs ?_ ?_ ?_ ?_
 ·exact trivial
 ·kernel_rfl
 ·exact ⟨trivial, trivial, trivial⟩
 intro a w hs
 refine then_norm ?_
 refine wp_seq ?_
 refine way_L (tt := tt) (rs := []) (bs := []) (tk := [0, 1, 6]) (bk := [2002]) (C := True ∧ True ∧ ((l.length : Int) = (l.length : Int) ∧ 0 ≤ (l.length : Int) ∧ (4 : Nat) * (l.length : Int) ≤ 281474976710656 ∧ (l.length : Int) ≤ 9223372036854775807) ∧ True ∧ True) (lv := .norm) (T' := [(0, .row (.int .u32) l), (1, .lit (.int .u32 10)), (6, .own 2002)]) (B' := [(2002, .sl 160 (.int .u32) (List.replicate l.length (dflt (.int .u32))))]) mix hI hs ?_ ?_ ?_ ?_
 ·exact trivial
 ·kernel_rfl
 ·exact ⟨trivial, trivial, (by omega), trivial, trivial⟩
 intro a w hs
 refine then_norm ?_
 refine wp_seq ?_
 refine way_L (tt := tt) (rs := []) (bs := []) (tk := [0, 1, 6, 7]) (bk := [2002]) (C := True ∧ True) (lv := .norm) (T' := [(0, .row (.int .u32) l), (1, .lit (.int .u32 10)), (6, .own 2002), (7, .lit (.int .u64 0))]) (B' := [(2002, .sl 160 (.int .u32) (List.replicate l.length (dflt (.int .u32))))]) mix hI hs ?_ ?_ ?_ ?_
 ·exact trivial
 ·kernel_rfl
 ·exact ⟨trivial, trivial⟩
 intro a w hs
 refine then_norm ?_
 refine wp_seq ?_
 refine wp_seq ?_
 refine way_L (tt := tt) (rs := []) (bs := []) (tk := [0, 1, 6, 7, 8]) (bk := [2002]) (C := True ∧ True ∧ (InR .i64 ((l.length : Int) - 1)) ∧ True ∧ True) (lv := .norm) (T' := [(0, .row (.int .u32) l), (1, .lit (.int .u32 10)), (6, .own 2002), (7, .lit (.int .u64 0)), (8, vi ((l.length : Int) - 1))]) (B' := [(2002, .sl 160 (.int .u32) (List.replicate l.length (dflt (.int .u32))))]) mix hI hs ?_ ?_ ?_ ?_
 ·exact trivial
 ·kernel_rfl
 ·exact ⟨trivial, trivial, (inR64 (by omega) (by omega)), trivial, trivial⟩
 intro a w hs
 refine then_norm ?_
 refine wp_block ?_
 refine loop_L (N := Tryz.f271.ntmps) (w0 := w0) (ow := noO fz) (α := Nat × List Int × Int) (fun p => [(0, .row (.int .u32) l), (1, .lit (.int .u32 10)), (6, .own 90000001), (7, .lit (.int .u64 p.2.2)), (8, vi (((p.1 : Nat) : Int) - 1))]) (fun p => [(90000001, .sl 160 (.int .u32) p.2.1)]) (fun p => SmallJ l 10 p.1 p.2.1 p.2.2) (fun p => p.1) (l.length, List.replicate l.length (dflt (.int .u32)), 0) ?_ ?_ ?_
 ·exact SmallJ.start (by decide)
 ·exact (SimL.cast hs (T' := [(0, .row (.int .u32) l), (1, .lit (.int .u32 10)), (6, .own 2002), (7, .lit (.int .u64 0)), (8, vi (((l.length : Nat) : Int) - 1))]) (B' := [(2002, .sl 160 (.int .u32) (List.replicate l.length (dflt (.int .u32))))]) (by rfl) rfl).ren [(90000001, 2002)] (by kernel_rfl) (by kernel_rfl) (by kernel_rfl)
 rintro ⟨m, out, r⟩ hJ a w hs
 try dsimp only at hJ
 have hm := hJ.le
 have hln := hJ.len
 rcases Bool.eq_false_or_eq_true (decide ((((m : Nat) : Int) - 1) ≥ 0)) with b1 | b1
 ·skip
  have n1 := of_decide_eq_true b1
  refine way_L (tt := tt) (rs := []) (bs := [true]) (tk := [0, 1, 6, 7, 8]) (bk := [90000001]) (C := ((True ∧ True ∧ True) ∧ ((decide ((((m : Nat) : Int) - 1) ≥ 0)) = true) ∧ True) ∧ ((tr 4 ((0 ≤ (((m : Nat) : Int) - 1) ∧ (((m : Nat) : Int) - 1) < l.length) ∧ (tr 4 True))) ∧ (tr 7 ((0 ≤ (((m : Nat) : Int) - 1) ∧ (((m : Nat) : Int) - 1) < out.length) ∧ ((((m : Nat) : Int) - 1).toNat < out.length) ∧ True)) ∧ (tr 5 True)) ∧ True ∧ (InR .i64 ((((m : Nat) : Int) - 1) - 1)) ∧ True ∧ True) (lv := .norm) (T' := [(0, .row (.int .u32) l), (1, .lit (.int .u32 10)), (6, .own 90000001), (7, .lit (.int .u64 ((bitsOr .u64 (IntKind.wrap .u64 (r * 2 ^ 32)) (IntKind.wrap .u64 (l.getD ((((m : Nat) : Int) - 1).toNat) (dflt (.int .u32))))).tmod 10))), (8, vi ((((m : Nat) : Int) - 1) - 1))]) (B' := [(90000001, .sl 160 (.int .u32) (out.set ((((m : Nat) : Int) - 1).toNat) (IntKind.wrap .u32 (IntKind.wrap .u64 ((bitsOr .u64 (IntKind.wrap .u64 (r * 2 ^ 32)) (IntKind.wrap .u64 (l.getD ((((m : Nat) : Int) - 1).toNat) (dflt (.int .u32))))).tdiv 10)))))]) mix hI hs ?_ ?_ ?_ ?_
  ·exact trivial
  ·kernel_rfl
  ·exact ⟨⟨⟨trivial, trivial, trivial⟩, b1, trivial⟩, ⟨tr_mk (⟨⟨by omega, by omega⟩, tr_mk trivial 4⟩) 4, tr_mk (⟨⟨by omega, by omega⟩, (by omega), trivial⟩) 7, tr_mk trivial 5⟩, trivial, (inR64 (by omega) (by omega)), trivial, trivial⟩
  intro a w hs
  refine then_norm ⟨(m - 1, out.set ((((m : Nat) : Int) - 1).toNat) (IntKind.wrap .u32 (IntKind.wrap .u64 ((bitsOr .u64 (IntKind.wrap .u64 (r * 2 ^ 32)) (IntKind.wrap .u64 (l.getD ((((m : Nat) : Int) - 1).toNat) (dflt (.int .u32))))).tdiv 10))), (bitsOr .u64 (IntKind.wrap .u64 (r * 2 ^ 32)) (IntKind.wrap .u64 (l.getD ((((m : Nat) : Int) - 1).toNat) (dflt (.int .u32))))).tmod 10), hJ.step ha (by decide) (by decide) (by omega), by omega, ?_⟩
  (have e0_ : ((bitsOr .u64 (IntKind.wrap .u64 (r * 2 ^ 32)) (IntKind.wrap .u64 (l.getD ((((m : Nat) : Int) - 1).toNat) (dflt (.int .u32))))).tmod 10) = (((bitsOr .u64 (IntKind.wrap .u64 (r * 2 ^ 32)) (IntKind.wrap .u64 (l.getD ((((m : Nat) : Int) - 1).toNat) (dflt (.int .u32))))).tmod 10)) := (by first | rfl | (omega)); have e1_ : ((((m : Nat) : Int) - 1) - 1) = ((((m - 1) : Nat) : Int) - 1) := (by first | rfl | (omega)); have e2_ : (out.set ((((m : Nat) : Int) - 1).toNat) (IntKind.wrap .u32 (IntKind.wrap .u64 ((bitsOr .u64 (IntKind.wrap .u64 (r * 2 ^ 32)) (IntKind.wrap .u64 (l.getD ((((m : Nat) : Int) - 1).toNat) (dflt (.int .u32))))).tdiv 10)))) = ((out.set ((((m : Nat) : Int) - 1).toNat) (IntKind.wrap .u32 (IntKind.wrap .u64 ((bitsOr .u64 (IntKind.wrap .u64 (r * 2 ^ 32)) (IntKind.wrap .u64 (l.getD ((((m : Nat) : Int) - 1).toNat) (dflt (.int .u32))))).tdiv 10))))) := (by first | rfl | (omega)); exact (SimL.cast hs (T' := [(0, .row (.int .u32) l), (1, .lit (.int .u32 10)), (6, .own 90000001), (7, .lit (.int .u64 ((bitsOr .u64 (IntKind.wrap .u64 (r * 2 ^ 32)) (IntKind.wrap .u64 (l.getD ((((m : Nat) : Int) - 1).toNat) (dflt (.int .u32))))).tmod 10))), (8, vi ((((m - 1) : Nat) : Int) - 1))]) (B' := [(90000001, .sl 160 (.int .u32) (out.set ((((m : Nat) : Int) - 1).toNat) (IntKind.wrap .u32 (IntKind.wrap .u64 ((bitsOr .u64 (IntKind.wrap .u64 (r * 2 ^ 32)) (IntKind.wrap .u64 (l.getD ((((m : Nat) : Int) - 1).toNat) (dflt (.int .u32))))).tdiv 10)))))]) (by first | rfl | (rw [e0_, e1_, e2_]; done) | (simp only [e0_, e1_, e2_]; done) | (simp only [e0_, e1_, e2_]; rfl)) (by first | rfl | (rw [e0_, e1_, e2_]; done) | (simp only [e0_, e1_, e2_]; done) | (simp only [e0_, e1_, e2_]; rfl))).ren [(90000001, 90000001)] (by kernel_rfl) (by kernel_rfl) (by kernel_rfl))
 ·skip
  have n1 := of_decide_eq_false b1
  refine way_L (tt := tt) (rs := []) (bs := [false]) (tk := [6, 7]) (bk := [90000001]) (C := (True ∧ True ∧ True) ∧ ((decide ((((m : Nat) : Int) - 1) ≥ 0)) = false) ∧ True) (lv := .exit 0) (T' := [(6, .own 90000001), (7, .lit (.int .u64 r))]) (B' := [(90000001, .sl 160 (.int .u32) out)]) mix hI hs ?_ ?_ ?_ ?_
  ·exact trivial
  ·kernel_rfl
  ·exact ⟨⟨trivial, trivial, trivial⟩, b1, trivial⟩
  intro a w hs
  refine then_exit ?_
  refine inb_hit ?_
  refine then_norm ?_
  refine way_L (tt := tt) (rs := [(9, ⟨[(1, ciA 270 [.row (.int .u32) out] [] [90000001] (.own 160 (.int .u32) (trimF out)))], [], []⟩)]) (bs := []) (tk := [4, 5]) (bk := [10001]) (C := (True ∧ (okArgs [.row (.int .u32) out]) ∧ (tr 4 True)) ∧ True) (lv := .ret) (T' := [(4, .own 10001), (5, .lit (.int .u32 (IntKind.wrap .u32 r)))]) (B' := [(10001, .sl 160 (.int .u32) (trimF out))]) mix hI hs ?_ ?_ ?_ ?_
  ·exact ⟨⟨⟨ent270, con270 _ (by have := hJ.len; omega)⟩, trivial⟩, trivial⟩
  ·kernel_rfl
  ·exact ⟨⟨trivial, rfl, tr_mk trivial 4⟩, trivial⟩
  intro a w hs
  exact FnQ_cast (out := .val (.tup [.row (.int .u32) (trimF out), .lit (.int .u32 (IntKind.wrap .u32 r))])) (by obtain rfl : m = 0 := (by omega); obtain ⟨h1, h2⟩ := hJ.stop ha (by decide); have r0 := hJ.r0; have r1 := hJ.r1; rw [h1, wrapU32 r0 (by omega), h2]; rfl) (ret_ok [10001] hs ⟨by kernel_rfl, rfl⟩)
theorem tz_iter {n : Nat} (h0 : n ≠ 0) (h1 : n % 10 = 0) {m c : Nat} (h : tz m = ((tz n).1, c + (tz n).2)) : tz m = ((tz (n / 10)).1, c + 1 + (tz (n / 10)).2) := by
  rw [h, tz_ten h0 h1]; simp only [Prod.mk.injEq, true_and]; omega
theorem tz_end {n : Nat} (h1 : n % 10 ≠ 0 ∨ n = 0) {m c : Nat} (h : tz m = ((tz n).1, c + (tz n).2)) : tz m = (n, c) := by
  rcases h1 with h1 | rfl
  · rw [h, tz_self h1]; rfl
  · rw [h, tz_zero]; rfl
theorem lim_len {n : Nat} {l : List Int} (hl : Ok l) (h : n ≤ val l) : (lim n).length ≤ l.length := lim_len_le (Nat.lt_of_le_of_lt h (val_lt hl))
theorem tz_small {l : List Int} (hl : Ok l) (h : l.length < 1000000000) : (tz (val l)).2 ≤ 32000000000 := by
  have := tz_limbs (val_lt hl); omega
theorem last_split {l : List Int} (h : l.length ≠ 0) : l = l.take (l.length - 1) ++ [rd l ((l.length : Int) - 1)] := by
  have h1 := take_snoc' l (l.length - 1) (by omega)
  rw [show l.length - 1 + 1 = l.length by omega, List.take_of_length_le (Nat.le_refl _)] at h1
  rw [show ((l.length : Int) - 1) = ((l.length - 1 : Nat) : Int) by omega]
  exact h1
theorem trim_len (l : List Int) : (trimF l).length ≤ l.length := by
  unfold trimF
  rw [List.length_reverse]
  exact Nat.le_trans (List.dropWhile_sublist _).length_le (by rw [List.length_reverse]; exact Nat.le_refl _)
theorem lim_last {n : Nat} (h : (lim n).length ≠ 0) : rd (lim n) (((lim n).length : Int) - 1) ≠ 0 := by
  intro hz
  have h1 := last_split h
  have h2 := lim_trim n
  generalize lim n = l at *
  rw [hz] at h1
  rw [h1, trimF_snoc, if_pos rfl] at h2
  have h3 := trim_len (l.take (l.length - 1))
  rw [h2, List.length_append] at h3
  simp at h3
  omega
theorem top_lim {l : List Int} (hl : Ok l) (h : l.length ≠ 0) (h0 : rd l ((l.length : Int) - 1) ≠ 0) : l = lim (val l) := by
  have h1 := last_split h
  have h2 := trim_lim hl
  rw [h1, trimF_snoc, if_neg h0, ← h1] at h2
  exact h2
theorem tz_two_zero {n : Nat} (h : n ≠ 0) : (tz n).2 = 0 ↔ n % 10 ≠ 0 := by
  constructor
  · intro hz hm
    rw [tz_ten h hm] at hz
    simp at hz
  · intro hm
    rw [tz_self hm]
theorem val_zero_of {l : List Int} (hl : Ok l) (h : l.length ≠ 0) (h0 : rd l ((l.length : Int) - 1) ≠ 0) : val l ≠ 0 := by
  intro hz
  have := top_lim hl h h0
  rw [hz, lim_zero] at this
  rw [this] at h
  exact h rfl
def checkN (n : Num) : Bool :=
  if n.m.length = 0 then (!n.neg && n.e == 0) else if n.m.length > 90 then false else if rd n.m ((n.m.length : Int) - 1) = 0 then false else if n.e < -1200 then false else if n.e > 1200 then false else decide (val n.m % 10 ≠ 0)
theorem tzB {l : List Int} (hl : Ok l) (h : l.length ≠ 0) (h0 : rd l ((l.length : Int) - 1) ≠ 0) : ((((tz (val l)).2 : Nat) : Int) == 0) = decide (val l % 10 ≠ 0) := by
  have := tz_two_zero (val_zero_of hl h h0)
  rw [Bool.eq_iff_iff, beq_iff_eq, decide_eq_true_iff, ← this]; omega
set_option maxRecDepth 100000 in
theorem con251 (l : List Int) (ha : Ok l) (hl : l.length < 1000000000) : Con Tryz.prog I0 251 [.row (.int .u32) l] (.val (.tup [.row (.int .u32) (lim (tz (val l)).1), vi (((tz (val l)).2 : Nat) : Int)])) := by
 refine con_of Tryz.func251 rfl (Nat.le_of_ble_eq_true rfl) stab (fun w0 fz a hI hs => ?_)
 refine wp_seq ?_
 refine way_L (tt := tt) (rs := []) (bs := []) (tk := [0]) (bk := []) (C := True ∧ True ∧ True) (lv := .norm) (T' := [(0, .row (.int .u32) l)]) (B' := []) mix hI hs ?_ ?_ ?_ ?_
 ·exact trivial
 ·kernel_rfl
 ·exact ⟨trivial, trivial, trivial⟩
 intro a w hs
 refine then_norm ?_
 refine wp_scope_straight ?_
 refine wp_seq ?_
 refine way_L (tt := tt) (rs := [(1, ⟨[(1, ciA 270 [.row (.int .u32) l] [] [] (.val (.row (.int .u32) (lim (val l)))))], [], []⟩)]) (bs := []) (tk := [0]) (bk := []) (C := True ∧ (okArgs [.row (.int .u32) l]) ∧ True ∧ True) (lv := .norm) (T' := [(0, .row (.int .u32) (lim (val l)))]) (B' := []) mix hI hs ?_ ?_ ?_ ?_
 ·exact ⟨⟨⟨ent270, (trim_lim ha ▸ (con270 _ (by omega)).frz)⟩, trivial⟩, trivial⟩
 ·kernel_rfl
 ·exact ⟨trivial, rfl, trivial, trivial⟩
 intro a w hs
 refine then_norm ?_
 refine wp_seq ?_
 refine way_L (tt := tt) (rs := []) (bs := []) (tk := [0, 4]) (bk := []) (C := True ∧ True) (lv := .norm) (T' := [(0, .row (.int .u32) (lim (val l))), (4, vi 0)]) (B' := []) mix hI hs ?_ ?_ ?_ ?_
 ·exact trivial
 ·kernel_rfl
 ·exact ⟨trivial, trivial⟩
 intro a w hs
 refine then_norm ?_
 refine wp_seq ?_
 refine way_L (tt := tt) (rs := []) (bs := []) (tk := [0, 4]) (bk := []) (C := True) (lv := .norm) (T' := [(0, .row (.int .u32) (lim (val l))), (4, vi 0)]) (B' := []) mix hI hs ?_ ?_ ?_ ?_
 ·exact trivial
 ·kernel_rfl
 ·exact trivial
 intro a w hs
 refine then_norm ?_
 refine wp_seq ?_
 refine wp_block ?_
 refine loop_L (N := Tryz.f251.ntmps) (w0 := w0) (ow := noO fz) (α := Nat × Nat) (fun p => [(0, .row (.int .u32) (lim p.1)), (4, vi ((p.2 : Nat) : Int))]) (fun p => []) (fun p => p.1 ≤ val l ∧ tz (val l) = ((tz p.1).1, p.2 + (tz p.1).2)) (fun p => p.1) (val l, 0) ?_ ?_ ?_
 ·exact ⟨Nat.le_refl _, by simp⟩
 ·exact (SimL.cast hs (T' := [(0, .row (.int .u32) (lim (val l))), (4, vi ((0 : Nat) : Int))]) (B' := []) (by rfl) rfl).ren [] (by kernel_rfl) (by kernel_rfl) (by kernel_rfl)
 rintro ⟨n, c⟩ hJ a w hs
 try dsimp only at hJ
 obtain ⟨hn, hz⟩ := hJ
 have hln := lim_len ha hn
 have htz := tz_small ha hl
 rw [hz] at htz
 have hl0 := lim_len_zero n
 have hvl := val_lim n
 rcases Bool.eq_false_or_eq_true (decide (((lim n).length : Int) > 0)) with b1 | b1
 ·skip
  have n1 := of_decide_eq_true b1
  rcases Bool.eq_false_or_eq_true (((val (lim n) % 10 : Nat) : Int) != 0) with b2 | b2
  ·skip
   have n2 := bne_iff_ne.1 b2
   refine way_L (tt := tt) (rs := [(4, ⟨[(1, ciA 271 [.row (.int .u32) (lim n), .lit (.int .u32 10)] [] [] (.val (.tup [.row (.int .u32) (lim (val (lim n) / 10)), .lit (.int .u32 ((val (lim n) % 10 : Nat) : Int))])))], [], []⟩)]) (bs := [true, true]) (tk := [0, 4]) (bk := []) (C := ((tr 3 True) ∧ ((decide (((lim n).length : Int) > 0)) = true) ∧ True) ∧ (True ∧ (okArgs [.row (.int .u32) (lim n), .lit (.int .u32 10)]) ∧ (tr 5 True)) ∧ (True ∧ True ∧ True) ∧ ((((val (lim n) % 10 : Nat) : Int) != 0) = true) ∧ True) (lv := .exit 0) (T' := [(0, .row (.int .u32) (lim n)), (4, vi ((c : Nat) : Int))]) (B' := []) mix hI hs ?_ ?_ ?_ ?_
   ·exact ⟨⟨⟨ent271, con271_10 _ (lim_ok n) (by omega)⟩, trivial⟩, trivial⟩
   ·kernel_rfl
   ·exact ⟨⟨tr_mk trivial 3, b1, trivial⟩, ⟨trivial, rfl, tr_mk trivial 5⟩, ⟨trivial, trivial, trivial⟩, b2, trivial⟩
   intro a w hs
   refine then_exit ?_
   refine inb_hit ?_
   refine then_norm ?_
   refine way_L (tt := tt) (rs := []) (bs := []) (tk := [2, 3]) (bk := []) (C := (tr 4 True) ∧ True) (lv := .ret) (T' := [(2, .row (.int .u32) (lim n)), (3, vi ((c : Nat) : Int))]) (B' := []) mix hI hs ?_ ?_ ?_ ?_
   ·exact trivial
   ·kernel_rfl
   ·exact ⟨tr_mk trivial 4, trivial⟩
   intro a w hs
   refine ng_ret ?_
   exact FnQ_cast (out := .val (.tup [.row (.int .u32) (lim n), vi ((c : Nat) : Int)])) (by have h := bne_iff_ne.1 b2; rw [hvl] at h; rw [tz_end (.inl (by omega)) hz]) (ret_ok [] hs ⟨by kernel_rfl, rfl⟩)
  ·skip
   have n2 := bne_eq_false_iff_eq.1 b2
   refine way_L (tt := tt) (rs := [(4, ⟨[(1, ciA 271 [.row (.int .u32) (lim n), .lit (.int .u32 10)] [] [] (.val (.tup [.row (.int .u32) (lim (val (lim n) / 10)), .lit (.int .u32 ((val (lim n) % 10 : Nat) : Int))])))], [], []⟩)]) (bs := [true, false]) (tk := [0, 4]) (bk := []) (C := ((tr 3 True) ∧ ((decide (((lim n).length : Int) > 0)) = true) ∧ True) ∧ (True ∧ (okArgs [.row (.int .u32) (lim n), .lit (.int .u32 10)]) ∧ (tr 5 True)) ∧ ((True ∧ True ∧ True) ∧ ((((val (lim n) % 10 : Nat) : Int) != 0) = false) ∧ True) ∧ (True ∧ True ∧ True) ∧ True ∧ (InR .i64 (((c : Nat) : Int) + 1)) ∧ True ∧ True) (lv := .norm) (T' := [(0, .row (.int .u32) (lim (val (lim n) / 10))), (4, vi (((c : Nat) : Int) + 1))]) (B' := []) mix hI hs ?_ ?_ ?_ ?_
   ·exact ⟨⟨⟨ent271, con271_10 _ (lim_ok n) (by omega)⟩, trivial⟩, trivial⟩
   ·kernel_rfl
   ·exact ⟨⟨tr_mk trivial 3, b1, trivial⟩, ⟨trivial, rfl, tr_mk trivial 5⟩, ⟨⟨trivial, trivial, trivial⟩, b2, trivial⟩, ⟨trivial, trivial, trivial⟩, trivial, (inR64 (by omega) (by omega)), trivial, trivial⟩
   intro a w hs
   refine then_norm ⟨(n / 10, c + 1), ⟨by omega, tz_iter (by omega) (by have h := bne_eq_false_iff_eq.1 b2; rw [hvl] at h; omega) hz⟩, by omega, ?_⟩
   (have e0_ : (lim (val (lim n) / 10)) = (lim (n / 10)) := (by first | rfl | (rw [hvl])); have e1_ : (((c : Nat) : Int) + 1) = ((((c + 1) : Nat) : Int)) := (by first | rfl | (omega)); exact (SimL.cast hs (T' := [(0, .row (.int .u32) (lim (n / 10))), (4, vi (((c + 1) : Nat) : Int))]) (B' := []) (by first | rfl | (rw [e0_, e1_]; done) | (simp only [e0_, e1_]; done) | (simp only [e0_, e1_]; rfl)) (by first | rfl | (rw [e0_, e1_]; done) | (simp only [e0_, e1_]; done) | (simp only [e0_, e1_]; rfl))).ren [] (by kernel_rfl) (by kernel_rfl) (by kernel_rfl))
 ·skip
  have n1 := of_decide_eq_false b1
  refine way_L (tt := tt) (rs := []) (bs := [false]) (tk := [0, 4]) (bk := []) (C := (tr 3 True) ∧ ((decide (((lim n).length : Int) > 0)) = false) ∧ True) (lv := .exit 0) (T' := [(0, .row (.int .u32) (lim n)), (4, vi ((c : Nat) : Int))]) (B' := []) mix hI hs ?_ ?_ ?_ ?_
  ·exact trivial
  ·kernel_rfl
  ·exact ⟨tr_mk trivial 3, b1, trivial⟩
  intro a w hs
  refine then_exit ?_
  refine inb_hit ?_
  refine then_norm ?_
  refine way_L (tt := tt) (rs := []) (bs := []) (tk := [2, 3]) (bk := []) (C := (tr 4 True) ∧ True) (lv := .ret) (T' := [(2, .row (.int .u32) (lim n)), (3, vi ((c : Nat) : Int))]) (B' := []) mix hI hs ?_ ?_ ?_ ?_
  ·exact trivial
  ·kernel_rfl
  ·exact ⟨tr_mk trivial 4, trivial⟩
  intro a w hs
  refine ng_ret ?_
  exact FnQ_cast (out := .val (.tup [.row (.int .u32) (lim n), vi ((c : Nat) : Int)])) (by rw [tz_end (.inr (by omega)) hz]) (ret_ok [] hs ⟨by kernel_rfl, rfl⟩)
set_option maxRecDepth 100000 in
theorem con214 (n : Num) (ha : Ok n.m) (hl : n.m.length < 1000000000) : Con Tryz.prog I0 214 [.agg [vb n.neg, .row (.int .u32) n.m, vi n.e]] (.val (vb (checkN n))) := by
 refine con_of Tryz.func214 rfl (Nat.le_of_ble_eq_true rfl) stab (fun w0 fz a hI hs => ?_)
 rcases Bool.eq_false_or_eq_true ((n.m.length : Int) == 0) with b1 | b1
 ·skip
  have n1 := eq_of_beq b1
  rcases Bool.eq_false_or_eq_true (n.neg) with b2 | b2
  ·skip
   refine way_L (tt := tt) (rs := [(3, ⟨[], [(4, false), (5, false), (6, false), (1007, false)], []⟩)]) (bs := [true]) (tk := [2]) (bk := []) (C := (True ∧ True ∧ True) ∧ (tr 4 True) ∧ (True ∧ True ∧ True) ∧ (((n.m.length : Int) == 0) = true) ∧ (tr 4 (((!n.neg) = false) ∧ ((!n.neg) = false) ∧ ((!n.neg) = false) ∧ ((!n.neg) = false) ∧ True ∧ True)) ∧ True) (lv := .ret) (T' := [(2, vb false)]) (B' := []) mix hI hs ?_ ?_ ?_ ?_
   ·exact ⟨trivial, trivial⟩
   ·kernel_rfl
   ·exact ⟨⟨trivial, trivial, trivial⟩, tr_mk trivial 4, ⟨trivial, trivial, trivial⟩, b1, tr_mk (⟨(by rw [b2]; rfl), (by rw [b2]; rfl), (by rw [b2]; rfl), (by rw [b2]; rfl), trivial, trivial⟩) 4, trivial⟩
   intro a w hs
   exact FnQ_cast (out := .val (vb false)) (by rw [checkN, if_pos (by omega), b2]; rfl) (ret_ok [] hs ⟨by kernel_rfl, rfl⟩)
  ·skip
   refine way_L (tt := tt) (rs := [(3, ⟨[], [(4, true), (5, true), (6, true), (1007, true)], []⟩)]) (bs := [true]) (tk := [2]) (bk := []) (C := (True ∧ True ∧ True) ∧ (tr 4 True) ∧ (True ∧ True ∧ True) ∧ (((n.m.length : Int) == 0) = true) ∧ (tr 4 (((!n.neg) = true) ∧ True ∧ ((!n.neg) = true) ∧ True ∧ ((!n.neg) = true) ∧ True ∧ ((!n.neg) = true) ∧ True ∧ True)) ∧ True) (lv := .ret) (T' := [(2, vb (n.e == 0))]) (B' := []) mix hI hs ?_ ?_ ?_ ?_
   ·exact ⟨trivial, trivial⟩
   ·kernel_rfl
   ·exact ⟨⟨trivial, trivial, trivial⟩, tr_mk trivial 4, ⟨trivial, trivial, trivial⟩, b1, tr_mk (⟨(by rw [b2]; rfl), trivial, (by rw [b2]; rfl), trivial, (by rw [b2]; rfl), trivial, (by rw [b2]; rfl), trivial, trivial⟩) 4, trivial⟩
   intro a w hs
   exact FnQ_cast (out := .val (vb (n.e == 0))) (by rw [checkN, if_pos (by omega), b2]; rfl) (ret_ok [] hs ⟨by kernel_rfl, rfl⟩)
 ·skip
  have n1 := beq_eq_false_iff_ne.1 b1
  rcases Bool.eq_false_or_eq_true (decide ((n.m.length : Int) > 90)) with b3 | b3
  ·skip
   have n3 := of_decide_eq_true b3
   refine way_L (tt := tt) (rs := [(4, ⟨[], [(3, false), (4, false), (5, false), (6, false), (7, false), (8, false), (9, false), (1010, true), (12, false), (13, false), (14, false), (1015, true), (17, false), (18, false), (19, false), (1020, true)], []⟩)]) (bs := [false, true]) (tk := [2]) (bk := []) (C := (True ∧ True ∧ True) ∧ (tr 4 True) ∧ ((True ∧ True ∧ True) ∧ (((n.m.length : Int) == 0) = false) ∧ True) ∧ (tr 3 (((decide ((n.m.length : Int) > 90)) = true) ∧ ((decide ((n.m.length : Int) > 90)) = true) ∧ ((decide ((n.m.length : Int) > 90)) = true) ∧ ((decide ((n.m.length : Int) > 90)) = true) ∧ ((decide ((n.m.length : Int) > 90)) = true) ∧ ((decide ((n.m.length : Int) > 90)) = true) ∧ ((decide ((n.m.length : Int) > 90)) = true) ∧ ((decide ((n.m.length : Int) > 90)) = true) ∧ True ∧ (true = true) ∧ (true = true) ∧ (true = true) ∧ (true = true) ∧ True ∧ (true = true) ∧ (true = true) ∧ (true = true) ∧ (true = true) ∧ True)) ∧ (true = true) ∧ (True ∧ True) ∧ True) (lv := .ret) (T' := [(2, vb false)]) (B' := []) mix hI hs ?_ ?_ ?_ ?_
   ·exact ⟨trivial, trivial⟩
   ·kernel_rfl
   ·exact ⟨⟨trivial, trivial, trivial⟩, tr_mk trivial 4, ⟨⟨trivial, trivial, trivial⟩, b1, trivial⟩, tr_mk (⟨b3, b3, b3, b3, b3, b3, b3, b3, trivial, rfl, rfl, rfl, rfl, trivial, rfl, rfl, rfl, rfl, trivial⟩) 3, rfl, ⟨trivial, trivial⟩, trivial⟩
   intro a w hs
   exact FnQ_cast (out := .val (vb false)) (by rw [checkN, if_neg (by omega), if_pos (by omega)]) (ret_ok [] hs ⟨by kernel_rfl, rfl⟩)
  ·skip
   have n3 := of_decide_eq_false b3
   rcases Bool.eq_false_or_eq_true ((n.m.getD (((n.m.length : Int) - 1).toNat) (dflt (.int .u32))) == 0) with b4 | b4
   ·skip
    have n4 := eq_of_beq b4
    refine way_L (tt := tt) (rs := [(4, ⟨[], [(3, true), (4, true), (5, true), (6, true), (7, true), (8, true), (9, true), (1010, false), (12, false), (13, false), (14, false), (1015, true), (17, false), (18, false), (19, false), (1020, true)], []⟩)]) (bs := [false, true]) (tk := [2]) (bk := []) (C := (True ∧ True ∧ True) ∧ (tr 4 True) ∧ ((True ∧ True ∧ True) ∧ (((n.m.length : Int) == 0) = false) ∧ True) ∧ (tr 3 (((decide ((n.m.length : Int) > 90)) = false) ∧ True ∧ ((decide ((n.m.length : Int) > 90)) = false) ∧ True ∧ ((decide ((n.m.length : Int) > 90)) = false) ∧ True ∧ ((decide ((n.m.length : Int) > 90)) = false) ∧ (InR .i64 ((n.m.length : Int) - 1)) ∧ ((decide ((n.m.length : Int) > 90)) = false) ∧ (0 ≤ ((n.m.length : Int) - 1) ∧ ((n.m.length : Int) - 1) < n.m.length) ∧ ((decide ((n.m.length : Int) > 90)) = false) ∧ True ∧ ((decide ((n.m.length : Int) > 90)) = false) ∧ True ∧ ((decide ((n.m.length : Int) > 90)) = false) ∧ True ∧ (((n.m.getD (((n.m.length : Int) - 1).toNat) (dflt (.int .u32))) == 0) = true) ∧ (((n.m.getD (((n.m.length : Int) - 1).toNat) (dflt (.int .u32))) == 0) = true) ∧ (((n.m.getD (((n.m.length : Int) - 1).toNat) (dflt (.int .u32))) == 0) = true) ∧ (((n.m.getD (((n.m.length : Int) - 1).toNat) (dflt (.int .u32))) == 0) = true) ∧ True ∧ (true = true) ∧ (true = true) ∧ (true = true) ∧ (true = true) ∧ True)) ∧ (true = true) ∧ (True ∧ True) ∧ True) (lv := .ret) (T' := [(2, vb false)]) (B' := []) mix hI hs ?_ ?_ ?_ ?_
    ·exact ⟨trivial, trivial⟩
    ·kernel_rfl
    ·exact ⟨⟨trivial, trivial, trivial⟩, tr_mk trivial 4, ⟨⟨trivial, trivial, trivial⟩, b1, trivial⟩, tr_mk (⟨b3, trivial, b3, trivial, b3, trivial, b3, (inR64 (by omega) (by omega)), b3, ⟨by omega, by omega⟩, b3, trivial, b3, trivial, b3, trivial, b4, b4, b4, b4, trivial, rfl, rfl, rfl, rfl, trivial⟩) 3, rfl, ⟨trivial, trivial⟩, trivial⟩
    intro a w hs
    exact FnQ_cast (out := .val (vb false)) (by rw [checkN, if_neg (by omega), if_neg (by omega), if_pos (show rd n.m _ = 0 from eq_of_beq b4)]) (ret_ok [] hs ⟨by kernel_rfl, rfl⟩)
   ·skip
    have n4 := beq_eq_false_iff_ne.1 b4
    rcases Bool.eq_false_or_eq_true (decide (n.e < (-1200))) with b5 | b5
    ·skip
     have n5 := of_decide_eq_true b5
     refine way_L (tt := tt) (rs := [(4, ⟨[], [(3, true), (4, true), (5, true), (6, true), (7, true), (8, true), (9, true), (1010, false), (12, true), (13, true), (14, true), (1015, false), (17, false), (18, false), (19, false), (1020, true)], []⟩)]) (bs := [false, true]) (tk := [2]) (bk := []) (C := (True ∧ True ∧ True) ∧ (tr 4 True) ∧ ((True ∧ True ∧ True) ∧ (((n.m.length : Int) == 0) = false) ∧ True) ∧ (tr 3 (((decide ((n.m.length : Int) > 90)) = false) ∧ True ∧ ((decide ((n.m.length : Int) > 90)) = false) ∧ True ∧ ((decide ((n.m.length : Int) > 90)) = false) ∧ True ∧ ((decide ((n.m.length : Int) > 90)) = false) ∧ (InR .i64 ((n.m.length : Int) - 1)) ∧ ((decide ((n.m.length : Int) > 90)) = false) ∧ (0 ≤ ((n.m.length : Int) - 1) ∧ ((n.m.length : Int) - 1) < n.m.length) ∧ ((decide ((n.m.length : Int) > 90)) = false) ∧ True ∧ ((decide ((n.m.length : Int) > 90)) = false) ∧ True ∧ ((decide ((n.m.length : Int) > 90)) = false) ∧ True ∧ (((n.m.getD (((n.m.length : Int) - 1).toNat) (dflt (.int .u32))) == 0) = false) ∧ True ∧ (((n.m.getD (((n.m.length : Int) - 1).toNat) (dflt (.int .u32))) == 0) = false) ∧ True ∧ (((n.m.getD (((n.m.length : Int) - 1).toNat) (dflt (.int .u32))) == 0) = false) ∧ True ∧ (((n.m.getD (((n.m.length : Int) - 1).toNat) (dflt (.int .u32))) == 0) = false) ∧ True ∧ ((decide (n.e < (-1200))) = true) ∧ ((decide (n.e < (-1200))) = true) ∧ ((decide (n.e < (-1200))) = true) ∧ ((decide (n.e < (-1200))) = true) ∧ True)) ∧ (true = true) ∧ (True ∧ True) ∧ True) (lv := .ret) (T' := [(2, vb false)]) (B' := []) mix hI hs ?_ ?_ ?_ ?_
     ·exact ⟨trivial, trivial⟩
     ·kernel_rfl
     ·exact ⟨⟨trivial, trivial, trivial⟩, tr_mk trivial 4, ⟨⟨trivial, trivial, trivial⟩, b1, trivial⟩, tr_mk (⟨b3, trivial, b3, trivial, b3, trivial, b3, (inR64 (by omega) (by omega)), b3, ⟨by omega, by omega⟩, b3, trivial, b3, trivial, b3, trivial, b4, trivial, b4, trivial, b4, trivial, b4, trivial, b5, b5, b5, b5, trivial⟩) 3, rfl, ⟨trivial, trivial⟩, trivial⟩
     intro a w hs
     exact FnQ_cast (out := .val (vb false)) (by rw [checkN, if_neg (by omega), if_neg (by omega), if_neg (show ¬ rd n.m _ = 0 from beq_eq_false_iff_ne.1 b4), if_pos (by omega)]) (ret_ok [] hs ⟨by kernel_rfl, rfl⟩)
    ·skip
     have n5 := of_decide_eq_false b5
     rcases Bool.eq_false_or_eq_true (decide (n.e > 1200)) with b6 | b6
     ·skip
      have n6 := of_decide_eq_true b6
      refine way_L (tt := tt) (rs := [(4, ⟨[], [(3, true), (4, true), (5, true), (6, true), (7, true), (8, true), (9, true), (1010, false), (12, true), (13, true), (14, true), (1015, false), (17, true), (18, true), (19, true), (1020, false)], []⟩)]) (bs := [false, true]) (tk := [2]) (bk := []) (C := (True ∧ True ∧ True) ∧ (tr 4 True) ∧ ((True ∧ True ∧ True) ∧ (((n.m.length : Int) == 0) = false) ∧ True) ∧ (tr 3 (((decide ((n.m.length : Int) > 90)) = false) ∧ True ∧ ((decide ((n.m.length : Int) > 90)) = false) ∧ True ∧ ((decide ((n.m.length : Int) > 90)) = false) ∧ True ∧ ((decide ((n.m.length : Int) > 90)) = false) ∧ (InR .i64 ((n.m.length : Int) - 1)) ∧ ((decide ((n.m.length : Int) > 90)) = false) ∧ (0 ≤ ((n.m.length : Int) - 1) ∧ ((n.m.length : Int) - 1) < n.m.length) ∧ ((decide ((n.m.length : Int) > 90)) = false) ∧ True ∧ ((decide ((n.m.length : Int) > 90)) = false) ∧ True ∧ ((decide ((n.m.length : Int) > 90)) = false) ∧ True ∧ (((n.m.getD (((n.m.length : Int) - 1).toNat) (dflt (.int .u32))) == 0) = false) ∧ True ∧ (((n.m.getD (((n.m.length : Int) - 1).toNat) (dflt (.int .u32))) == 0) = false) ∧ True ∧ (((n.m.getD (((n.m.length : Int) - 1).toNat) (dflt (.int .u32))) == 0) = false) ∧ True ∧ (((n.m.getD (((n.m.length : Int) - 1).toNat) (dflt (.int .u32))) == 0) = false) ∧ True ∧ ((decide (n.e < (-1200))) = false) ∧ True ∧ ((decide (n.e < (-1200))) = false) ∧ True ∧ ((decide (n.e < (-1200))) = false) ∧ True ∧ ((decide (n.e < (-1200))) = false) ∧ True)) ∧ ((decide (n.e > 1200)) = true) ∧ (True ∧ True) ∧ True) (lv := .ret) (T' := [(2, vb false)]) (B' := []) mix hI hs ?_ ?_ ?_ ?_
      ·exact ⟨trivial, trivial⟩
      ·kernel_rfl
      ·exact ⟨⟨trivial, trivial, trivial⟩, tr_mk trivial 4, ⟨⟨trivial, trivial, trivial⟩, b1, trivial⟩, tr_mk (⟨b3, trivial, b3, trivial, b3, trivial, b3, (inR64 (by omega) (by omega)), b3, ⟨by omega, by omega⟩, b3, trivial, b3, trivial, b3, trivial, b4, trivial, b4, trivial, b4, trivial, b4, trivial, b5, trivial, b5, trivial, b5, trivial, b5, trivial⟩) 3, b6, ⟨trivial, trivial⟩, trivial⟩
      intro a w hs
      exact FnQ_cast (out := .val (vb false)) (by rw [checkN, if_neg (by omega), if_neg (by omega), if_neg (show ¬ rd n.m _ = 0 from beq_eq_false_iff_ne.1 b4), if_neg (by omega), if_pos (by omega)]) (ret_ok [] hs ⟨by kernel_rfl, rfl⟩)
     ·skip
      have n6 := of_decide_eq_false b6
      refine way_L (tt := tt) (rs := [(4, ⟨[], [(3, true), (4, true), (5, true), (6, true), (7, true), (8, true), (9, true), (1010, false), (12, true), (13, true), (14, true), (1015, false), (17, true), (18, true), (19, true), (1020, false)], []⟩), (6, ⟨[(2, ciA 251 [.row (.int .u32) n.m] [] [] (.val (.tup [.row (.int .u32) (lim (tz (val n.m)).1), vi (((tz (val n.m)).2 : Nat) : Int)])))], [], []⟩)]) (bs := [false, false]) (tk := [2]) (bk := []) (C := (True ∧ True ∧ True) ∧ (tr 4 True) ∧ ((True ∧ True ∧ True) ∧ (((n.m.length : Int) == 0) = false) ∧ True) ∧ ((tr 3 (((decide ((n.m.length : Int) > 90)) = false) ∧ True ∧ ((decide ((n.m.length : Int) > 90)) = false) ∧ True ∧ ((decide ((n.m.length : Int) > 90)) = false) ∧ True ∧ ((decide ((n.m.length : Int) > 90)) = false) ∧ (InR .i64 ((n.m.length : Int) - 1)) ∧ ((decide ((n.m.length : Int) > 90)) = false) ∧ (0 ≤ ((n.m.length : Int) - 1) ∧ ((n.m.length : Int) - 1) < n.m.length) ∧ ((decide ((n.m.length : Int) > 90)) = false) ∧ True ∧ ((decide ((n.m.length : Int) > 90)) = false) ∧ True ∧ ((decide ((n.m.length : Int) > 90)) = false) ∧ True ∧ (((n.m.getD (((n.m.length : Int) - 1).toNat) (dflt (.int .u32))) == 0) = false) ∧ True ∧ (((n.m.getD (((n.m.length : Int) - 1).toNat) (dflt (.int .u32))) == 0) = false) ∧ True ∧ (((n.m.getD (((n.m.length : Int) - 1).toNat) (dflt (.int .u32))) == 0) = false) ∧ True ∧ (((n.m.getD (((n.m.length : Int) - 1).toNat) (dflt (.int .u32))) == 0) = false) ∧ True ∧ ((decide (n.e < (-1200))) = false) ∧ True ∧ ((decide (n.e < (-1200))) = false) ∧ True ∧ ((decide (n.e < (-1200))) = false) ∧ True ∧ ((decide (n.e < (-1200))) = false) ∧ True)) ∧ ((decide (n.e > 1200)) = false) ∧ True) ∧ (True ∧ True ∧ (okArgs [.row (.int .u32) n.m]) ∧ (tr 5 True)) ∧ (tr 3 True) ∧ True) (lv := .ret) (T' := [(2, vb ((((tz (val n.m)).2 : Nat) : Int) == 0))]) (B' := []) mix hI hs ?_ ?_ ?_ ?_
      ·exact ⟨trivial, ⟨⟨ent251, con251 _ ha (by omega)⟩, trivial⟩, trivial⟩
      ·kernel_rfl
      ·exact ⟨⟨trivial, trivial, trivial⟩, tr_mk trivial 4, ⟨⟨trivial, trivial, trivial⟩, b1, trivial⟩, ⟨tr_mk (⟨b3, trivial, b3, trivial, b3, trivial, b3, (inR64 (by omega) (by omega)), b3, ⟨by omega, by omega⟩, b3, trivial, b3, trivial, b3, trivial, b4, trivial, b4, trivial, b4, trivial, b4, trivial, b5, trivial, b5, trivial, b5, trivial, b5, trivial⟩) 3, b6, trivial⟩, ⟨trivial, trivial, rfl, tr_mk trivial 5⟩, tr_mk trivial 3, trivial⟩
      intro a w hs
      exact FnQ_cast (out := .val (vb ((((tz (val n.m)).2 : Nat) : Int) == 0))) (by rw [checkN, if_neg (by omega), if_neg (by omega), if_neg (show ¬ rd n.m _ = 0 from beq_eq_false_iff_ne.1 b4), if_neg (by omega), if_neg (by omega), tzB ha (by omega) (show ¬ rd n.m _ = 0 from beq_eq_false_iff_ne.1 b4)]) (ret_ok [] hs ⟨by kernel_rfl, rfl⟩)
end Go.Proofs.YtondpnipoogoiaaGreatDoor.F
namespace Go.Proofs.YtondpnipoogoiaaGreatDoor.F
open Go Go.RowKit Go.Proofs.Tryz
set_option linter.unusedVariables false
set_option linter.unusedSimpArgs false
def ownN (n : Num) : Bool := !n.neg && ((n.m.length : Int) == 0 && n.e == 0)
def truthO (t : Tree) : Bool := if t.kind = 2 then true else !t.b
def numO (t : Tree) : Bool := if t.kind = 3 then checkN t.n else ownN t.n
def textO (t : Tree) : Bool := if t.kind = 4 then textOk t.s else if t.kind = 5 then decide ((t.s.size : Int) ≤ 2000) else (t.s.toList == (ba []).toList)
def keysO (t : Tree) : Bool := if t.kind = 7 then namesOk t.k && (t.k.length : Int) == (t.v.length : Int) else (t.k.length : Int) == 0
def itemsO (t : Tree) : Bool := if t.kind = 7 ∨ t.kind = 6 then decide ((t.v.length : Int) ≤ 300) else (t.v.length : Int) == 0
def ownO (t : Tree) : Bool := decide (1 ≤ t.kind ∧ t.kind ≤ 7) && (truthO t && (numO t && (textO t && (keysO t && itemsO t))))
set_option maxRecDepth 100000 in
theorem con170 (t : Tree) (ha : Ok t.n.m) (hl : t.n.m.length < 1000000000) (hk : t.k.length < 1000000000) : Con Tryz.prog I0 170 [.agg (encTree t)] (.val (vb (ownO t))) := by
 refine con_of Tryz.func170 rfl (Nat.le_of_ble_eq_true rfl) stab (fun w0 fz a hI hs => ?_)
 refine wp_seq ?_
 refine way_L (tt := tt) (rs := []) (bs := []) (tk := [1]) (bk := [1000]) (C := True ∧ True ∧ True) (lv := .norm) (T' := [(1, .ptr 1000 0)]) (B' := [(1000, .var [vi t.kind, vb t.b, vb t.n.neg, .row (.int .u32) t.n.m, vi t.n.e, vs t.s, .row .str t.k, .row .tree t.v])]) mix hI hs ?_ ?_ ?_ ?_
 ·exact trivial
 ·kernel_rfl
 ·exact ⟨trivial, trivial, trivial⟩
 intro a w hs
 refine then_norm ?_
 refine wp_cut (N := Tryz.f170.ntmps) (w0 := w0) (ow := noO fz) (T := [(1, .ptr 1000 0), (3, vb (!t.b)), (4, vb (ownN t.n)), (5, vb (t.s.toList == (ba []).toList))]) (B := [(1000, .var [vi t.kind, vb t.b, vb t.n.neg, .row (.int .u32) t.n.m, vi t.n.e, vs t.s, .row .str t.k, .row .tree t.v])]) (True) ?_ ?_
 ·skip
  rcases Bool.eq_false_or_eq_true (t.n.neg) with b1 | b1
  ·skip
   refine way_L (tt := tt) (rs := [(1, ⟨[], [(8, false), (9, false), (10, false), (11, false), (12, false), (1013, false), (15, false), (16, false), (17, false), (18, false), (1019, false)], []⟩)]) (bs := []) (tk := [1, 3, 4, 5]) (bk := [1000]) (C := tr 8 (((!t.n.neg) = false) ∧ ((!t.n.neg) = false) ∧ ((!t.n.neg) = false) ∧ ((!t.n.neg) = false) ∧ ((!t.n.neg) = false) ∧ ((!t.n.neg) = false) ∧ True ∧ (false = false) ∧ (false = false) ∧ (false = false) ∧ (false = false) ∧ (false = false) ∧ (tr 6 True))) (lv := .norm) (T' := [(1, .ptr 1000 0), (3, vb (!t.b)), (4, vb false), (5, vb (t.s.toList == (ba []).toList))]) (B' := [(1000, .var [vi t.kind, vb t.b, vb t.n.neg, .row (.int .u32) t.n.m, vi t.n.e, vs t.s, .row .str t.k, .row .tree t.v])]) mix hI hs ?_ ?_ ?_ ?_
   ·exact ⟨trivial, trivial⟩
   ·kernel_rfl
   ·exact tr_mk (⟨(by rw [b1]; rfl), ⟨(by rw [b1]; rfl), ⟨(by rw [b1]; rfl), ⟨(by rw [b1]; rfl), ⟨(by rw [b1]; rfl), ⟨(by rw [b1]; rfl), ⟨trivial, ⟨rfl, ⟨rfl, ⟨rfl, ⟨rfl, ⟨rfl, tr_mk trivial 6⟩⟩⟩⟩⟩⟩⟩⟩⟩⟩⟩⟩) 8
   intro a w hs
   refine then_norm ⟨trivial, ?_⟩
   (have e0_ : (false) = (ownN t.n) := (by first | rfl | (simp only [ownN, b1]; rfl)); exact (SimL.cast hs (T' := [(1, .ptr 1000 0), (3, vb (!t.b)), (4, vb (ownN t.n)), (5, vb (t.s.toList == (ba []).toList))]) (B' := [(1000, .var [vi t.kind, vb t.b, vb t.n.neg, .row (.int .u32) t.n.m, vi t.n.e, vs t.s, .row .str t.k, .row .tree t.v])]) (by first | rfl | (rw [e0_]; done) | (simp only [e0_]; done) | (simp only [e0_]; rfl)) (by first | rfl | (rw [e0_]; done) | (simp only [e0_]; done) | (simp only [e0_]; rfl))).ren [(1000, 1000)] (by kernel_rfl) (by kernel_rfl) (by kernel_rfl))
  ·skip
   rcases Bool.eq_false_or_eq_true ((t.n.m.length : Int) == 0) with b2 | b2
   ·skip
    have n2 := eq_of_beq b2
    refine way_L (tt := tt) (rs := [(1, ⟨[], [(8, true), (9, true), (10, true), (11, true), (12, true), (1013, true), (15, true), (16, true), (17, true), (18, true), (1019, true)], []⟩)]) (bs := []) (tk := [1, 3, 4, 5]) (bk := [1000]) (C := tr 8 ((((!t.n.neg) = true) ∧ True) ∧ (((!t.n.neg) = true) ∧ True) ∧ (((!t.n.neg) = true) ∧ True) ∧ (((!t.n.neg) = true) ∧ True) ∧ (((!t.n.neg) = true) ∧ True) ∧ ((!t.n.neg) = true) ∧ True ∧ ((((t.n.m.length : Int) == 0) = true) ∧ True) ∧ ((((t.n.m.length : Int) == 0) = true) ∧ True) ∧ ((((t.n.m.length : Int) == 0) = true) ∧ True) ∧ ((((t.n.m.length : Int) == 0) = true) ∧ True) ∧ (((t.n.m.length : Int) == 0) = true) ∧ (tr 6 True))) (lv := .norm) (T' := [(1, .ptr 1000 0), (3, vb (!t.b)), (4, vb (t.n.e == 0)), (5, vb (t.s.toList == (ba []).toList))]) (B' := [(1000, .var [vi t.kind, vb t.b, vb t.n.neg, .row (.int .u32) t.n.m, vi t.n.e, vs t.s, .row .str t.k, .row .tree t.v])]) mix hI hs ?_ ?_ ?_ ?_
    ·exact ⟨trivial, trivial⟩
    ·kernel_rfl
    ·exact tr_mk (⟨⟨(by rw [b1]; rfl), trivial⟩, ⟨⟨(by rw [b1]; rfl), trivial⟩, ⟨⟨(by rw [b1]; rfl), trivial⟩, ⟨⟨(by rw [b1]; rfl), trivial⟩, ⟨⟨(by rw [b1]; rfl), trivial⟩, ⟨(by rw [b1]; rfl), ⟨trivial, ⟨⟨b2, trivial⟩, ⟨⟨b2, trivial⟩, ⟨⟨b2, trivial⟩, ⟨⟨b2, trivial⟩, ⟨b2, tr_mk trivial 6⟩⟩⟩⟩⟩⟩⟩⟩⟩⟩⟩⟩) 8
    intro a w hs
    refine then_norm ⟨trivial, ?_⟩
    (have e0_ : (t.n.e == 0) = (ownN t.n) := (by first | rfl | (simp only [ownN, b1, b2]; rfl)); exact (SimL.cast hs (T' := [(1, .ptr 1000 0), (3, vb (!t.b)), (4, vb (ownN t.n)), (5, vb (t.s.toList == (ba []).toList))]) (B' := [(1000, .var [vi t.kind, vb t.b, vb t.n.neg, .row (.int .u32) t.n.m, vi t.n.e, vs t.s, .row .str t.k, .row .tree t.v])]) (by first | rfl | (rw [e0_]; done) | (simp only [e0_]; done) | (simp only [e0_]; rfl)) (by first | rfl | (rw [e0_]; done) | (simp only [e0_]; done) | (simp only [e0_]; rfl))).ren [(1000, 1000)] (by kernel_rfl) (by kernel_rfl) (by kernel_rfl))
   ·skip
    have n2 := beq_eq_false_iff_ne.1 b2
    refine way_L (tt := tt) (rs := [(1, ⟨[], [(8, true), (9, true), (10, true), (11, true), (12, true), (1013, true), (15, false), (16, false), (17, false), (18, false), (1019, false)], []⟩)]) (bs := []) (tk := [1, 3, 4, 5]) (bk := [1000]) (C := tr 8 ((((!t.n.neg) = true) ∧ True) ∧ (((!t.n.neg) = true) ∧ True) ∧ (((!t.n.neg) = true) ∧ True) ∧ (((!t.n.neg) = true) ∧ True) ∧ (((!t.n.neg) = true) ∧ True) ∧ ((!t.n.neg) = true) ∧ True ∧ (((t.n.m.length : Int) == 0) = false) ∧ (((t.n.m.length : Int) == 0) = false) ∧ (((t.n.m.length : Int) == 0) = false) ∧ (((t.n.m.length : Int) == 0) = false) ∧ (((t.n.m.length : Int) == 0) = false) ∧ (tr 6 True))) (lv := .norm) (T' := [(1, .ptr 1000 0), (3, vb (!t.b)), (4, vb false), (5, vb (t.s.toList == (ba []).toList))]) (B' := [(1000, .var [vi t.kind, vb t.b, vb t.n.neg, .row (.int .u32) t.n.m, vi t.n.e, vs t.s, .row .str t.k, .row .tree t.v])]) mix hI hs ?_ ?_ ?_ ?_
    ·exact ⟨trivial, trivial⟩
    ·kernel_rfl
    ·exact tr_mk (⟨⟨(by rw [b1]; rfl), trivial⟩, ⟨⟨(by rw [b1]; rfl), trivial⟩, ⟨⟨(by rw [b1]; rfl), trivial⟩, ⟨⟨(by rw [b1]; rfl), trivial⟩, ⟨⟨(by rw [b1]; rfl), trivial⟩, ⟨(by rw [b1]; rfl), ⟨trivial, ⟨b2, ⟨b2, ⟨b2, ⟨b2, ⟨b2, tr_mk trivial 6⟩⟩⟩⟩⟩⟩⟩⟩⟩⟩⟩⟩) 8
    intro a w hs
    refine then_norm ⟨trivial, ?_⟩
    (have e0_ : (false) = (ownN t.n) := (by first | rfl | (simp only [ownN, b1, b2]; rfl)); exact (SimL.cast hs (T' := [(1, .ptr 1000 0), (3, vb (!t.b)), (4, vb (ownN t.n)), (5, vb (t.s.toList == (ba []).toList))]) (B' := [(1000, .var [vi t.kind, vb t.b, vb t.n.neg, .row (.int .u32) t.n.m, vi t.n.e, vs t.s, .row .str t.k, .row .tree t.v])]) (by first | rfl | (rw [e0_]; done) | (simp only [e0_]; done) | (simp only [e0_]; rfl)) (by first | rfl | (rw [e0_]; done) | (simp only [e0_]; done) | (simp only [e0_]; rfl))).ren [(1000, 1000)] (by kernel_rfl) (by kernel_rfl) (by kernel_rfl))
 ·intro hF a w hs
  refine wp_seq ?_
  refine way_L (tt := tt) (rs := []) (bs := []) (tk := [1, 3, 4, 5, 6, 7]) (bk := [1000]) (C := tr 10 True) (lv := .norm) (T' := [(1, .ptr 1000 0), (3, vb (!t.b)), (4, vb (ownN t.n)), (5, vb (t.s.toList == (ba []).toList)), (6, vb ((t.k.length : Int) == 0)), (7, vb ((t.v.length : Int) == 0))]) (B' := [(1000, .var [vi t.kind, vb t.b, vb t.n.neg, .row (.int .u32) t.n.m, vi t.n.e, vs t.s, .row .str t.k, .row .tree t.v])]) mix hI hs ?_ ?_ ?_ ?_
  ·exact trivial
  ·kernel_rfl
  ·exact tr_mk trivial 10
  intro a w hs
  refine then_norm ?_
  refine wp_cut (N := Tryz.f170.ntmps) (w0 := w0) (ow := noO fz) (T := [(3, vb (truthO t)), (4, vb (numO t)), (5, vb (textO t)), (6, vb (keysO t)), (7, vb (itemsO t))]) (B := []) (1 ≤ t.kind ∧ t.kind ≤ 7) ?_ ?_
  ·skip
   rcases Bool.eq_false_or_eq_true (t.kind == 1) with b3 | b3
   ·skip
    have n3 := eq_of_beq b3
    refine way_L (tt := tt) (rs := []) (bs := [true]) (tk := [3, 4, 5, 6, 7]) (bk := []) (C := (True ∧ True ∧ True) ∧ ((True ∧ True ∧ True) ∧ ((t.kind == 1) = true) ∧ True) ∧ True) (lv := .norm) (T' := [(3, vb (!t.b)), (4, vb (ownN t.n)), (5, vb (t.s.toList == (ba []).toList)), (6, vb ((t.k.length : Int) == 0)), (7, vb ((t.v.length : Int) == 0))]) (B' := []) mix hI hs ?_ ?_ ?_ ?_
    ·exact trivial
    ·kernel_rfl
    ·exact ⟨⟨trivial, trivial, trivial⟩, ⟨⟨trivial, trivial, trivial⟩, b3, trivial⟩, trivial⟩
    intro a w hs
    refine then_norm ⟨(by omega), ?_⟩
    (have e0_ : (!t.b) = (truthO t) := (by first | rfl | (first | (rw [truthO]; simp only [true_and]; done) | (simp only [truthO, numO, textO, keysO, itemsO]; (repeat (first | rw [if_pos (by omega)] | rw [if_neg (by omega)])); first | rfl | (simp only [b3]; rfl) | skip))); have e1_ : (ownN t.n) = (numO t) := (by first | rfl | (first | (rw [truthO]; simp only [true_and]; done) | (simp only [truthO, numO, textO, keysO, itemsO]; (repeat (first | rw [if_pos (by omega)] | rw [if_neg (by omega)])); first | rfl | (simp only [b3]; rfl) | skip))); have e2_ : (t.s.toList == (ba []).toList) = (textO t) := (by first | rfl | (first | (rw [truthO]; simp only [true_and]; done) | (simp only [truthO, numO, textO, keysO, itemsO]; (repeat (first | rw [if_pos (by omega)] | rw [if_neg (by omega)])); first | rfl | (simp only [b3]; rfl) | skip))); have e3_ : ((t.k.length : Int) == 0) = (keysO t) := (by first | rfl | (first | (rw [truthO]; simp only [true_and]; done) | (simp only [truthO, numO, textO, keysO, itemsO]; (repeat (first | rw [if_pos (by omega)] | rw [if_neg (by omega)])); first | rfl | (simp only [b3]; rfl) | skip))); have e4_ : ((t.v.length : Int) == 0) = (itemsO t) := (by first | rfl | (first | (rw [truthO]; simp only [true_and]; done) | (simp only [truthO, numO, textO, keysO, itemsO]; (repeat (first | rw [if_pos (by omega)] | rw [if_neg (by omega)])); first | rfl | (simp only [b3]; rfl) | skip))); exact (SimL.cast hs (T' := [(3, vb (truthO t)), (4, vb (numO t)), (5, vb (textO t)), (6, vb (keysO t)), (7, vb (itemsO t))]) (B' := []) (by first | rfl | (rw [e0_, e1_, e2_, e3_, e4_]; done) | (simp only [e0_, e1_, e2_, e3_, e4_]; done) | (simp only [e0_, e1_, e2_, e3_, e4_]; rfl)) (by first | rfl | (rw [e0_, e1_, e2_, e3_, e4_]; done) | (simp only [e0_, e1_, e2_, e3_, e4_]; done) | (simp only [e0_, e1_, e2_, e3_, e4_]; rfl))).ren [] (by kernel_rfl) (by kernel_rfl) (by kernel_rfl))
   ·skip
    have n3 := beq_eq_false_iff_ne.1 b3
    rcases Bool.eq_false_or_eq_true (t.kind == 2) with b4 | b4
    ·skip
     have n4 := eq_of_beq b4
     refine way_L (tt := tt) (rs := []) (bs := [false, true]) (tk := [3, 4, 5, 6, 7]) (bk := []) (C := (True ∧ True ∧ True) ∧ (((True ∧ True ∧ True) ∧ ((t.kind == 1) = false) ∧ True) ∧ (True ∧ True ∧ True) ∧ ((t.kind == 2) = true) ∧ True) ∧ (True ∧ True) ∧ True) (lv := .norm) (T' := [(3, vb true), (4, vb (ownN t.n)), (5, vb (t.s.toList == (ba []).toList)), (6, vb ((t.k.length : Int) == 0)), (7, vb ((t.v.length : Int) == 0))]) (B' := []) mix hI hs ?_ ?_ ?_ ?_
     ·exact trivial
     ·kernel_rfl
     ·exact ⟨⟨trivial, trivial, trivial⟩, ⟨⟨⟨trivial, trivial, trivial⟩, b3, trivial⟩, ⟨trivial, trivial, trivial⟩, b4, trivial⟩, ⟨trivial, trivial⟩, trivial⟩
     intro a w hs
     refine then_norm ⟨(by omega), ?_⟩
     (have e0_ : (true) = (truthO t) := (by first | rfl | (first | (rw [truthO]; simp only [true_and]; done) | (simp only [truthO, numO, textO, keysO, itemsO]; (repeat (first | rw [if_pos (by omega)] | rw [if_neg (by omega)])); first | rfl | (simp only [b3, b4]; rfl) | skip))); have e1_ : (ownN t.n) = (numO t) := (by first | rfl | (first | (rw [truthO]; simp only [true_and]; done) | (simp only [truthO, numO, textO, keysO, itemsO]; (repeat (first | rw [if_pos (by omega)] | rw [if_neg (by omega)])); first | rfl | (simp only [b3, b4]; rfl) | skip))); have e2_ : (t.s.toList == (ba []).toList) = (textO t) := (by first | rfl | (first | (rw [truthO]; simp only [true_and]; done) | (simp only [truthO, numO, textO, keysO, itemsO]; (repeat (first | rw [if_pos (by omega)] | rw [if_neg (by omega)])); first | rfl | (simp only [b3, b4]; rfl) | skip))); have e3_ : ((t.k.length : Int) == 0) = (keysO t) := (by first | rfl | (first | (rw [truthO]; simp only [true_and]; done) | (simp only [truthO, numO, textO, keysO, itemsO]; (repeat (first | rw [if_pos (by omega)] | rw [if_neg (by omega)])); first | rfl | (simp only [b3, b4]; rfl) | skip))); have e4_ : ((t.v.length : Int) == 0) = (itemsO t) := (by first | rfl | (first | (rw [truthO]; simp only [true_and]; done) | (simp only [truthO, numO, textO, keysO, itemsO]; (repeat (first | rw [if_pos (by omega)] | rw [if_neg (by omega)])); first | rfl | (simp only [b3, b4]; rfl) | skip))); exact (SimL.cast hs (T' := [(3, vb (truthO t)), (4, vb (numO t)), (5, vb (textO t)), (6, vb (keysO t)), (7, vb (itemsO t))]) (B' := []) (by first | rfl | (rw [e0_, e1_, e2_, e3_, e4_]; done) | (simp only [e0_, e1_, e2_, e3_, e4_]; done) | (simp only [e0_, e1_, e2_, e3_, e4_]; rfl)) (by first | rfl | (rw [e0_, e1_, e2_, e3_, e4_]; done) | (simp only [e0_, e1_, e2_, e3_, e4_]; done) | (simp only [e0_, e1_, e2_, e3_, e4_]; rfl))).ren [] (by kernel_rfl) (by kernel_rfl) (by kernel_rfl))
    ·skip
     have n4 := beq_eq_false_iff_ne.1 b4
     rcases Bool.eq_false_or_eq_true (t.kind == 3) with b5 | b5
     ·skip
      have n5 := eq_of_beq b5
      refine way_L (tt := tt) (rs := [(12, ⟨[(2, ciA 214 [.agg [vb t.n.neg, .row (.int .u32) t.n.m, vi t.n.e]] [] [] (.val (vb (checkN t.n))))], [], []⟩)]) (bs := [false, false, true]) (tk := [3, 4, 5, 6, 7]) (bk := []) (C := (True ∧ True ∧ True) ∧ (((True ∧ True ∧ True) ∧ ((t.kind == 1) = false) ∧ True) ∧ ((True ∧ True ∧ True) ∧ ((t.kind == 2) = false) ∧ True) ∧ (True ∧ True ∧ True) ∧ ((t.kind == 3) = true) ∧ True) ∧ (True ∧ True ∧ (okArgs [.agg [vb t.n.neg, .row (.int .u32) t.n.m, vi t.n.e]]) ∧ True ∧ True) ∧ True) (lv := .norm) (T' := [(3, vb (!t.b)), (4, vb (checkN t.n)), (5, vb (t.s.toList == (ba []).toList)), (6, vb ((t.k.length : Int) == 0)), (7, vb ((t.v.length : Int) == 0))]) (B' := []) mix hI hs ?_ ?_ ?_ ?_
      ·exact ⟨⟨⟨ent214, con214 _ ha hl⟩, trivial⟩, trivial⟩
      ·kernel_rfl
      ·exact ⟨⟨trivial, trivial, trivial⟩, ⟨⟨⟨trivial, trivial, trivial⟩, b3, trivial⟩, ⟨⟨trivial, trivial, trivial⟩, b4, trivial⟩, ⟨trivial, trivial, trivial⟩, b5, trivial⟩, ⟨trivial, trivial, rfl, trivial, trivial⟩, trivial⟩
      intro a w hs
      refine then_norm ⟨(by omega), ?_⟩
      (have e0_ : (!t.b) = (truthO t) := (by first | rfl | (first | (rw [truthO]; simp only [true_and]; done) | (simp only [truthO, numO, textO, keysO, itemsO]; (repeat (first | rw [if_pos (by omega)] | rw [if_neg (by omega)])); first | rfl | (simp only [b3, b4, b5]; rfl) | skip))); have e1_ : (checkN t.n) = (numO t) := (by first | rfl | (first | (rw [truthO]; simp only [true_and]; done) | (simp only [truthO, numO, textO, keysO, itemsO]; (repeat (first | rw [if_pos (by omega)] | rw [if_neg (by omega)])); first | rfl | (simp only [b3, b4, b5]; rfl) | skip))); have e2_ : (t.s.toList == (ba []).toList) = (textO t) := (by first | rfl | (first | (rw [truthO]; simp only [true_and]; done) | (simp only [truthO, numO, textO, keysO, itemsO]; (repeat (first | rw [if_pos (by omega)] | rw [if_neg (by omega)])); first | rfl | (simp only [b3, b4, b5]; rfl) | skip))); have e3_ : ((t.k.length : Int) == 0) = (keysO t) := (by first | rfl | (first | (rw [truthO]; simp only [true_and]; done) | (simp only [truthO, numO, textO, keysO, itemsO]; (repeat (first | rw [if_pos (by omega)] | rw [if_neg (by omega)])); first | rfl | (simp only [b3, b4, b5]; rfl) | skip))); have e4_ : ((t.v.length : Int) == 0) = (itemsO t) := (by first | rfl | (first | (rw [truthO]; simp only [true_and]; done) | (simp only [truthO, numO, textO, keysO, itemsO]; (repeat (first | rw [if_pos (by omega)] | rw [if_neg (by omega)])); first | rfl | (simp only [b3, b4, b5]; rfl) | skip))); exact (SimL.cast hs (T' := [(3, vb (truthO t)), (4, vb (numO t)), (5, vb (textO t)), (6, vb (keysO t)), (7, vb (itemsO t))]) (B' := []) (by first | rfl | (rw [e0_, e1_, e2_, e3_, e4_]; done) | (simp only [e0_, e1_, e2_, e3_, e4_]; done) | (simp only [e0_, e1_, e2_, e3_, e4_]; rfl)) (by first | rfl | (rw [e0_, e1_, e2_, e3_, e4_]; done) | (simp only [e0_, e1_, e2_, e3_, e4_]; done) | (simp only [e0_, e1_, e2_, e3_, e4_]; rfl))).ren [] (by kernel_rfl) (by kernel_rfl) (by kernel_rfl))
     ·skip
      have n5 := beq_eq_false_iff_ne.1 b5
      rcases Bool.eq_false_or_eq_true (t.kind == 4) with b6 | b6
      ·skip
       have n6 := eq_of_beq b6
       refine way_L (tt := tt) (rs := [(13, ⟨[(2, ciA 215 [vs t.s] [] [] (.val (vb (textOk t.s))))], [], []⟩)]) (bs := [false, false, false, true]) (tk := [3, 4, 5, 6, 7]) (bk := []) (C := (True ∧ True ∧ True) ∧ (((True ∧ True ∧ True) ∧ ((t.kind == 1) = false) ∧ True) ∧ ((True ∧ True ∧ True) ∧ ((t.kind == 2) = false) ∧ True) ∧ ((True ∧ True ∧ True) ∧ ((t.kind == 3) = false) ∧ True) ∧ (True ∧ True ∧ True) ∧ ((t.kind == 4) = true) ∧ True) ∧ (True ∧ True ∧ (okArgs [vs t.s]) ∧ True ∧ True) ∧ True) (lv := .norm) (T' := [(3, vb (!t.b)), (4, vb (ownN t.n)), (5, vb (textOk t.s)), (6, vb ((t.k.length : Int) == 0)), (7, vb ((t.v.length : Int) == 0))]) (B' := []) mix hI hs ?_ ?_ ?_ ?_
       ·exact ⟨⟨⟨ent215, con215 _⟩, trivial⟩, trivial⟩
       ·kernel_rfl
       ·exact ⟨⟨trivial, trivial, trivial⟩, ⟨⟨⟨trivial, trivial, trivial⟩, b3, trivial⟩, ⟨⟨trivial, trivial, trivial⟩, b4, trivial⟩, ⟨⟨trivial, trivial, trivial⟩, b5, trivial⟩, ⟨trivial, trivial, trivial⟩, b6, trivial⟩, ⟨trivial, trivial, rfl, trivial, trivial⟩, trivial⟩
       intro a w hs
       refine then_norm ⟨(by omega), ?_⟩
       (have e0_ : (!t.b) = (truthO t) := (by first | rfl | (first | (rw [truthO]; simp only [true_and]; done) | (simp only [truthO, numO, textO, keysO, itemsO]; (repeat (first | rw [if_pos (by omega)] | rw [if_neg (by omega)])); first | rfl | (simp only [b3, b4, b5, b6]; rfl) | skip))); have e1_ : (ownN t.n) = (numO t) := (by first | rfl | (first | (rw [truthO]; simp only [true_and]; done) | (simp only [truthO, numO, textO, keysO, itemsO]; (repeat (first | rw [if_pos (by omega)] | rw [if_neg (by omega)])); first | rfl | (simp only [b3, b4, b5, b6]; rfl) | skip))); have e2_ : (textOk t.s) = (textO t) := (by first | rfl | (first | (rw [truthO]; simp only [true_and]; done) | (simp only [truthO, numO, textO, keysO, itemsO]; (repeat (first | rw [if_pos (by omega)] | rw [if_neg (by omega)])); first | rfl | (simp only [b3, b4, b5, b6]; rfl) | skip))); have e3_ : ((t.k.length : Int) == 0) = (keysO t) := (by first | rfl | (first | (rw [truthO]; simp only [true_and]; done) | (simp only [truthO, numO, textO, keysO, itemsO]; (repeat (first | rw [if_pos (by omega)] | rw [if_neg (by omega)])); first | rfl | (simp only [b3, b4, b5, b6]; rfl) | skip))); have e4_ : ((t.v.length : Int) == 0) = (itemsO t) := (by first | rfl | (first | (rw [truthO]; simp only [true_and]; done) | (simp only [truthO, numO, textO, keysO, itemsO]; (repeat (first | rw [if_pos (by omega)] | rw [if_neg (by omega)])); first | rfl | (simp only [b3, b4, b5, b6]; rfl) | skip))); exact (SimL.cast hs (T' := [(3, vb (truthO t)), (4, vb (numO t)), (5, vb (textO t)), (6, vb (keysO t)), (7, vb (itemsO t))]) (B' := []) (by first | rfl | (rw [e0_, e1_, e2_, e3_, e4_]; done) | (simp only [e0_, e1_, e2_, e3_, e4_]; done) | (simp only [e0_, e1_, e2_, e3_, e4_]; rfl)) (by first | rfl | (rw [e0_, e1_, e2_, e3_, e4_]; done) | (simp only [e0_, e1_, e2_, e3_, e4_]; done) | (simp only [e0_, e1_, e2_, e3_, e4_]; rfl))).ren [] (by kernel_rfl) (by kernel_rfl) (by kernel_rfl))
      ·skip
       have n6 := beq_eq_false_iff_ne.1 b6
       rcases Bool.eq_false_or_eq_true (t.kind == 5) with b7 | b7
       ·skip
        have n7 := eq_of_beq b7
        refine way_L (tt := tt) (rs := []) (bs := [false, false, false, false, true]) (tk := [3, 4, 5, 6, 7]) (bk := []) (C := (True ∧ True ∧ True) ∧ (((True ∧ True ∧ True) ∧ ((t.kind == 1) = false) ∧ True) ∧ ((True ∧ True ∧ True) ∧ ((t.kind == 2) = false) ∧ True) ∧ ((True ∧ True ∧ True) ∧ ((t.kind == 3) = false) ∧ True) ∧ ((True ∧ True ∧ True) ∧ ((t.kind == 4) = false) ∧ True) ∧ (True ∧ True ∧ True) ∧ ((t.kind == 5) = true) ∧ True) ∧ (tr 5 True) ∧ True) (lv := .norm) (T' := [(3, vb (!t.b)), (4, vb (ownN t.n)), (5, vb (decide ((t.s.size : Int) ≤ 2000))), (6, vb ((t.k.length : Int) == 0)), (7, vb ((t.v.length : Int) == 0))]) (B' := []) mix hI hs ?_ ?_ ?_ ?_
        ·exact trivial
        ·kernel_rfl
        ·exact ⟨⟨trivial, trivial, trivial⟩, ⟨⟨⟨trivial, trivial, trivial⟩, b3, trivial⟩, ⟨⟨trivial, trivial, trivial⟩, b4, trivial⟩, ⟨⟨trivial, trivial, trivial⟩, b5, trivial⟩, ⟨⟨trivial, trivial, trivial⟩, b6, trivial⟩, ⟨trivial, trivial, trivial⟩, b7, trivial⟩, tr_mk trivial 5, trivial⟩
        intro a w hs
        refine then_norm ⟨(by omega), ?_⟩
        (have e0_ : (!t.b) = (truthO t) := (by first | rfl | (first | (rw [truthO]; simp only [true_and]; done) | (simp only [truthO, numO, textO, keysO, itemsO]; (repeat (first | rw [if_pos (by omega)] | rw [if_neg (by omega)])); first | rfl | (simp only [b3, b4, b5, b6, b7]; rfl) | skip))); have e1_ : (ownN t.n) = (numO t) := (by first | rfl | (first | (rw [truthO]; simp only [true_and]; done) | (simp only [truthO, numO, textO, keysO, itemsO]; (repeat (first | rw [if_pos (by omega)] | rw [if_neg (by omega)])); first | rfl | (simp only [b3, b4, b5, b6, b7]; rfl) | skip))); have e2_ : (decide ((t.s.size : Int) ≤ 2000)) = (textO t) := (by first | rfl | (first | (rw [truthO]; simp only [true_and]; done) | (simp only [truthO, numO, textO, keysO, itemsO]; (repeat (first | rw [if_pos (by omega)] | rw [if_neg (by omega)])); first | rfl | (simp only [b3, b4, b5, b6, b7]; rfl) | skip))); have e3_ : ((t.k.length : Int) == 0) = (keysO t) := (by first | rfl | (first | (rw [truthO]; simp only [true_and]; done) | (simp only [truthO, numO, textO, keysO, itemsO]; (repeat (first | rw [if_pos (by omega)] | rw [if_neg (by omega)])); first | rfl | (simp only [b3, b4, b5, b6, b7]; rfl) | skip))); have e4_ : ((t.v.length : Int) == 0) = (itemsO t) := (by first | rfl | (first | (rw [truthO]; simp only [true_and]; done) | (simp only [truthO, numO, textO, keysO, itemsO]; (repeat (first | rw [if_pos (by omega)] | rw [if_neg (by omega)])); first | rfl | (simp only [b3, b4, b5, b6, b7]; rfl) | skip))); exact (SimL.cast hs (T' := [(3, vb (truthO t)), (4, vb (numO t)), (5, vb (textO t)), (6, vb (keysO t)), (7, vb (itemsO t))]) (B' := []) (by first | rfl | (rw [e0_, e1_, e2_, e3_, e4_]; done) | (simp only [e0_, e1_, e2_, e3_, e4_]; done) | (simp only [e0_, e1_, e2_, e3_, e4_]; rfl)) (by first | rfl | (rw [e0_, e1_, e2_, e3_, e4_]; done) | (simp only [e0_, e1_, e2_, e3_, e4_]; done) | (simp only [e0_, e1_, e2_, e3_, e4_]; rfl))).ren [] (by kernel_rfl) (by kernel_rfl) (by kernel_rfl))
       ·skip
        have n7 := beq_eq_false_iff_ne.1 b7
        rcases Bool.eq_false_or_eq_true (t.kind == 7) with b8 | b8
        ·skip
         have n8 := eq_of_beq b8
         rcases Bool.eq_false_or_eq_true (namesOk t.k) with b9 | b9
         ·skip
          refine way_L (tt := tt) (rs := [(15, ⟨[(2, ciA 216 [.row .str t.k] [] [] (.val (vb (namesOk t.k))))], [(4, true), (5, true), (6, true), (7, true), (8, true), (9, true), (10, true), (1011, true)], []⟩)]) (bs := [false, false, false, false, false, true]) (tk := [3, 4, 5, 6, 7]) (bk := []) (C := (True ∧ True ∧ True) ∧ ((((True ∧ True ∧ True) ∧ ((t.kind == 1) = false) ∧ True) ∧ ((True ∧ True ∧ True) ∧ ((t.kind == 2) = false) ∧ True) ∧ ((True ∧ True ∧ True) ∧ ((t.kind == 3) = false) ∧ True) ∧ ((True ∧ True ∧ True) ∧ ((t.kind == 4) = false) ∧ True) ∧ ((True ∧ True ∧ True) ∧ ((t.kind == 5) = false) ∧ True) ∧ (True ∧ True ∧ True) ∧ ((t.kind == 7) = true) ∧ True) ∧ True ∧ True ∧ (okArgs [.row .str t.k]) ∧ True ∧ ((namesOk t.k) = true) ∧ True ∧ ((namesOk t.k) = true) ∧ True ∧ ((namesOk t.k) = true) ∧ True ∧ ((namesOk t.k) = true) ∧ True ∧ ((namesOk t.k) = true) ∧ True ∧ ((namesOk t.k) = true) ∧ True ∧ ((namesOk t.k) = true) ∧ True ∧ ((namesOk t.k) = true) ∧ True ∧ True) ∧ (tr 5 True) ∧ True) (lv := .norm) (T' := [(3, vb (!t.b)), (4, vb (ownN t.n)), (5, vb (t.s.toList == (ba []).toList)), (6, vb ((t.k.length : Int) == (t.v.length : Int))), (7, vb (decide ((t.v.length : Int) ≤ 300)))]) (B' := []) mix hI hs ?_ ?_ ?_ ?_
          ·exact ⟨⟨⟨ent216, con216 _ (by omega)⟩, trivial⟩, trivial⟩
          ·kernel_rfl
          ·exact ⟨⟨trivial, trivial, trivial⟩, ⟨⟨⟨⟨trivial, trivial, trivial⟩, b3, trivial⟩, ⟨⟨trivial, trivial, trivial⟩, b4, trivial⟩, ⟨⟨trivial, trivial, trivial⟩, b5, trivial⟩, ⟨⟨trivial, trivial, trivial⟩, b6, trivial⟩, ⟨⟨trivial, trivial, trivial⟩, b7, trivial⟩, ⟨trivial, trivial, trivial⟩, b8, trivial⟩, trivial, trivial, rfl, trivial, b9, trivial, b9, trivial, b9, trivial, b9, trivial, b9, trivial, b9, trivial, b9, trivial, b9, trivial, trivial⟩, tr_mk trivial 5, trivial⟩
          intro a w hs
          refine then_norm ⟨(by omega), ?_⟩
          (have e0_ : (!t.b) = (truthO t) := (by first | rfl | (first | (rw [truthO]; simp only [true_and]; done) | (simp only [truthO, numO, textO, keysO, itemsO]; (repeat (first | rw [if_pos (by omega)] | rw [if_neg (by omega)])); first | rfl | (simp only [b3, b4, b5, b6, b7, b8, b9]; rfl) | skip))); have e1_ : (ownN t.n) = (numO t) := (by first | rfl | (first | (rw [truthO]; simp only [true_and]; done) | (simp only [truthO, numO, textO, keysO, itemsO]; (repeat (first | rw [if_pos (by omega)] | rw [if_neg (by omega)])); first | rfl | (simp only [b3, b4, b5, b6, b7, b8, b9]; rfl) | skip))); have e2_ : (t.s.toList == (ba []).toList) = (textO t) := (by first | rfl | (first | (rw [truthO]; simp only [true_and]; done) | (simp only [truthO, numO, textO, keysO, itemsO]; (repeat (first | rw [if_pos (by omega)] | rw [if_neg (by omega)])); first | rfl | (simp only [b3, b4, b5, b6, b7, b8, b9]; rfl) | skip))); have e3_ : ((t.k.length : Int) == (t.v.length : Int)) = (keysO t) := (by first | rfl | (first | (rw [truthO]; simp only [true_and]; done) | (simp only [truthO, numO, textO, keysO, itemsO]; (repeat (first | rw [if_pos (by omega)] | rw [if_neg (by omega)])); first | rfl | (simp only [b3, b4, b5, b6, b7, b8, b9]; rfl) | skip))); have e4_ : (decide ((t.v.length : Int) ≤ 300)) = (itemsO t) := (by first | rfl | (first | (rw [truthO]; simp only [true_and]; done) | (simp only [truthO, numO, textO, keysO, itemsO]; (repeat (first | rw [if_pos (by omega)] | rw [if_neg (by omega)])); first | rfl | (simp only [b3, b4, b5, b6, b7, b8, b9]; rfl) | skip))); exact (SimL.cast hs (T' := [(3, vb (truthO t)), (4, vb (numO t)), (5, vb (textO t)), (6, vb (keysO t)), (7, vb (itemsO t))]) (B' := []) (by first | rfl | (rw [e0_, e1_, e2_, e3_, e4_]; done) | (simp only [e0_, e1_, e2_, e3_, e4_]; done) | (simp only [e0_, e1_, e2_, e3_, e4_]; rfl)) (by first | rfl | (rw [e0_, e1_, e2_, e3_, e4_]; done) | (simp only [e0_, e1_, e2_, e3_, e4_]; done) | (simp only [e0_, e1_, e2_, e3_, e4_]; rfl))).ren [] (by kernel_rfl) (by kernel_rfl) (by kernel_rfl))
         ·skip
          refine way_L (tt := tt) (rs := [(15, ⟨[(2, ciA 216 [.row .str t.k] [] [] (.val (vb (namesOk t.k))))], [(4, false), (5, false), (6, false), (7, false), (8, false), (9, false), (10, false), (1011, false)], []⟩)]) (bs := [false, false, false, false, false, true]) (tk := [3, 4, 5, 6, 7]) (bk := []) (C := (True ∧ True ∧ True) ∧ ((((True ∧ True ∧ True) ∧ ((t.kind == 1) = false) ∧ True) ∧ ((True ∧ True ∧ True) ∧ ((t.kind == 2) = false) ∧ True) ∧ ((True ∧ True ∧ True) ∧ ((t.kind == 3) = false) ∧ True) ∧ ((True ∧ True ∧ True) ∧ ((t.kind == 4) = false) ∧ True) ∧ ((True ∧ True ∧ True) ∧ ((t.kind == 5) = false) ∧ True) ∧ (True ∧ True ∧ True) ∧ ((t.kind == 7) = true) ∧ True) ∧ True ∧ True ∧ (okArgs [.row .str t.k]) ∧ True ∧ ((namesOk t.k) = false) ∧ ((namesOk t.k) = false) ∧ ((namesOk t.k) = false) ∧ ((namesOk t.k) = false) ∧ ((namesOk t.k) = false) ∧ ((namesOk t.k) = false) ∧ ((namesOk t.k) = false) ∧ ((namesOk t.k) = false) ∧ True ∧ True) ∧ (tr 5 True) ∧ True) (lv := .norm) (T' := [(3, vb (!t.b)), (4, vb (ownN t.n)), (5, vb (t.s.toList == (ba []).toList)), (6, vb false), (7, vb (decide ((t.v.length : Int) ≤ 300)))]) (B' := []) mix hI hs ?_ ?_ ?_ ?_
          ·exact ⟨⟨⟨ent216, con216 _ (by omega)⟩, trivial⟩, trivial⟩
          ·kernel_rfl
          ·exact ⟨⟨trivial, trivial, trivial⟩, ⟨⟨⟨⟨trivial, trivial, trivial⟩, b3, trivial⟩, ⟨⟨trivial, trivial, trivial⟩, b4, trivial⟩, ⟨⟨trivial, trivial, trivial⟩, b5, trivial⟩, ⟨⟨trivial, trivial, trivial⟩, b6, trivial⟩, ⟨⟨trivial, trivial, trivial⟩, b7, trivial⟩, ⟨trivial, trivial, trivial⟩, b8, trivial⟩, trivial, trivial, rfl, trivial, b9, b9, b9, b9, b9, b9, b9, b9, trivial, trivial⟩, tr_mk trivial 5, trivial⟩
          intro a w hs
          refine then_norm ⟨(by omega), ?_⟩
          (have e0_ : (!t.b) = (truthO t) := (by first | rfl | (first | (rw [truthO]; simp only [true_and]; done) | (simp only [truthO, numO, textO, keysO, itemsO]; (repeat (first | rw [if_pos (by omega)] | rw [if_neg (by omega)])); first | rfl | (simp only [b3, b4, b5, b6, b7, b8, b9]; rfl) | skip))); have e1_ : (ownN t.n) = (numO t) := (by first | rfl | (first | (rw [truthO]; simp only [true_and]; done) | (simp only [truthO, numO, textO, keysO, itemsO]; (repeat (first | rw [if_pos (by omega)] | rw [if_neg (by omega)])); first | rfl | (simp only [b3, b4, b5, b6, b7, b8, b9]; rfl) | skip))); have e2_ : (t.s.toList == (ba []).toList) = (textO t) := (by first | rfl | (first | (rw [truthO]; simp only [true_and]; done) | (simp only [truthO, numO, textO, keysO, itemsO]; (repeat (first | rw [if_pos (by omega)] | rw [if_neg (by omega)])); first | rfl | (simp only [b3, b4, b5, b6, b7, b8, b9]; rfl) | skip))); have e3_ : (false) = (keysO t) := (by first | rfl | (first | (rw [truthO]; simp only [true_and]; done) | (simp only [truthO, numO, textO, keysO, itemsO]; (repeat (first | rw [if_pos (by omega)] | rw [if_neg (by omega)])); first | rfl | (simp only [b3, b4, b5, b6, b7, b8, b9]; rfl) | skip))); have e4_ : (decide ((t.v.length : Int) ≤ 300)) = (itemsO t) := (by first | rfl | (first | (rw [truthO]; simp only [true_and]; done) | (simp only [truthO, numO, textO, keysO, itemsO]; (repeat (first | rw [if_pos (by omega)] | rw [if_neg (by omega)])); first | rfl | (simp only [b3, b4, b5, b6, b7, b8, b9]; rfl) | skip))); exact (SimL.cast hs (T' := [(3, vb (truthO t)), (4, vb (numO t)), (5, vb (textO t)), (6, vb (keysO t)), (7, vb (itemsO t))]) (B' := []) (by first | rfl | (rw [e0_, e1_, e2_, e3_, e4_]; done) | (simp only [e0_, e1_, e2_, e3_, e4_]; done) | (simp only [e0_, e1_, e2_, e3_, e4_]; rfl)) (by first | rfl | (rw [e0_, e1_, e2_, e3_, e4_]; done) | (simp only [e0_, e1_, e2_, e3_, e4_]; done) | (simp only [e0_, e1_, e2_, e3_, e4_]; rfl))).ren [] (by kernel_rfl) (by kernel_rfl) (by kernel_rfl))
        ·skip
         have n8 := beq_eq_false_iff_ne.1 b8
         rcases Bool.eq_false_or_eq_true (t.kind == 6) with b10 | b10
         ·skip
          have n10 := eq_of_beq b10
          refine way_L (tt := tt) (rs := []) (bs := [false, false, false, false, false, false, true]) (tk := [3, 4, 5, 6, 7]) (bk := []) (C := (True ∧ True ∧ True) ∧ (((True ∧ True ∧ True) ∧ ((t.kind == 1) = false) ∧ True) ∧ ((True ∧ True ∧ True) ∧ ((t.kind == 2) = false) ∧ True) ∧ ((True ∧ True ∧ True) ∧ ((t.kind == 3) = false) ∧ True) ∧ ((True ∧ True ∧ True) ∧ ((t.kind == 4) = false) ∧ True) ∧ ((True ∧ True ∧ True) ∧ ((t.kind == 5) = false) ∧ True) ∧ ((True ∧ True ∧ True) ∧ ((t.kind == 7) = false) ∧ True) ∧ (True ∧ True ∧ True) ∧ ((t.kind == 6) = true) ∧ True) ∧ (tr 5 True) ∧ True) (lv := .norm) (T' := [(3, vb (!t.b)), (4, vb (ownN t.n)), (5, vb (t.s.toList == (ba []).toList)), (6, vb ((t.k.length : Int) == 0)), (7, vb (decide ((t.v.length : Int) ≤ 300)))]) (B' := []) mix hI hs ?_ ?_ ?_ ?_
          ·exact trivial
          ·kernel_rfl
          ·exact ⟨⟨trivial, trivial, trivial⟩, ⟨⟨⟨trivial, trivial, trivial⟩, b3, trivial⟩, ⟨⟨trivial, trivial, trivial⟩, b4, trivial⟩, ⟨⟨trivial, trivial, trivial⟩, b5, trivial⟩, ⟨⟨trivial, trivial, trivial⟩, b6, trivial⟩, ⟨⟨trivial, trivial, trivial⟩, b7, trivial⟩, ⟨⟨trivial, trivial, trivial⟩, b8, trivial⟩, ⟨trivial, trivial, trivial⟩, b10, trivial⟩, tr_mk trivial 5, trivial⟩
          intro a w hs
          refine then_norm ⟨(by omega), ?_⟩
          (have e0_ : (!t.b) = (truthO t) := (by first | rfl | (first | (rw [truthO]; simp only [true_and]; done) | (simp only [truthO, numO, textO, keysO, itemsO]; (repeat (first | rw [if_pos (by omega)] | rw [if_neg (by omega)])); first | rfl | (simp only [b3, b4, b5, b6, b7, b8, b10]; rfl) | skip))); have e1_ : (ownN t.n) = (numO t) := (by first | rfl | (first | (rw [truthO]; simp only [true_and]; done) | (simp only [truthO, numO, textO, keysO, itemsO]; (repeat (first | rw [if_pos (by omega)] | rw [if_neg (by omega)])); first | rfl | (simp only [b3, b4, b5, b6, b7, b8, b10]; rfl) | skip))); have e2_ : (t.s.toList == (ba []).toList) = (textO t) := (by first | rfl | (first | (rw [truthO]; simp only [true_and]; done) | (simp only [truthO, numO, textO, keysO, itemsO]; (repeat (first | rw [if_pos (by omega)] | rw [if_neg (by omega)])); first | rfl | (simp only [b3, b4, b5, b6, b7, b8, b10]; rfl) | skip))); have e3_ : ((t.k.length : Int) == 0) = (keysO t) := (by first | rfl | (first | (rw [truthO]; simp only [true_and]; done) | (simp only [truthO, numO, textO, keysO, itemsO]; (repeat (first | rw [if_pos (by omega)] | rw [if_neg (by omega)])); first | rfl | (simp only [b3, b4, b5, b6, b7, b8, b10]; rfl) | skip))); have e4_ : (decide ((t.v.length : Int) ≤ 300)) = (itemsO t) := (by first | rfl | (first | (rw [truthO]; simp only [true_and]; done) | (simp only [truthO, numO, textO, keysO, itemsO]; (repeat (first | rw [if_pos (by omega)] | rw [if_neg (by omega)])); first | rfl | (simp only [b3, b4, b5, b6, b7, b8, b10]; rfl) | skip))); exact (SimL.cast hs (T' := [(3, vb (truthO t)), (4, vb (numO t)), (5, vb (textO t)), (6, vb (keysO t)), (7, vb (itemsO t))]) (B' := []) (by first | rfl | (rw [e0_, e1_, e2_, e3_, e4_]; done) | (simp only [e0_, e1_, e2_, e3_, e4_]; done) | (simp only [e0_, e1_, e2_, e3_, e4_]; rfl)) (by first | rfl | (rw [e0_, e1_, e2_, e3_, e4_]; done) | (simp only [e0_, e1_, e2_, e3_, e4_]; done) | (simp only [e0_, e1_, e2_, e3_, e4_]; rfl))).ren [] (by kernel_rfl) (by kernel_rfl) (by kernel_rfl))
         ·skip
          have n10 := beq_eq_false_iff_ne.1 b10
          refine way_L (tt := tt) (rs := []) (bs := [false, false, false, false, false, false, false]) (tk := [2]) (bk := []) (C := (True ∧ True ∧ True) ∧ ((((True ∧ True ∧ True) ∧ ((t.kind == 1) = false) ∧ True) ∧ ((True ∧ True ∧ True) ∧ ((t.kind == 2) = false) ∧ True) ∧ ((True ∧ True ∧ True) ∧ ((t.kind == 3) = false) ∧ True) ∧ ((True ∧ True ∧ True) ∧ ((t.kind == 4) = false) ∧ True) ∧ ((True ∧ True ∧ True) ∧ ((t.kind == 5) = false) ∧ True) ∧ ((True ∧ True ∧ True) ∧ ((t.kind == 7) = false) ∧ True) ∧ (True ∧ True ∧ True) ∧ ((t.kind == 6) = false) ∧ True) ∧ True) ∧ (True ∧ True) ∧ True) (lv := .ret) (T' := [(2, vb false)]) (B' := []) mix hI hs ?_ ?_ ?_ ?_
          ·exact trivial
          ·kernel_rfl
          ·exact ⟨⟨trivial, trivial, trivial⟩, ⟨⟨⟨⟨trivial, trivial, trivial⟩, b3, trivial⟩, ⟨⟨trivial, trivial, trivial⟩, b4, trivial⟩, ⟨⟨trivial, trivial, trivial⟩, b5, trivial⟩, ⟨⟨trivial, trivial, trivial⟩, b6, trivial⟩, ⟨⟨trivial, trivial, trivial⟩, b7, trivial⟩, ⟨⟨trivial, trivial, trivial⟩, b8, trivial⟩, ⟨trivial, trivial, trivial⟩, b10, trivial⟩, trivial⟩, ⟨trivial, trivial⟩, trivial⟩
          intro a w hs
          refine then_ret ?_
          exact FnQ_cast (out := .val (vb false)) (by simp only [ownO]; rw [decide_eq_false (by omega)]; rfl) (ret_ok [] hs ⟨by kernel_rfl, rfl⟩)
  ·intro hF a w hs
   rcases Bool.eq_false_or_eq_true (truthO t) with b11 | b11
   ·skip
    rcases Bool.eq_false_or_eq_true (numO t) with b12 | b12
    ·skip
     rcases Bool.eq_false_or_eq_true (textO t) with b13 | b13
     ·skip
      rcases Bool.eq_false_or_eq_true (keysO t) with b14 | b14
      ·skip
       refine way_L (tt := tt) (rs := [(18, ⟨[], [(2, true), (1003, true), (5, true), (1006, true), (8, true), (1009, true), (11, true), (1012, true)], []⟩)]) (bs := []) (tk := [2]) (bk := []) (C := (True ∧ True ∧ ((truthO t) = true) ∧ True ∧ ((truthO t) = true) ∧ True ∧ ((numO t) = true) ∧ True ∧ ((numO t) = true) ∧ True ∧ ((textO t) = true) ∧ True ∧ ((textO t) = true) ∧ True ∧ ((keysO t) = true) ∧ True ∧ ((keysO t) = true) ∧ True ∧ True) ∧ True) (lv := .ret) (T' := [(2, vb (itemsO t))]) (B' := []) mix hI hs ?_ ?_ ?_ ?_
       ·exact ⟨trivial, trivial⟩
       ·kernel_rfl
       ·exact ⟨⟨trivial, trivial, b11, trivial, b11, trivial, b12, trivial, b12, trivial, b13, trivial, b13, trivial, b14, trivial, b14, trivial, trivial⟩, trivial⟩
       intro a w hs
       exact FnQ_cast (out := .val (vb (itemsO t))) (by simp only [ownO]; rw [decide_eq_true hF]; simp only [b11, b12, b13, b14]; rfl) (ret_ok [] hs ⟨by kernel_rfl, rfl⟩)
      ·skip
       refine way_L (tt := tt) (rs := [(18, ⟨[], [(2, true), (1003, true), (5, true), (1006, true), (8, true), (1009, true), (11, false), (1012, false)], []⟩)]) (bs := []) (tk := [2]) (bk := []) (C := (True ∧ True ∧ ((truthO t) = true) ∧ True ∧ ((truthO t) = true) ∧ True ∧ ((numO t) = true) ∧ True ∧ ((numO t) = true) ∧ True ∧ ((textO t) = true) ∧ True ∧ ((textO t) = true) ∧ True ∧ ((keysO t) = false) ∧ ((keysO t) = false) ∧ True ∧ True) ∧ True) (lv := .ret) (T' := [(2, vb false)]) (B' := []) mix hI hs ?_ ?_ ?_ ?_
       ·exact ⟨trivial, trivial⟩
       ·kernel_rfl
       ·exact ⟨⟨trivial, trivial, b11, trivial, b11, trivial, b12, trivial, b12, trivial, b13, trivial, b13, trivial, b14, b14, trivial, trivial⟩, trivial⟩
       intro a w hs
       exact FnQ_cast (out := .val (vb false)) (by simp only [ownO]; rw [decide_eq_true hF]; simp only [b11, b12, b13, b14]; rfl) (ret_ok [] hs ⟨by kernel_rfl, rfl⟩)
     ·skip
      refine way_L (tt := tt) (rs := [(18, ⟨[], [(2, true), (1003, true), (5, true), (1006, true), (8, false), (1009, false), (11, false), (1012, false)], []⟩)]) (bs := []) (tk := [2]) (bk := []) (C := (True ∧ True ∧ ((truthO t) = true) ∧ True ∧ ((truthO t) = true) ∧ True ∧ ((numO t) = true) ∧ True ∧ ((numO t) = true) ∧ True ∧ ((textO t) = false) ∧ ((textO t) = false) ∧ True ∧ (false = false) ∧ (false = false) ∧ True ∧ True) ∧ True) (lv := .ret) (T' := [(2, vb false)]) (B' := []) mix hI hs ?_ ?_ ?_ ?_
      ·exact ⟨trivial, trivial⟩
      ·kernel_rfl
      ·exact ⟨⟨trivial, trivial, b11, trivial, b11, trivial, b12, trivial, b12, trivial, b13, b13, trivial, rfl, rfl, trivial, trivial⟩, trivial⟩
      intro a w hs
      exact FnQ_cast (out := .val (vb false)) (by simp only [ownO]; rw [decide_eq_true hF]; simp only [b11, b12, b13]; rfl) (ret_ok [] hs ⟨by kernel_rfl, rfl⟩)
    ·skip
     refine way_L (tt := tt) (rs := [(18, ⟨[], [(2, true), (1003, true), (5, false), (1006, false), (8, false), (1009, false), (11, false), (1012, false)], []⟩)]) (bs := []) (tk := [2]) (bk := []) (C := (True ∧ True ∧ ((truthO t) = true) ∧ True ∧ ((truthO t) = true) ∧ True ∧ ((numO t) = false) ∧ ((numO t) = false) ∧ True ∧ (false = false) ∧ (false = false) ∧ True ∧ (false = false) ∧ (false = false) ∧ True ∧ True) ∧ True) (lv := .ret) (T' := [(2, vb false)]) (B' := []) mix hI hs ?_ ?_ ?_ ?_
     ·exact ⟨trivial, trivial⟩
     ·kernel_rfl
     ·exact ⟨⟨trivial, trivial, b11, trivial, b11, trivial, b12, b12, trivial, rfl, rfl, trivial, rfl, rfl, trivial, trivial⟩, trivial⟩
     intro a w hs
     exact FnQ_cast (out := .val (vb false)) (by simp only [ownO]; rw [decide_eq_true hF]; simp only [b11, b12]; rfl) (ret_ok [] hs ⟨by kernel_rfl, rfl⟩)
   ·skip
    refine way_L (tt := tt) (rs := [(18, ⟨[], [(2, false), (1003, false), (5, false), (1006, false), (8, false), (1009, false), (11, false), (1012, false)], []⟩)]) (bs := []) (tk := [2]) (bk := []) (C := (True ∧ True ∧ ((truthO t) = false) ∧ ((truthO t) = false) ∧ True ∧ (false = false) ∧ (false = false) ∧ True ∧ (false = false) ∧ (false = false) ∧ True ∧ (false = false) ∧ (false = false) ∧ True ∧ True) ∧ True) (lv := .ret) (T' := [(2, vb false)]) (B' := []) mix hI hs ?_ ?_ ?_ ?_
    ·exact ⟨trivial, trivial⟩
    ·kernel_rfl
    ·exact ⟨⟨trivial, trivial, b11, b11, trivial, rfl, rfl, trivial, rfl, rfl, trivial, rfl, rfl, trivial, trivial⟩, trivial⟩
    intro a w hs
    exact FnQ_cast (out := .val (vb false)) (by simp only [ownO]; rw [decide_eq_true hF]; simp only [b11]; rfl) (ret_ok [] hs ⟨by kernel_rfl, rfl⟩)
mutual
def fineT : Tree → Prop
  | .mk _ _ n s k v => (Ok n.m ∧ n.m.length < 1000000000 ∧ k.length < 1000000000 ∧ v.length < 1000000000) ∧ fineL v
def fineL : List Tree → Prop
  | [] => True
  | t :: l => fineT t ∧ fineL l
end
theorem fine_eq (t : Tree) : fineT t ↔ (Ok t.n.m ∧ t.n.m.length < 1000000000 ∧ t.k.length < 1000000000 ∧ t.v.length < 1000000000) ∧ fineL t.v := by cases t; exact Iff.rfl
theorem fine_mem : ∀ {l : List Tree} {x : Tree}, fineL l → x ∈ l → fineT x
  | [], _, _, h => by simp at h
  | t :: l, x, hl, h => by
    rcases List.mem_cons.1 h with rfl | h
    · exact hl.1
    · exact fine_mem hl.2 h
theorem fine_at {t : Tree} (h : fineT t) {i : Nat} (hi : i < t.v.length) (d : Tree) : fineT (t.v.getD i d) := fine_mem ((fine_eq t).1 h).2 (getD_mem hi d)
mutual
def chk : Tree → Int → Int → Bool × Int
  | .mk k b n s ks v, deep, left => if left - 1 < 0 ∨ deep > 64 ∨ ownO (.mk k b n s ks v) = false then (false, left - 1) else chkL v (deep + 1) (left - 1)
def chkL : List Tree → Int → Int → Bool × Int
  | [], _, left => (true, left)
  | x :: l, deep, left => if (chk x deep left).1 = true then chkL l deep (chk x deep left).2 else (false, (chk x deep left).2)
end
theorem chk_eq (t : Tree) (deep left : Int) : chk t deep left = if left - 1 < 0 ∨ deep > 64 ∨ ownO t = false then (false, left - 1) else chkL t.v (deep + 1) (left - 1) := by cases t; rfl
mutual
theorem chk_le : ∀ (t : Tree) (d l : Int), 0 ≤ l → (chk t d l).2 ≤ l ∧ ((chk t d l).1 = true → 0 ≤ (chk t d l).2)
  | .mk k b n s ks v, d, l, h => by
    rw [chk_eq]
    split
    · exact ⟨by simp; omega, fun h => by simp at h⟩
    · rename_i hc
      have := chkL_le v (d + 1) (l - 1) (by omega)
      exact ⟨by show (chkL v _ _).2 ≤ l; omega, this.2⟩
theorem chkL_le : ∀ (v : List Tree) (d l : Int), 0 ≤ l → (chkL v d l).2 ≤ l ∧ ((chkL v d l).1 = true → 0 ≤ (chkL v d l).2)
  | [], d, l, h => ⟨Int.le_refl _, fun _ => h⟩
  | x :: v, d, l, h => by
    simp only [chkL]
    have h1 := chk_le x d l h
    split
    · rename_i hc
      have := chkL_le v d (chk x d l).2 (h1.2 hc)
      exact ⟨by omega, this.2⟩
    · exact ⟨h1.1, fun h => by simp at h⟩
end
theorem chkL_yes {v : List Tree} {i : Nat} {d l : Int} (hi : i < v.length) (h : (chk (v.getD i (dflt .tree)) d l).1 = true) : chkL (v.drop i) d l = chkL (v.drop (i + 1)) d (chk (v.getD i (dflt .tree)) d l).2 := by
  rw [List.drop_eq_getElem_cons hi, chkL]
  have e : v.getD i (dflt .tree) = v[i] := by rw [List.getD_eq_getElem?_getD, List.getElem?_eq_getElem hi]; rfl
  rw [e] at h ⊢
  rw [if_pos h]
theorem chkL_no {v : List Tree} {i : Nat} {d l : Int} (hi : i < v.length) (h : (chk (v.getD i (dflt .tree)) d l).1 = false) : chkL (v.drop i) d l = (false, (chk (v.getD i (dflt .tree)) d l).2) := by
  rw [List.drop_eq_getElem_cons hi, chkL]
  have e : v.getD i (dflt .tree) = v[i] := by rw [List.getD_eq_getElem?_getD, List.getElem?_eq_getElem hi]; rfl
  rw [e] at h ⊢
  rw [if_neg (by rw [h]; decide)]
set_option maxRecDepth 100000 in
theorem con117_ : ∀ (n : Nat) (t : Tree) (deep left : Int), nodes t < n → fineT t → 0 ≤ left → left ≤ 4000 → 0 ≤ deep → deep ≤ 65 → ConB Tryz.prog I0 117 [.agg (encTree t), vi deep, .ptr 0 0] [(0, .var [vi left])] (.val (vb ((chk t deep left).1))) [(0, .var [vi ((chk t deep left).2)])] := by
 intro n
 induction n
 case zero => intro t deep left hn; omega
 rename_i n ih
 intro t deep left hn hft h0 h1 h2 h3
 obtain ⟨⟨hf1, hf2, hf3, hf4⟩, hf5⟩ := (fine_eq t).1 hft
 refine con_ofB Tryz.func117 rfl (Nat.le_of_ble_eq_true rfl) (by kernel_rfl) (fun w0 fz η a hI hs => ?_)
 refine wp_seq ?_
 refine way_L (tt := tt) (rs := []) (bs := []) (tk := [1, 2, 3]) (bk := [0, 1000]) (C := True ∧ True ∧ True) (lv := .norm) (T' := [(1, vi deep), (2, .ptr 0 0), (3, .ptr 1000 0)]) (B' := [(0, .var [vi left]), (1000, .var [vi t.kind, vb t.b, vb t.n.neg, .row (.int .u32) t.n.m, vi t.n.e, vs t.s, .row .str t.k, .row .tree t.v])]) mix hI hs ?_ ?_ ?_ ?_
 ·exact trivial
 ·kernel_rfl
 ·exact ⟨trivial, trivial, trivial⟩
 intro a w hs
 refine then_norm ?_
 refine wp_seq ?_
 refine way_L (tt := tt) (rs := []) (bs := []) (tk := [1, 2, 3]) (bk := [0, 1000]) (C := tr 3 ((InR .i64 (left - 1)) ∧ True ∧ True ∧ True)) (lv := .norm) (T' := [(1, vi deep), (2, .ptr 0 0), (3, .ptr 1000 0)]) (B' := [(0, .var [vi (left - 1)]), (1000, .var [vi t.kind, vb t.b, vb t.n.neg, .row (.int .u32) t.n.m, vi t.n.e, vs t.s, .row .str t.k, .row .tree t.v])]) mix hI hs ?_ ?_ ?_ ?_
 ·exact trivial
 ·kernel_rfl
 ·exact tr_mk (⟨(inR64 (by omega) (by omega)), ⟨trivial, ⟨trivial, trivial⟩⟩⟩) 3
 intro a w hs
 refine then_norm ?_
 refine wp_seq ?_
 rcases Bool.eq_false_or_eq_true (decide ((left - 1) < 0)) with b1 | b1
 ·skip
  have n1 := of_decide_eq_true b1
  refine way_L (tt := tt) (rs := [(2, ⟨[], [(5, false), (6, false), (1007, true), (9, false), (10, false), (11, false), (1012, true)], []⟩)]) (bs := [true]) (tk := [6]) (bk := [0]) (C := (tr 5 (((decide ((left - 1) < 0)) = true) ∧ ((decide ((left - 1) < 0)) = true) ∧ ((decide ((left - 1) < 0)) = true) ∧ True ∧ (true = true) ∧ (true = true) ∧ (true = true) ∧ (true = true) ∧ True)) ∧ (true = true) ∧ (True ∧ True) ∧ True) (lv := .ret) (T' := [(6, vb false)]) (B' := [(0, .var [vi (left - 1)])]) mix hI hs ?_ ?_ ?_ ?_
  ·exact ⟨trivial, trivial⟩
  ·kernel_rfl
  ·exact ⟨tr_mk (⟨b1, b1, b1, trivial, rfl, rfl, rfl, rfl, trivial⟩) 5, rfl, ⟨trivial, trivial⟩, trivial⟩
  intro a w hs
  refine then_ret ?_
  exact FnQB_cast (out := .val (vb false)) (bo := [(0, .var [vi (left - 1)])]) (by rw [chk_eq t, if_pos (by first | omega | exact .inr (.inr rfl))]) (by rw [chk_eq t, if_pos (by first | omega | exact .inr (.inr rfl))]) (ret_okB _ hs (by kernel_rfl) (by kernel_rfl))
 ·skip
  have n1 := of_decide_eq_false b1
  rcases Bool.eq_false_or_eq_true (decide (deep > 64)) with b2 | b2
  ·skip
   have n2 := of_decide_eq_true b2
   refine way_L (tt := tt) (rs := [(2, ⟨[], [(5, true), (6, true), (1007, false), (9, false), (10, false), (11, false), (1012, true)], []⟩)]) (bs := [true]) (tk := [6]) (bk := [0]) (C := (tr 5 (((decide ((left - 1) < 0)) = false) ∧ True ∧ ((decide ((left - 1) < 0)) = false) ∧ True ∧ ((decide ((left - 1) < 0)) = false) ∧ True ∧ ((decide (deep > 64)) = true) ∧ ((decide (deep > 64)) = true) ∧ ((decide (deep > 64)) = true) ∧ ((decide (deep > 64)) = true) ∧ True)) ∧ (true = true) ∧ (True ∧ True) ∧ True) (lv := .ret) (T' := [(6, vb false)]) (B' := [(0, .var [vi (left - 1)])]) mix hI hs ?_ ?_ ?_ ?_
   ·exact ⟨trivial, trivial⟩
   ·kernel_rfl
   ·exact ⟨tr_mk (⟨b1, trivial, b1, trivial, b1, trivial, b2, b2, b2, b2, trivial⟩) 5, rfl, ⟨trivial, trivial⟩, trivial⟩
   intro a w hs
   refine then_ret ?_
   exact FnQB_cast (out := .val (vb false)) (bo := [(0, .var [vi (left - 1)])]) (by rw [chk_eq t, if_pos (by first | omega | exact .inr (.inr rfl))]) (by rw [chk_eq t, if_pos (by first | omega | exact .inr (.inr rfl))]) (ret_okB _ hs (by kernel_rfl) (by kernel_rfl))
  ·skip
   have n2 := of_decide_eq_false b2
   rcases Bool.eq_false_or_eq_true (ownO t) with b3 | b3
   ·skip
    refine way_L (tt := tt) (rs := [(2, ⟨[(10, ciA 170 [.agg (encTree t)] [] [] (.val (vb (ownO t))))], [(5, true), (6, true), (1007, false), (9, true), (10, true), (11, true), (1012, false)], []⟩)]) (bs := [false]) (tk := [1, 2, 3]) (bk := [0, 1000]) (C := (tr 5 (((decide ((left - 1) < 0)) = false) ∧ True ∧ ((decide ((left - 1) < 0)) = false) ∧ True ∧ ((decide ((left - 1) < 0)) = false) ∧ True ∧ ((decide (deep > 64)) = false) ∧ True ∧ ((decide (deep > 64)) = false) ∧ (okArgs [.agg (encTree t)]) ∧ ((decide (deep > 64)) = false) ∧ True ∧ ((decide (deep > 64)) = false) ∧ True)) ∧ ((!(ownO t)) = false) ∧ True) (lv := .norm) (T' := [(1, vi deep), (2, .ptr 0 0), (3, .ptr 1000 0)]) (B' := [(0, .var [vi (left - 1)]), (1000, .var [vi t.kind, vb t.b, vb t.n.neg, .row (.int .u32) t.n.m, vi t.n.e, vs t.s, .row .str t.k, .row .tree t.v])]) mix hI hs ?_ ?_ ?_ ?_
    ·exact ⟨⟨⟨ent170, con170 _ hf1 hf2 hf3⟩, trivial⟩, trivial⟩
    ·kernel_rfl
    ·exact ⟨tr_mk (⟨b1, trivial, b1, trivial, b1, trivial, b2, trivial, b2, rfl, b2, trivial, b2, trivial⟩) 5, (by rw [b3]; rfl), trivial⟩
    intro a w hs
    refine then_norm ?_
    refine wp_seq ?_
    refine wp_seq ?_
    refine way_L (tt := tt) (rs := []) (bs := []) (tk := [1, 2, 28, 29, 30]) (bk := [0]) (C := tr 4 True) (lv := .norm) (T' := [(1, vi deep), (2, .ptr 0 0), (28, .row .tree t.v), (29, vi (t.v.length : Int)), (30, vi 0)]) (B' := [(0, .var [vi (left - 1)])]) mix hI hs ?_ ?_ ?_ ?_
    ·exact trivial
    ·kernel_rfl
    ·exact tr_mk trivial 4
    intro a w hs
    refine then_norm ?_
    refine wp_block ?_
    refine loop_L (N := Tryz.f117.ntmps) (w0 := w0) (ow := ownB fz η) (α := Nat × Int) (fun p => [(1, vi deep), (2, .ptr 0 0), (28, .row .tree t.v), (29, vi (t.v.length : Int)), (30, vi ((p.1 : Nat) : Int))]) (fun p => [(0, .var [vi p.2])]) (fun p => p.1 ≤ t.v.length ∧ chkL (t.v.drop p.1) (deep + 1) p.2 = chkL t.v (deep + 1) (left - 1) ∧ 0 ≤ p.2 ∧ p.2 ≤ 4000) (fun p => t.v.length - p.1) (0, left - 1) ?_ ?_ ?_
    ·exact ⟨Nat.zero_le _, rfl, by omega, by omega⟩
    ·exact (SimL.cast hs (T' := [(1, vi deep), (2, .ptr 0 0), (28, .row .tree t.v), (29, vi (t.v.length : Int)), (30, vi ((0 : Nat) : Int))]) (B' := [(0, .var [vi (left - 1)])]) (by rfl) rfl).ren [(0, 0)] (by kernel_rfl) (by kernel_rfl) (by kernel_rfl)
    rintro ⟨i, l⟩ hJ a w hs
    try dsimp only at hJ
    obtain ⟨hi, hd, hl0, hl1⟩ := hJ
    have hle := chk_le (t.v.getD i (dflt .tree)) (deep + 1) l hl0
    rcases Bool.eq_false_or_eq_true (decide (((i : Nat) : Int) < (t.v.length : Int))) with b4 | b4
    ·skip
     have n4 := of_decide_eq_true b4
     rcases Bool.eq_false_or_eq_true ((chk (t.v.getD i (dflt .tree)) (deep + 1) l).1) with b5 | b5
     ·skip
      refine way_L (tt := tt) (rs := [(7, ⟨[(4, ciB 117 [.agg (encTree (t.v.getD i (dflt .tree))), vi (deep + 1), .ptr 0 0] [] (.val (vb ((chk (t.v.getD i (dflt .tree)) (deep + 1) l).1))) [(0, .var [vi l])] [(0, .var [vi ((chk (t.v.getD i (dflt .tree)) (deep + 1) l).2)])] [(0, 0)])], [], []⟩)]) (bs := [true, false]) (tk := [1, 2, 28, 29, 30]) (bk := [0]) (C := (True ∧ True) ∧ (((decide (((i : Nat) : Int) < (t.v.length : Int))) = true) ∧ True) ∧ (((0 ≤ ((i : Nat) : Int) ∧ ((i : Nat) : Int) < t.v.length) ∧ (tr 3 True)) ∧ (True ∧ True ∧ (InR .i64 (deep + 1)) ∧ True ∧ (okArgs [.agg (encTree (t.v.getD i (dflt .tree))), vi (deep + 1), .ptr 0 0] ∧ okBxs [some (.var [vi l])]) ∧ True ∧ True) ∧ ((!((chk (t.v.getD i (dflt .tree)) (deep + 1) l).1)) = false) ∧ True) ∧ (InR .i64 (((i : Nat) : Int) + 1)) ∧ True ∧ True) (lv := .norm) (T' := [(1, vi deep), (2, .ptr 0 0), (28, .row .tree t.v), (29, vi (t.v.length : Int)), (30, vi (((i : Nat) : Int) + 1))]) (B' := [(0, .var [vi ((chk (t.v.getD i (dflt .tree)) (deep + 1) l).2)])]) mix hI hs ?_ ?_ ?_ ?_
      ·exact ⟨⟨⟨ent117, ih _ _ _ (by have h1 := nodes_eq t; have h2 := nodes_at (l := t.v) (i := i) (by omega); omega) (fine_at hft (by omega) _) hl0 hl1 (by omega) (by omega)⟩, trivial⟩, trivial⟩
      ·kernel_rfl
      ·exact ⟨⟨trivial, trivial⟩, ⟨b4, trivial⟩, ⟨⟨⟨by omega, by omega⟩, tr_mk trivial 3⟩, ⟨trivial, trivial, (inR64 (by omega) (by omega)), trivial, ⟨rfl, rfl⟩, trivial, trivial⟩, (by rw [b5]; rfl), trivial⟩, (inR64 (by omega) (by omega)), trivial, trivial⟩
      intro a w hs
      refine then_norm ⟨(i + 1, (chk (t.v.getD i (dflt .tree)) (deep + 1) l).2), ⟨by omega, by rw [← chkL_yes (by omega) b5]; exact hd, hle.2 b5, by omega⟩, by omega, ?_⟩
      (have e0_ : (((i : Nat) : Int) + 1) = ((((i + 1) : Nat) : Int)) := (by first | rfl | (omega)); have e1_ : ((chk (t.v.getD i (dflt .tree)) (deep + 1) l).2) = (((chk (t.v.getD i (dflt .tree)) (deep + 1) l).2)) := (by first | rfl | (omega)); exact (SimL.cast hs (T' := [(1, vi deep), (2, .ptr 0 0), (28, .row .tree t.v), (29, vi (t.v.length : Int)), (30, vi (((i + 1) : Nat) : Int))]) (B' := [(0, .var [vi ((chk (t.v.getD i (dflt .tree)) (deep + 1) l).2)])]) (by first | rfl | (rw [e0_, e1_]; done) | (simp only [e0_, e1_]; done) | (simp only [e0_, e1_]; rfl)) (by first | rfl | (rw [e0_, e1_]; done) | (simp only [e0_, e1_]; done) | (simp only [e0_, e1_]; rfl))).ren [(0, 0)] (by kernel_rfl) (by kernel_rfl) (by kernel_rfl))
     ·skip
      refine way_L (tt := tt) (rs := [(7, ⟨[(4, ciB 117 [.agg (encTree (t.v.getD i (dflt .tree))), vi (deep + 1), .ptr 0 0] [] (.val (vb ((chk (t.v.getD i (dflt .tree)) (deep + 1) l).1))) [(0, .var [vi l])] [(0, .var [vi ((chk (t.v.getD i (dflt .tree)) (deep + 1) l).2)])] [(0, 0)])], [], []⟩)]) (bs := [true, true]) (tk := [6]) (bk := [0]) (C := (True ∧ True) ∧ (((decide (((i : Nat) : Int) < (t.v.length : Int))) = true) ∧ True) ∧ ((0 ≤ ((i : Nat) : Int) ∧ ((i : Nat) : Int) < t.v.length) ∧ (tr 3 True)) ∧ (True ∧ True ∧ (InR .i64 (deep + 1)) ∧ True ∧ (okArgs [.agg (encTree (t.v.getD i (dflt .tree))), vi (deep + 1), .ptr 0 0] ∧ okBxs [some (.var [vi l])]) ∧ True ∧ True) ∧ ((!((chk (t.v.getD i (dflt .tree)) (deep + 1) l).1)) = true) ∧ (True ∧ True) ∧ True) (lv := .ret) (T' := [(6, vb false)]) (B' := [(0, .var [vi ((chk (t.v.getD i (dflt .tree)) (deep + 1) l).2)])]) mix hI hs ?_ ?_ ?_ ?_
      ·exact ⟨⟨⟨ent117, ih _ _ _ (by have h1 := nodes_eq t; have h2 := nodes_at (l := t.v) (i := i) (by omega); omega) (fine_at hft (by omega) _) hl0 hl1 (by omega) (by omega)⟩, trivial⟩, trivial⟩
      ·kernel_rfl
      ·exact ⟨⟨trivial, trivial⟩, ⟨b4, trivial⟩, ⟨⟨by omega, by omega⟩, tr_mk trivial 3⟩, ⟨trivial, trivial, (inR64 (by omega) (by omega)), trivial, ⟨rfl, rfl⟩, trivial, trivial⟩, (by rw [b5]; rfl), ⟨trivial, trivial⟩, trivial⟩
      intro a w hs
      refine then_ret ?_
      refine inb_ret ?_
      refine then_ret ?_
      exact FnQB_cast (out := .val (vb false)) (bo := [(0, .var [vi ((chk (t.v.getD i (dflt .tree)) (deep + 1) l).2)])]) (by rw [chk_eq t, if_neg (by rintro (h | h | h); omega; omega; rw [b3] at h; cases h), ← hd, chkL_no (by omega) b5]) (by rw [chk_eq t, if_neg (by rintro (h | h | h); omega; omega; rw [b3] at h; cases h), ← hd, chkL_no (by omega) b5]) (ret_okB _ hs (by kernel_rfl) (by kernel_rfl))
    ·skip
     have n4 := of_decide_eq_false b4
     refine way_L (tt := tt) (rs := []) (bs := [false]) (tk := []) (bk := [0]) (C := (True ∧ True) ∧ ((decide (((i : Nat) : Int) < (t.v.length : Int))) = false) ∧ True) (lv := .exit 0) (T' := []) (B' := [(0, .var [vi l])]) mix hI hs ?_ ?_ ?_ ?_
     ·exact trivial
     ·kernel_rfl
     ·exact ⟨⟨trivial, trivial⟩, b4, trivial⟩
     intro a w hs
     refine then_exit ?_
     refine inb_hit ?_
     refine then_norm ?_
     refine way_L (tt := tt) (rs := []) (bs := []) (tk := [6]) (bk := [0]) (C := (True ∧ True) ∧ True) (lv := .ret) (T' := [(6, vb true)]) (B' := [(0, .var [vi l])]) mix hI hs ?_ ?_ ?_ ?_
     ·exact trivial
     ·kernel_rfl
     ·exact ⟨⟨trivial, trivial⟩, trivial⟩
     intro a w hs
     exact FnQB_cast (out := .val (vb true)) (bo := [(0, .var [vi l])]) (by rw [chk_eq t, if_neg (by rintro (h | h | h); omega; omega; rw [b3] at h; cases h), ← hd, List.drop_of_length_le (by omega)]; rfl) (by rw [chk_eq t, if_neg (by rintro (h | h | h); omega; omega; rw [b3] at h; cases h), ← hd, List.drop_of_length_le (by omega)]; rfl) (ret_okB _ hs (by kernel_rfl) (by kernel_rfl))
   ·skip
    refine way_L (tt := tt) (rs := [(2, ⟨[(10, ciA 170 [.agg (encTree t)] [] [] (.val (vb (ownO t))))], [(5, true), (6, true), (1007, false), (9, true), (10, true), (11, true), (1012, false)], []⟩)]) (bs := [true]) (tk := [6]) (bk := [0]) (C := (tr 5 (((decide ((left - 1) < 0)) = false) ∧ True ∧ ((decide ((left - 1) < 0)) = false) ∧ True ∧ ((decide ((left - 1) < 0)) = false) ∧ True ∧ ((decide (deep > 64)) = false) ∧ True ∧ ((decide (deep > 64)) = false) ∧ (okArgs [.agg (encTree t)]) ∧ ((decide (deep > 64)) = false) ∧ True ∧ ((decide (deep > 64)) = false) ∧ True)) ∧ ((!(ownO t)) = true) ∧ (True ∧ True) ∧ True) (lv := .ret) (T' := [(6, vb false)]) (B' := [(0, .var [vi (left - 1)])]) mix hI hs ?_ ?_ ?_ ?_
    ·exact ⟨⟨⟨ent170, con170 _ hf1 hf2 hf3⟩, trivial⟩, trivial⟩
    ·kernel_rfl
    ·exact ⟨tr_mk (⟨b1, trivial, b1, trivial, b1, trivial, b2, trivial, b2, rfl, b2, trivial, b2, trivial⟩) 5, (by rw [b3]; rfl), ⟨trivial, trivial⟩, trivial⟩
    intro a w hs
    refine then_ret ?_
    exact FnQB_cast (out := .val (vb false)) (bo := [(0, .var [vi (left - 1)])]) (by rw [chk_eq t, if_pos (by first | omega | exact .inr (.inr b3))]) (by rw [chk_eq t, if_pos (by first | omega | exact .inr (.inr b3))]) (ret_okB _ hs (by kernel_rfl) (by kernel_rfl))
end Go.Proofs.YtondpnipoogoiaaGreatDoor.F
