import Derived.Test.YtondpnipoogoiaaGreatDoorO4
namespace Go.Proofs.YtondpnipoogoiaaGreatDoor.F
open Go Go.RowKit Go.Proofs.Tryz
set_option linter.unusedVariables false
theorem con_lits {P : Program} {I : World → Prop} {f : FuncId} {args : List Value} {r : Value} (h : ∀ w, I w → Calls P f args.toArray w fun e w' => e = .returned r ∧ Below w.heap.size w w') : Con P I f (args.map .lit) (.val (.lit r)) := by
  intro w fz vs hI hfz hR
  have hv : vs = args.toArray := by
    refine Array.ext (by simpa using hR.1) (fun i h1 h2 => ?_)
    have h3 : i < args.length := by simpa using h2
    have := (hR.2 i vs[i] (.lit args[i]) (Array.getElem?_eq_getElem h1) (by rw [List.getElem?_map, List.getElem?_eq_getElem h3]; rfl)).lit_inv
    simpa using this
  subst hv
  exact (h w hI).mono fun e w' hh => ⟨⟨_, hh.1, .lit _⟩, hh.2⟩
theorem conValid (s : ByteArray) {r : Bool} (h : X.validAt s s.size 0 = r) : Con Tryz.prog I0 249 [vs s] (.val (vb r)) :=
  con_lits (args := [.string s]) (fun w hI => X.utf_Valid.calls s r w hI (by rw [← h]; rfl))
def splitF (s : ByteArray) (c : UInt8) : List ByteArray := Lib.splitB (ba [c]) 0 (Lib.countB s (ba [c])) s
def joinF (xs : List ByteArray) (sep : ByteArray) : ByteArray := ⟨(Lib.join (xs.map (·.data.toList)) sep.data.toList).toArray⟩
theorem RL_two {w : World} {fz : Nat → Prop} {η : Nat → Option Value} {vs : Array Value} {a b : AV} (h : RL w fz η vs [a, b]) : ∃ u v, vs = #[u, v] ∧ R w fz η u a ∧ R w fz η v b := by
  obtain ⟨hl, h⟩ := h
  have h0 : 0 < vs.size := by simp at hl; omega
  have h1 : 1 < vs.size := by simp at hl; omega
  refine ⟨vs[0], vs[1], Array.ext (by simpa using hl) (fun i p q => ?_), h 0 _ a (Array.getElem?_eq_getElem h0) rfl, h 1 _ b (Array.getElem?_eq_getElem h1) rfl⟩
  have hi : i < 2 := by simpa using q
  rcases i with _ | _ | i
  · rfl
  · rfl
  · omega
theorem conSplit (s : ByteArray) (c : UInt8) (hs : s.size < 4294967281) : Con Tryz.prog I0 82 [vs s, vs (ba [c])] (.own 9 .str (splitF s c)) := by
  intro w fz vs hI hfz hR
  obtain ⟨u, v, rfl, h1, h2⟩ := RL_two hR
  obtain rfl := h1.lit_inv
  obtain rfl := h2.lit_inv
  obtain ⟨m, hm⟩ := X.Laid.long hI
  have h1 : 1 ≤ (ba [c]).size := Nat.le_refl _
  refine (Tryz.strings_Split s (ba [c]) m w hs hm h1).mono ?_
  rintro e w' ⟨rfl, rfl⟩
  have hlen := Lib.splitB_all (ba [c]) h1 0 (Lib.countB s (ba [c])) s rfl
  have hle : Lib.countB s (ba [c]) ≤ s.size := Lib.countB_le (ba [c]) h1 s.size s (Nat.le_refl _)
  have hmx : Lib.countB s (ba [c]) + 1 ≤ maxLen := by unfold maxLen; omega
  refine ⟨⟨_, rfl, fun k hk => ?_, (splitF s c).map Value.string, ?_, fun i x j y hx hy => ?_⟩, (Below.refl _ _).alloc (Nat.le_refl _) _⟩
  · simp only [blk, Option.some.injEq] at hk
    subst hk
    exact ⟨Nat.le_refl _, by show _ < (w.heap.push _).size; rw [Array.size_push]; omega⟩
  · have hl2 : (splitF s c).length = Lib.countB s (ba [c]) + 1 := hlen
    rw [hl2]
    refine ⟨by rw [List.length_map, hl2]; simp [sz], .inr ⟨w.heap.size, _, _, rfl, Nat.zero_le _, heap_alloc_new w _, Nat.le_refl _, hmx, ?_, ?_⟩⟩
    · rw [List.size_toArray, List.length_map, hlen]; simp [sz]
    · simp only [sz, Nat.mul_one]
      exact List.take_of_length_le (by rw [List.length_map, hlen]; exact Nat.le_refl _)
  · rcases j with _ | j
    · simp only [enc, List.getElem?_cons_zero, Option.some.injEq] at hy
      subst hy
      exact ⟨.string x, by simp [sz, hx], .lit _⟩
    · simp [enc] at hy
theorem plain_cell {w : World} {ad : Addr} {u : Value} (h : w.cell? ad = some u) : ∃ b o, ad = ⟨b, o, none⟩ := by
  obtain ⟨b, o, s⟩ := ad
  cases s with
  | none => exact ⟨b, o, rfl⟩
  | some s => simp [World.cell?] at h; split at h <;> simp at h
theorem conJoin (xs : List ByteArray) (sep : ByteArray) (hlen : (joinF xs sep).size ≤ 140737488355328) (hl : xs.length ≤ 140737488355328) : Con Tryz.prog I0 92 [.row .str xs, vs sep] (.val (vs (joinF xs sep))) := by
  intro w fz vs hI hfz hR
  obtain ⟨u, v, rfl, h1, h2⟩ := RL_two hR
  obtain ⟨A, c, rfl, hc, hm, hel⟩ := h1.row_inv
  obtain rfl := h2.lit_inv
  have fin : ∀ e w', (e = .returned (.string (joinF xs sep)) ∧ Below w.heap.size w w') → Post w fz w' e (.val (vs (joinF xs sep))) ∧ Below w.heap.size w w' := fun e w' h => ⟨⟨_, h.1, .lit _⟩, h.2⟩
  cases xs with
  | nil =>
    refine (Tryz.strings_Join_none A c sep w).mono ?_
    rintro e w' ⟨rfl, rfl⟩
    exact fin _ _ ⟨by rfl, Below.refl _ _⟩
  | cons y ys =>
    obtain ⟨ad, rfl, _, hlt, hcell⟩ := hel 0 y rfl
    obtain ⟨u, hu, _⟩ := hcell 0 (vs y) rfl
    have e0 : ad.add (0 * sz .str + 0) = ad := by simp [Addr.add]
    rw [e0] at hu
    obtain ⟨b, o, rfl⟩ := plain_cell hu
    refine (Tryz.strings_Join b o c (y :: ys) sep w (fun j x hx => ?_) hlt hl hc (by simpa [joinF, ByteArray.size] using hlen)).mono fin
    obtain ⟨ad, hA, _, _, hcell⟩ := hel j x hx
    injection hA with hA
    subst hA
    obtain ⟨u, hu, hr⟩ := hcell 0 (vs x) rfl
    obtain rfl := hr.lit_inv
    have e1 : (⟨b, o, none⟩ : Addr).add (j * sz .str + 0) = ⟨b, o + j, none⟩ := by
      simp only [sz, Nat.mul_one, Nat.add_zero]
      unfold Addr.add
      split
      · rename_i hz; subst hz; rfl
      · rfl
    rw [e1] at hu
    exact hu
end Go.Proofs.YtondpnipoogoiaaGreatDoor.F
namespace Go.Proofs.YtondpnipoogoiaaGreatDoor.F
open Go Go.RowKit Go.Proofs.Tryz
set_option linter.unusedVariables false
set_option linter.unusedSimpArgs false
def nameOk (s : ByteArray) (i : Nat) : Bool :=
  ((decide (bitsOr .u8 (byteAt s (i : Int)) 32 ≥ 97) && decide (bitsOr .u8 (byteAt s (i : Int)) 32 ≤ 122)) || byteAt s (i : Int) == 95) || (!((i : Int) == 0) && (!decide (byteAt s (i : Int) < 48) && !decide (byteAt s (i : Int) > 57)))
def nameF (s : ByteArray) : Bool := (List.range s.size).all (nameOk s) && (decide (s.size ≠ 0) && decide ((s.size : Int) ≤ 2000))
theorem all_no {n : Nat} {q : Nat → Bool} {i : Nat} (h : i < n) (hn : q i = false) : (List.range n).all q = false := List.all_eq_false.2 ⟨i, by simpa using h, by simp [hn]⟩
theorem nameF_no {s : ByteArray} {i : Nat} (h : i < s.size) (hn : nameOk s i = false) : nameF s = false := by
  have : (List.range s.size).all (nameOk s) = false := List.all_eq_false.2 ⟨i, by simpa using h, by simp [hn]⟩
  simp [nameF, this]
theorem nameF_yes {s : ByteArray} (h : ∀ j, j < s.size → nameOk s j = true) : nameF s = (decide (s.size ≠ 0) && decide ((s.size : Int) ≤ 2000)) := by
  have : (List.range s.size).all (nameOk s) = true := List.all_eq_true.2 (fun j hj => h j (by simpa using hj))
  simp [nameF, this]
theorem ba_nil_ne (s : ByteArray) : (!(s.toList == (ba []).toList)) = decide (s.size ≠ 0) := by
  have h1 : (ba []).toList = [] := by rw [Lib.toList_data]
  have h2 : s.toList = s.data.toList := Lib.toList_data s
  have h3 := Lib.size_eq s
  rw [h1, h2, h3]
  cases s.data.toList with
  | nil => rfl
  | cons x l => rfl
set_option maxRecDepth 100000 in
theorem con37 (s : ByteArray) (hs0 : s.size < 4294967281) : Con Tryz.prog I0 37 [vs s] (.val (vb (nameF s))) := by
 refine con_of Tryz.func37 rfl (Nat.le_of_ble_eq_true rfl) stab (fun w0 fz a hI hs => ?_)
 refine wp_seq ?_
 refine way_L (tt := tt) (rs := []) (bs := []) (tk := [0]) (bk := []) (C := True ∧ True) (lv := .norm) (T' := [(0, vs s)]) (B' := []) mix hI hs ?_ ?_ ?_ ?_
 ·exact trivial
 ·kernel_rfl
 ·exact ⟨trivial, trivial⟩
 intro a w hs
 refine then_norm ?_
 refine wp_seq ?_
 refine wp_seq ?_
 refine way_L (tt := tt) (rs := []) (bs := []) (tk := [0, 7, 8]) (bk := []) (C := tr 3 True) (lv := .norm) (T' := [(0, vs s), (7, vi (s.size : Int)), (8, vi 0)]) (B' := []) mix hI hs ?_ ?_ ?_ ?_
 ·exact trivial
 ·kernel_rfl
 ·exact tr_mk trivial 3
 intro a w hs
 refine then_norm ?_
 refine wp_block ?_
 refine loop_L (N := Tryz.f37.ntmps) (w0 := w0) (ow := noO fz) (α := Nat) (fun p => [(0, vs s), (7, vi (s.size : Int)), (8, vi ((p : Nat) : Int))]) (fun p => []) (fun p => p ≤ s.size ∧ ∀ j, j < p → nameOk s j = true) (fun p => s.size - p) 0 ?_ ?_ ?_
 ·exact ⟨Nat.zero_le _, fun j hj => absurd hj (Nat.not_lt_zero _)⟩
 ·(have e0_ : (0) = (((0 : Nat) : Int)) := (by first | rfl | (rfl)); exact (SimL.cast hs (T' := [(0, vs s), (7, vi (s.size : Int)), (8, vi ((0 : Nat) : Int))]) (B' := []) (by first | rfl | (rw [e0_]; done) | (simp only [e0_]; done) | (simp only [e0_]; rfl)) (by first | rfl | (rw [e0_]; done) | (simp only [e0_]; done) | (simp only [e0_]; rfl))).ren [] (by kernel_rfl) (by kernel_rfl) (by kernel_rfl))
 rintro i hJ a w hs
 obtain ⟨hi, hall⟩ := hJ
 rcases Bool.eq_false_or_eq_true (decide (((i : Nat) : Int) < (s.size : Int))) with b1 | b1
 ·skip
  have n1 := of_decide_eq_true b1
  rcases Bool.eq_false_or_eq_true (decide ((bitsOr .u8 (byteAt s ((i : Nat) : Int)) 32) ≥ 97)) with b2 | b2
  ·skip
   have n2 := of_decide_eq_true b2
   rcases Bool.eq_false_or_eq_true (decide ((bitsOr .u8 (byteAt s ((i : Nat) : Int)) 32) ≤ 122)) with b3 | b3
   ·skip
    have n3 := of_decide_eq_true b3
    refine way_L (tt := tt) (rs := [(5, ⟨[], [(3, true), (4, true), (1005, true), (7, false), (8, false), (9, false), (10, false), (1011, true)], []⟩), (6, ⟨[], [(3, false), (4, false), (5, false), (10, false), (11, false), (16, false), (1017, false)], []⟩)]) (bs := [true, false]) (tk := [0, 7, 8]) (bk := []) (C := (True ∧ True) ∧ (((decide (((i : Nat) : Int) < (s.size : Int))) = true) ∧ True) ∧ ((True ∧ True ∧ True) ∧ (True ∧ True ∧ (0 ≤ ((i : Nat) : Int) ∧ ((i : Nat) : Int) < s.size) ∧ True ∧ True ∧ True) ∧ (tr 3 (((decide ((bitsOr .u8 (byteAt s ((i : Nat) : Int)) 32) ≥ 97)) = true) ∧ True ∧ ((decide ((bitsOr .u8 (byteAt s ((i : Nat) : Int)) 32) ≥ 97)) = true) ∧ True ∧ ((decide ((bitsOr .u8 (byteAt s ((i : Nat) : Int)) 32) ≥ 97)) = true) ∧ True ∧ ((decide ((bitsOr .u8 (byteAt s ((i : Nat) : Int)) 32) ≤ 122)) = true) ∧ ((decide ((bitsOr .u8 (byteAt s ((i : Nat) : Int)) 32) ≤ 122)) = true) ∧ ((decide ((bitsOr .u8 (byteAt s ((i : Nat) : Int)) 32) ≤ 122)) = true) ∧ ((decide ((bitsOr .u8 (byteAt s ((i : Nat) : Int)) 32) ≤ 122)) = true) ∧ ((decide ((bitsOr .u8 (byteAt s ((i : Nat) : Int)) 32) ≤ 122)) = true) ∧ True ∧ True)) ∧ (tr 3 ((false = false) ∧ (false = false) ∧ (false = false) ∧ (tr 4 ((false = false) ∧ (false = false) ∧ (tr 4 ((false = false) ∧ (false = false) ∧ True)))))) ∧ (false = false) ∧ True) ∧ (InR .i64 (((i : Nat) : Int) + 1)) ∧ True ∧ True) (lv := .norm) (T' := [(0, vs s), (7, vi (s.size : Int)), (8, vi (((i : Nat) : Int) + 1))]) (B' := []) mix hI hs ?_ ?_ ?_ ?_
    ·exact ⟨trivial, trivial, trivial⟩
    ·kernel_rfl
    ·exact ⟨⟨trivial, trivial⟩, ⟨b1, trivial⟩, ⟨⟨trivial, trivial, trivial⟩, ⟨trivial, trivial, ⟨by omega, by omega⟩, trivial, trivial, trivial⟩, tr_mk (⟨b2, trivial, b2, trivial, b2, trivial, b3, b3, b3, b3, b3, trivial, trivial⟩) 3, tr_mk (⟨rfl, rfl, rfl, tr_mk (⟨rfl, rfl, tr_mk (⟨rfl, rfl, trivial⟩) 4⟩) 4⟩) 3, rfl, trivial⟩, (inR64 (by omega) (by omega)), trivial, trivial⟩
    intro a w hs
    refine then_norm ⟨i + 1, ⟨by omega, fun j hj => by rcases Nat.lt_succ_iff_lt_or_eq.1 hj with h | rfl; exact hall j h; simp only [nameOk, b1, b2, b3]; rfl⟩, by omega, ?_⟩
    (have e0_ : (((i : Nat) : Int) + 1) = ((((i + 1) : Nat) : Int)) := (by first | rfl | (omega)); exact (SimL.cast hs (T' := [(0, vs s), (7, vi (s.size : Int)), (8, vi (((i + 1) : Nat) : Int))]) (B' := []) (by first | rfl | (rw [e0_]; done) | (simp only [e0_]; done) | (simp only [e0_]; rfl)) (by first | rfl | (rw [e0_]; done) | (simp only [e0_]; done) | (simp only [e0_]; rfl))).ren [] (by kernel_rfl) (by kernel_rfl) (by kernel_rfl))
   ·skip
    have n3 := of_decide_eq_false b3
    rcases Bool.eq_false_or_eq_true ((byteAt s ((i : Nat) : Int)) == 95) with b4 | b4
    ·skip
     have n4 := eq_of_beq b4
     refine way_L (tt := tt) (rs := [(5, ⟨[], [(3, true), (4, true), (1005, true), (7, true), (8, true), (9, true), (10, true), (1011, false)], []⟩), (6, ⟨[], [(3, false), (4, false), (5, false), (10, false), (11, false), (16, false), (1017, false)], []⟩)]) (bs := [true, false]) (tk := [0, 7, 8]) (bk := []) (C := (True ∧ True) ∧ (((decide (((i : Nat) : Int) < (s.size : Int))) = true) ∧ True) ∧ ((True ∧ True ∧ True) ∧ (True ∧ True ∧ (0 ≤ ((i : Nat) : Int) ∧ ((i : Nat) : Int) < s.size) ∧ True ∧ True ∧ True) ∧ (tr 3 (((decide ((bitsOr .u8 (byteAt s ((i : Nat) : Int)) 32) ≥ 97)) = true) ∧ True ∧ ((decide ((bitsOr .u8 (byteAt s ((i : Nat) : Int)) 32) ≥ 97)) = true) ∧ True ∧ ((decide ((bitsOr .u8 (byteAt s ((i : Nat) : Int)) 32) ≥ 97)) = true) ∧ True ∧ ((decide ((bitsOr .u8 (byteAt s ((i : Nat) : Int)) 32) ≤ 122)) = false) ∧ True ∧ ((decide ((bitsOr .u8 (byteAt s ((i : Nat) : Int)) 32) ≤ 122)) = false) ∧ True ∧ ((decide ((bitsOr .u8 (byteAt s ((i : Nat) : Int)) 32) ≤ 122)) = false) ∧ (0 ≤ ((i : Nat) : Int) ∧ ((i : Nat) : Int) < s.size) ∧ ((decide ((bitsOr .u8 (byteAt s ((i : Nat) : Int)) 32) ≤ 122)) = false) ∧ True ∧ ((decide ((bitsOr .u8 (byteAt s ((i : Nat) : Int)) 32) ≤ 122)) = false) ∧ True ∧ True)) ∧ (tr 3 (((!((byteAt s ((i : Nat) : Int)) == 95)) = false) ∧ ((!((byteAt s ((i : Nat) : Int)) == 95)) = false) ∧ ((!((byteAt s ((i : Nat) : Int)) == 95)) = false) ∧ (tr 4 (((!((byteAt s ((i : Nat) : Int)) == 95)) = false) ∧ ((!((byteAt s ((i : Nat) : Int)) == 95)) = false) ∧ (tr 4 (((!((byteAt s ((i : Nat) : Int)) == 95)) = false) ∧ ((!((byteAt s ((i : Nat) : Int)) == 95)) = false) ∧ True)))))) ∧ (false = false) ∧ True) ∧ (InR .i64 (((i : Nat) : Int) + 1)) ∧ True ∧ True) (lv := .norm) (T' := [(0, vs s), (7, vi (s.size : Int)), (8, vi (((i : Nat) : Int) + 1))]) (B' := []) mix hI hs ?_ ?_ ?_ ?_
     ·exact ⟨trivial, trivial, trivial⟩
     ·kernel_rfl
     ·exact ⟨⟨trivial, trivial⟩, ⟨b1, trivial⟩, ⟨⟨trivial, trivial, trivial⟩, ⟨trivial, trivial, ⟨by omega, by omega⟩, trivial, trivial, trivial⟩, tr_mk (⟨b2, trivial, b2, trivial, b2, trivial, b3, trivial, b3, trivial, b3, ⟨by omega, by omega⟩, b3, trivial, b3, trivial, trivial⟩) 3, tr_mk (⟨(by rw [b4]; rfl), (by rw [b4]; rfl), (by rw [b4]; rfl), tr_mk (⟨(by rw [b4]; rfl), (by rw [b4]; rfl), tr_mk (⟨(by rw [b4]; rfl), (by rw [b4]; rfl), trivial⟩) 4⟩) 4⟩) 3, rfl, trivial⟩, (inR64 (by omega) (by omega)), trivial, trivial⟩
     intro a w hs
     refine then_norm ⟨i + 1, ⟨by omega, fun j hj => by rcases Nat.lt_succ_iff_lt_or_eq.1 hj with h | rfl; exact hall j h; simp only [nameOk, b1, b2, b3, b4]; rfl⟩, by omega, ?_⟩
     (have e0_ : (((i : Nat) : Int) + 1) = ((((i + 1) : Nat) : Int)) := (by first | rfl | (omega)); exact (SimL.cast hs (T' := [(0, vs s), (7, vi (s.size : Int)), (8, vi (((i + 1) : Nat) : Int))]) (B' := []) (by first | rfl | (rw [e0_]; done) | (simp only [e0_]; done) | (simp only [e0_]; rfl)) (by first | rfl | (rw [e0_]; done) | (simp only [e0_]; done) | (simp only [e0_]; rfl))).ren [] (by kernel_rfl) (by kernel_rfl) (by kernel_rfl))
    ·skip
     have n4 := beq_eq_false_iff_ne.1 b4
     rcases Bool.eq_false_or_eq_true (((i : Nat) : Int) == 0) with b5 | b5
     ·skip
      have n5 := eq_of_beq b5
      refine way_L (tt := tt) (rs := [(5, ⟨[], [(3, true), (4, true), (1005, true), (7, true), (8, true), (9, true), (10, true), (1011, false)], []⟩), (6, ⟨[], [(3, true), (4, true), (5, true), (6, false), (7, false), (8, false), (9, false), (10, true), (1010, true), (11, true), (12, false), (13, false), (14, false), (15, false), (16, true), (1016, true), (1017, true)], []⟩)]) (bs := [true, true]) (tk := [2]) (bk := []) (C := (True ∧ True) ∧ (((decide (((i : Nat) : Int) < (s.size : Int))) = true) ∧ True) ∧ (True ∧ True ∧ True) ∧ (True ∧ True ∧ (0 ≤ ((i : Nat) : Int) ∧ ((i : Nat) : Int) < s.size) ∧ True ∧ True ∧ True) ∧ (tr 3 (((decide ((bitsOr .u8 (byteAt s ((i : Nat) : Int)) 32) ≥ 97)) = true) ∧ True ∧ ((decide ((bitsOr .u8 (byteAt s ((i : Nat) : Int)) 32) ≥ 97)) = true) ∧ True ∧ ((decide ((bitsOr .u8 (byteAt s ((i : Nat) : Int)) 32) ≥ 97)) = true) ∧ True ∧ ((decide ((bitsOr .u8 (byteAt s ((i : Nat) : Int)) 32) ≤ 122)) = false) ∧ True ∧ ((decide ((bitsOr .u8 (byteAt s ((i : Nat) : Int)) 32) ≤ 122)) = false) ∧ True ∧ ((decide ((bitsOr .u8 (byteAt s ((i : Nat) : Int)) 32) ≤ 122)) = false) ∧ (0 ≤ ((i : Nat) : Int) ∧ ((i : Nat) : Int) < s.size) ∧ ((decide ((bitsOr .u8 (byteAt s ((i : Nat) : Int)) 32) ≤ 122)) = false) ∧ True ∧ ((decide ((bitsOr .u8 (byteAt s ((i : Nat) : Int)) 32) ≤ 122)) = false) ∧ True ∧ True)) ∧ (tr 3 (((!((byteAt s ((i : Nat) : Int)) == 95)) = true) ∧ True ∧ ((!((byteAt s ((i : Nat) : Int)) == 95)) = true) ∧ True ∧ ((!((byteAt s ((i : Nat) : Int)) == 95)) = true) ∧ True ∧ ((((i : Nat) : Int) == 0) = true) ∧ ((((i : Nat) : Int) == 0) = true) ∧ ((((i : Nat) : Int) == 0) = true) ∧ ((((i : Nat) : Int) == 0) = true) ∧ ((!((byteAt s ((i : Nat) : Int)) == 95)) = true) ∧ ((((i : Nat) : Int) == 0) = true) ∧ ((!((byteAt s ((i : Nat) : Int)) == 95)) = true) ∧ True ∧ (true = true) ∧ (true = true) ∧ (true = true) ∧ (true = true) ∧ ((!((byteAt s ((i : Nat) : Int)) == 95)) = true) ∧ (true = true) ∧ ((!((byteAt s ((i : Nat) : Int)) == 95)) = true) ∧ True)) ∧ (true = true) ∧ (True ∧ True) ∧ True) (lv := .ret) (T' := [(2, vb false)]) (B' := []) mix hI hs ?_ ?_ ?_ ?_
      ·exact ⟨trivial, trivial, trivial⟩
      ·kernel_rfl
      ·exact ⟨⟨trivial, trivial⟩, ⟨b1, trivial⟩, ⟨trivial, trivial, trivial⟩, ⟨trivial, trivial, ⟨by omega, by omega⟩, trivial, trivial, trivial⟩, tr_mk (⟨b2, trivial, b2, trivial, b2, trivial, b3, trivial, b3, trivial, b3, ⟨by omega, by omega⟩, b3, trivial, b3, trivial, trivial⟩) 3, tr_mk (⟨(by rw [b4]; rfl), trivial, (by rw [b4]; rfl), trivial, (by rw [b4]; rfl), trivial, b5, b5, b5, b5, (by rw [b4]; rfl), b5, (by rw [b4]; rfl), trivial, rfl, rfl, rfl, rfl, (by rw [b4]; rfl), rfl, (by rw [b4]; rfl), trivial⟩) 3, rfl, ⟨trivial, trivial⟩, trivial⟩
      intro a w hs
      refine then_ret ?_
      refine inb_ret ?_
      refine then_ret ?_
      exact FnQ_cast (out := .val (vb false)) (by rw [nameF_no (s := s) (i := i) (by omega) (by simp only [nameOk, b1, b2, b3, b4, b5]; rfl)]) (ret_ok [] hs ⟨by kernel_rfl, rfl⟩)
     ·skip
      have n5 := beq_eq_false_iff_ne.1 b5
      rcases Bool.eq_false_or_eq_true (decide ((byteAt s ((i : Nat) : Int)) < 48)) with b6 | b6
      ·skip
       have n6 := of_decide_eq_true b6
       refine way_L (tt := tt) (rs := [(5, ⟨[], [(3, true), (4, true), (1005, true), (7, true), (8, true), (9, true), (10, true), (1011, false)], []⟩), (6, ⟨[], [(3, true), (4, true), (5, true), (6, true), (7, true), (8, true), (9, true), (10, true), (1010, false), (11, true), (12, false), (13, false), (14, false), (15, false), (16, true), (1016, true), (1017, true)], []⟩)]) (bs := [true, true]) (tk := [2]) (bk := []) (C := (True ∧ True) ∧ (((decide (((i : Nat) : Int) < (s.size : Int))) = true) ∧ True) ∧ (True ∧ True ∧ True) ∧ (True ∧ True ∧ (0 ≤ ((i : Nat) : Int) ∧ ((i : Nat) : Int) < s.size) ∧ True ∧ True ∧ True) ∧ (tr 3 (((decide ((bitsOr .u8 (byteAt s ((i : Nat) : Int)) 32) ≥ 97)) = true) ∧ True ∧ ((decide ((bitsOr .u8 (byteAt s ((i : Nat) : Int)) 32) ≥ 97)) = true) ∧ True ∧ ((decide ((bitsOr .u8 (byteAt s ((i : Nat) : Int)) 32) ≥ 97)) = true) ∧ True ∧ ((decide ((bitsOr .u8 (byteAt s ((i : Nat) : Int)) 32) ≤ 122)) = false) ∧ True ∧ ((decide ((bitsOr .u8 (byteAt s ((i : Nat) : Int)) 32) ≤ 122)) = false) ∧ True ∧ ((decide ((bitsOr .u8 (byteAt s ((i : Nat) : Int)) 32) ≤ 122)) = false) ∧ (0 ≤ ((i : Nat) : Int) ∧ ((i : Nat) : Int) < s.size) ∧ ((decide ((bitsOr .u8 (byteAt s ((i : Nat) : Int)) 32) ≤ 122)) = false) ∧ True ∧ ((decide ((bitsOr .u8 (byteAt s ((i : Nat) : Int)) 32) ≤ 122)) = false) ∧ True ∧ True)) ∧ (tr 3 (((!((byteAt s ((i : Nat) : Int)) == 95)) = true) ∧ True ∧ ((!((byteAt s ((i : Nat) : Int)) == 95)) = true) ∧ True ∧ ((!((byteAt s ((i : Nat) : Int)) == 95)) = true) ∧ True ∧ ((((i : Nat) : Int) == 0) = false) ∧ True ∧ ((((i : Nat) : Int) == 0) = false) ∧ True ∧ ((((i : Nat) : Int) == 0) = false) ∧ (0 ≤ ((i : Nat) : Int) ∧ ((i : Nat) : Int) < s.size) ∧ ((((i : Nat) : Int) == 0) = false) ∧ True ∧ ((!((byteAt s ((i : Nat) : Int)) == 95)) = true) ∧ ((((i : Nat) : Int) == 0) = false) ∧ ((!((byteAt s ((i : Nat) : Int)) == 95)) = true) ∧ True ∧ ((decide ((byteAt s ((i : Nat) : Int)) < 48)) = true) ∧ ((decide ((byteAt s ((i : Nat) : Int)) < 48)) = true) ∧ ((decide ((byteAt s ((i : Nat) : Int)) < 48)) = true) ∧ ((decide ((byteAt s ((i : Nat) : Int)) < 48)) = true) ∧ ((!((byteAt s ((i : Nat) : Int)) == 95)) = true) ∧ ((decide ((byteAt s ((i : Nat) : Int)) < 48)) = true) ∧ ((!((byteAt s ((i : Nat) : Int)) == 95)) = true) ∧ True)) ∧ (true = true) ∧ (True ∧ True) ∧ True) (lv := .ret) (T' := [(2, vb false)]) (B' := []) mix hI hs ?_ ?_ ?_ ?_
       ·exact ⟨trivial, trivial, trivial⟩
       ·kernel_rfl
       ·exact ⟨⟨trivial, trivial⟩, ⟨b1, trivial⟩, ⟨trivial, trivial, trivial⟩, ⟨trivial, trivial, ⟨by omega, by omega⟩, trivial, trivial, trivial⟩, tr_mk (⟨b2, trivial, b2, trivial, b2, trivial, b3, trivial, b3, trivial, b3, ⟨by omega, by omega⟩, b3, trivial, b3, trivial, trivial⟩) 3, tr_mk (⟨(by rw [b4]; rfl), trivial, (by rw [b4]; rfl), trivial, (by rw [b4]; rfl), trivial, b5, trivial, b5, trivial, b5, ⟨by omega, by omega⟩, b5, trivial, (by rw [b4]; rfl), b5, (by rw [b4]; rfl), trivial, b6, b6, b6, b6, (by rw [b4]; rfl), b6, (by rw [b4]; rfl), trivial⟩) 3, rfl, ⟨trivial, trivial⟩, trivial⟩
       intro a w hs
       refine then_ret ?_
       refine inb_ret ?_
       refine then_ret ?_
       exact FnQ_cast (out := .val (vb false)) (by rw [nameF_no (s := s) (i := i) (by omega) (by simp only [nameOk, b1, b2, b3, b4, b5, b6]; rfl)]) (ret_ok [] hs ⟨by kernel_rfl, rfl⟩)
      ·skip
       have n6 := of_decide_eq_false b6
       rcases Bool.eq_false_or_eq_true (decide ((byteAt s ((i : Nat) : Int)) > 57)) with b7 | b7
       ·skip
        have n7 := of_decide_eq_true b7
        refine way_L (tt := tt) (rs := [(5, ⟨[], [(3, true), (4, true), (1005, true), (7, true), (8, true), (9, true), (10, true), (1011, false)], []⟩), (6, ⟨[], [(3, true), (4, true), (5, true), (6, true), (7, true), (8, true), (9, true), (10, true), (1010, false), (11, true), (12, true), (13, true), (14, true), (15, true), (16, true), (1016, false), (1017, true)], []⟩)]) (bs := [true, true]) (tk := [2]) (bk := []) (C := (True ∧ True) ∧ (((decide (((i : Nat) : Int) < (s.size : Int))) = true) ∧ True) ∧ (True ∧ True ∧ True) ∧ (True ∧ True ∧ (0 ≤ ((i : Nat) : Int) ∧ ((i : Nat) : Int) < s.size) ∧ True ∧ True ∧ True) ∧ (tr 3 (((decide ((bitsOr .u8 (byteAt s ((i : Nat) : Int)) 32) ≥ 97)) = true) ∧ True ∧ ((decide ((bitsOr .u8 (byteAt s ((i : Nat) : Int)) 32) ≥ 97)) = true) ∧ True ∧ ((decide ((bitsOr .u8 (byteAt s ((i : Nat) : Int)) 32) ≥ 97)) = true) ∧ True ∧ ((decide ((bitsOr .u8 (byteAt s ((i : Nat) : Int)) 32) ≤ 122)) = false) ∧ True ∧ ((decide ((bitsOr .u8 (byteAt s ((i : Nat) : Int)) 32) ≤ 122)) = false) ∧ True ∧ ((decide ((bitsOr .u8 (byteAt s ((i : Nat) : Int)) 32) ≤ 122)) = false) ∧ (0 ≤ ((i : Nat) : Int) ∧ ((i : Nat) : Int) < s.size) ∧ ((decide ((bitsOr .u8 (byteAt s ((i : Nat) : Int)) 32) ≤ 122)) = false) ∧ True ∧ ((decide ((bitsOr .u8 (byteAt s ((i : Nat) : Int)) 32) ≤ 122)) = false) ∧ True ∧ True)) ∧ (tr 3 (((!((byteAt s ((i : Nat) : Int)) == 95)) = true) ∧ True ∧ ((!((byteAt s ((i : Nat) : Int)) == 95)) = true) ∧ True ∧ ((!((byteAt s ((i : Nat) : Int)) == 95)) = true) ∧ True ∧ ((((i : Nat) : Int) == 0) = false) ∧ True ∧ ((((i : Nat) : Int) == 0) = false) ∧ True ∧ ((((i : Nat) : Int) == 0) = false) ∧ (0 ≤ ((i : Nat) : Int) ∧ ((i : Nat) : Int) < s.size) ∧ ((((i : Nat) : Int) == 0) = false) ∧ True ∧ ((!((byteAt s ((i : Nat) : Int)) == 95)) = true) ∧ ((((i : Nat) : Int) == 0) = false) ∧ ((!((byteAt s ((i : Nat) : Int)) == 95)) = true) ∧ True ∧ ((decide ((byteAt s ((i : Nat) : Int)) < 48)) = false) ∧ True ∧ ((decide ((byteAt s ((i : Nat) : Int)) < 48)) = false) ∧ True ∧ ((decide ((byteAt s ((i : Nat) : Int)) < 48)) = false) ∧ (0 ≤ ((i : Nat) : Int) ∧ ((i : Nat) : Int) < s.size) ∧ ((decide ((byteAt s ((i : Nat) : Int)) < 48)) = false) ∧ True ∧ ((!((byteAt s ((i : Nat) : Int)) == 95)) = true) ∧ ((decide ((byteAt s ((i : Nat) : Int)) < 48)) = false) ∧ ((!((byteAt s ((i : Nat) : Int)) == 95)) = true) ∧ True)) ∧ ((decide ((byteAt s ((i : Nat) : Int)) > 57)) = true) ∧ (True ∧ True) ∧ True) (lv := .ret) (T' := [(2, vb false)]) (B' := []) mix hI hs ?_ ?_ ?_ ?_
        ·exact ⟨trivial, trivial, trivial⟩
        ·kernel_rfl
        ·exact ⟨⟨trivial, trivial⟩, ⟨b1, trivial⟩, ⟨trivial, trivial, trivial⟩, ⟨trivial, trivial, ⟨by omega, by omega⟩, trivial, trivial, trivial⟩, tr_mk (⟨b2, trivial, b2, trivial, b2, trivial, b3, trivial, b3, trivial, b3, ⟨by omega, by omega⟩, b3, trivial, b3, trivial, trivial⟩) 3, tr_mk (⟨(by rw [b4]; rfl), trivial, (by rw [b4]; rfl), trivial, (by rw [b4]; rfl), trivial, b5, trivial, b5, trivial, b5, ⟨by omega, by omega⟩, b5, trivial, (by rw [b4]; rfl), b5, (by rw [b4]; rfl), trivial, b6, trivial, b6, trivial, b6, ⟨by omega, by omega⟩, b6, trivial, (by rw [b4]; rfl), b6, (by rw [b4]; rfl), trivial⟩) 3, b7, ⟨trivial, trivial⟩, trivial⟩
        intro a w hs
        refine then_ret ?_
        refine inb_ret ?_
        refine then_ret ?_
        exact FnQ_cast (out := .val (vb false)) (by rw [nameF_no (s := s) (i := i) (by omega) (by simp only [nameOk, b1, b2, b3, b4, b5, b6, b7]; rfl)]) (ret_ok [] hs ⟨by kernel_rfl, rfl⟩)
       ·skip
        have n7 := of_decide_eq_false b7
        refine way_L (tt := tt) (rs := [(5, ⟨[], [(3, true), (4, true), (1005, true), (7, true), (8, true), (9, true), (10, true), (1011, false)], []⟩), (6, ⟨[], [(3, true), (4, true), (5, true), (6, true), (7, true), (8, true), (9, true), (10, true), (1010, false), (11, true), (12, true), (13, true), (14, true), (15, true), (16, true), (1016, false), (1017, true)], []⟩)]) (bs := [true, false]) (tk := [0, 7, 8]) (bk := []) (C := (True ∧ True) ∧ (((decide (((i : Nat) : Int) < (s.size : Int))) = true) ∧ True) ∧ ((True ∧ True ∧ True) ∧ (True ∧ True ∧ (0 ≤ ((i : Nat) : Int) ∧ ((i : Nat) : Int) < s.size) ∧ True ∧ True ∧ True) ∧ (tr 3 (((decide ((bitsOr .u8 (byteAt s ((i : Nat) : Int)) 32) ≥ 97)) = true) ∧ True ∧ ((decide ((bitsOr .u8 (byteAt s ((i : Nat) : Int)) 32) ≥ 97)) = true) ∧ True ∧ ((decide ((bitsOr .u8 (byteAt s ((i : Nat) : Int)) 32) ≥ 97)) = true) ∧ True ∧ ((decide ((bitsOr .u8 (byteAt s ((i : Nat) : Int)) 32) ≤ 122)) = false) ∧ True ∧ ((decide ((bitsOr .u8 (byteAt s ((i : Nat) : Int)) 32) ≤ 122)) = false) ∧ True ∧ ((decide ((bitsOr .u8 (byteAt s ((i : Nat) : Int)) 32) ≤ 122)) = false) ∧ (0 ≤ ((i : Nat) : Int) ∧ ((i : Nat) : Int) < s.size) ∧ ((decide ((bitsOr .u8 (byteAt s ((i : Nat) : Int)) 32) ≤ 122)) = false) ∧ True ∧ ((decide ((bitsOr .u8 (byteAt s ((i : Nat) : Int)) 32) ≤ 122)) = false) ∧ True ∧ True)) ∧ (tr 3 (((!((byteAt s ((i : Nat) : Int)) == 95)) = true) ∧ True ∧ ((!((byteAt s ((i : Nat) : Int)) == 95)) = true) ∧ True ∧ ((!((byteAt s ((i : Nat) : Int)) == 95)) = true) ∧ True ∧ ((((i : Nat) : Int) == 0) = false) ∧ True ∧ ((((i : Nat) : Int) == 0) = false) ∧ True ∧ ((((i : Nat) : Int) == 0) = false) ∧ (0 ≤ ((i : Nat) : Int) ∧ ((i : Nat) : Int) < s.size) ∧ ((((i : Nat) : Int) == 0) = false) ∧ True ∧ ((!((byteAt s ((i : Nat) : Int)) == 95)) = true) ∧ ((((i : Nat) : Int) == 0) = false) ∧ ((!((byteAt s ((i : Nat) : Int)) == 95)) = true) ∧ True ∧ ((decide ((byteAt s ((i : Nat) : Int)) < 48)) = false) ∧ True ∧ ((decide ((byteAt s ((i : Nat) : Int)) < 48)) = false) ∧ True ∧ ((decide ((byteAt s ((i : Nat) : Int)) < 48)) = false) ∧ (0 ≤ ((i : Nat) : Int) ∧ ((i : Nat) : Int) < s.size) ∧ ((decide ((byteAt s ((i : Nat) : Int)) < 48)) = false) ∧ True ∧ ((!((byteAt s ((i : Nat) : Int)) == 95)) = true) ∧ ((decide ((byteAt s ((i : Nat) : Int)) < 48)) = false) ∧ ((!((byteAt s ((i : Nat) : Int)) == 95)) = true) ∧ True)) ∧ ((decide ((byteAt s ((i : Nat) : Int)) > 57)) = false) ∧ True) ∧ (InR .i64 (((i : Nat) : Int) + 1)) ∧ True ∧ True) (lv := .norm) (T' := [(0, vs s), (7, vi (s.size : Int)), (8, vi (((i : Nat) : Int) + 1))]) (B' := []) mix hI hs ?_ ?_ ?_ ?_
        ·exact ⟨trivial, trivial, trivial⟩
        ·kernel_rfl
        ·exact ⟨⟨trivial, trivial⟩, ⟨b1, trivial⟩, ⟨⟨trivial, trivial, trivial⟩, ⟨trivial, trivial, ⟨by omega, by omega⟩, trivial, trivial, trivial⟩, tr_mk (⟨b2, trivial, b2, trivial, b2, trivial, b3, trivial, b3, trivial, b3, ⟨by omega, by omega⟩, b3, trivial, b3, trivial, trivial⟩) 3, tr_mk (⟨(by rw [b4]; rfl), trivial, (by rw [b4]; rfl), trivial, (by rw [b4]; rfl), trivial, b5, trivial, b5, trivial, b5, ⟨by omega, by omega⟩, b5, trivial, (by rw [b4]; rfl), b5, (by rw [b4]; rfl), trivial, b6, trivial, b6, trivial, b6, ⟨by omega, by omega⟩, b6, trivial, (by rw [b4]; rfl), b6, (by rw [b4]; rfl), trivial⟩) 3, b7, trivial⟩, (inR64 (by omega) (by omega)), trivial, trivial⟩
        intro a w hs
        refine then_norm ⟨i + 1, ⟨by omega, fun j hj => by rcases Nat.lt_succ_iff_lt_or_eq.1 hj with h | rfl; exact hall j h; simp only [nameOk, b1, b2, b3, b4, b5, b6, b7]; rfl⟩, by omega, ?_⟩
        (have e0_ : (((i : Nat) : Int) + 1) = ((((i + 1) : Nat) : Int)) := (by first | rfl | (omega)); exact (SimL.cast hs (T' := [(0, vs s), (7, vi (s.size : Int)), (8, vi (((i + 1) : Nat) : Int))]) (B' := []) (by first | rfl | (rw [e0_]; done) | (simp only [e0_]; done) | (simp only [e0_]; rfl)) (by first | rfl | (rw [e0_]; done) | (simp only [e0_]; done) | (simp only [e0_]; rfl))).ren [] (by kernel_rfl) (by kernel_rfl) (by kernel_rfl))
  ·skip
   have n2 := of_decide_eq_false b2
   rcases Bool.eq_false_or_eq_true ((byteAt s ((i : Nat) : Int)) == 95) with b8 | b8
   ·skip
    have n8 := eq_of_beq b8
    refine way_L (tt := tt) (rs := [(5, ⟨[], [(3, false), (4, false), (1005, false), (7, true), (8, true), (9, true), (10, true), (1011, false)], []⟩), (6, ⟨[], [(3, false), (4, false), (5, false), (10, false), (11, false), (16, false), (1017, false)], []⟩)]) (bs := [true, false]) (tk := [0, 7, 8]) (bk := []) (C := (True ∧ True) ∧ (((decide (((i : Nat) : Int) < (s.size : Int))) = true) ∧ True) ∧ ((True ∧ True ∧ True) ∧ (True ∧ True ∧ (0 ≤ ((i : Nat) : Int) ∧ ((i : Nat) : Int) < s.size) ∧ True ∧ True ∧ True) ∧ (tr 3 (((decide ((bitsOr .u8 (byteAt s ((i : Nat) : Int)) 32) ≥ 97)) = false) ∧ ((decide ((bitsOr .u8 (byteAt s ((i : Nat) : Int)) 32) ≥ 97)) = false) ∧ ((decide ((bitsOr .u8 (byteAt s ((i : Nat) : Int)) 32) ≥ 97)) = false) ∧ True ∧ (false = false) ∧ True ∧ (false = false) ∧ True ∧ (false = false) ∧ (0 ≤ ((i : Nat) : Int) ∧ ((i : Nat) : Int) < s.size) ∧ (false = false) ∧ True ∧ (false = false) ∧ True ∧ True)) ∧ (tr 3 (((!((byteAt s ((i : Nat) : Int)) == 95)) = false) ∧ ((!((byteAt s ((i : Nat) : Int)) == 95)) = false) ∧ ((!((byteAt s ((i : Nat) : Int)) == 95)) = false) ∧ (tr 4 (((!((byteAt s ((i : Nat) : Int)) == 95)) = false) ∧ ((!((byteAt s ((i : Nat) : Int)) == 95)) = false) ∧ (tr 4 (((!((byteAt s ((i : Nat) : Int)) == 95)) = false) ∧ ((!((byteAt s ((i : Nat) : Int)) == 95)) = false) ∧ True)))))) ∧ (false = false) ∧ True) ∧ (InR .i64 (((i : Nat) : Int) + 1)) ∧ True ∧ True) (lv := .norm) (T' := [(0, vs s), (7, vi (s.size : Int)), (8, vi (((i : Nat) : Int) + 1))]) (B' := []) mix hI hs ?_ ?_ ?_ ?_
    ·exact ⟨trivial, trivial, trivial⟩
    ·kernel_rfl
    ·exact ⟨⟨trivial, trivial⟩, ⟨b1, trivial⟩, ⟨⟨trivial, trivial, trivial⟩, ⟨trivial, trivial, ⟨by omega, by omega⟩, trivial, trivial, trivial⟩, tr_mk (⟨b2, b2, b2, trivial, rfl, trivial, rfl, trivial, rfl, ⟨by omega, by omega⟩, rfl, trivial, rfl, trivial, trivial⟩) 3, tr_mk (⟨(by rw [b8]; rfl), (by rw [b8]; rfl), (by rw [b8]; rfl), tr_mk (⟨(by rw [b8]; rfl), (by rw [b8]; rfl), tr_mk (⟨(by rw [b8]; rfl), (by rw [b8]; rfl), trivial⟩) 4⟩) 4⟩) 3, rfl, trivial⟩, (inR64 (by omega) (by omega)), trivial, trivial⟩
    intro a w hs
    refine then_norm ⟨i + 1, ⟨by omega, fun j hj => by rcases Nat.lt_succ_iff_lt_or_eq.1 hj with h | rfl; exact hall j h; simp only [nameOk, b1, b2, b8]; rfl⟩, by omega, ?_⟩
    (have e0_ : (((i : Nat) : Int) + 1) = ((((i + 1) : Nat) : Int)) := (by first | rfl | (omega)); exact (SimL.cast hs (T' := [(0, vs s), (7, vi (s.size : Int)), (8, vi (((i + 1) : Nat) : Int))]) (B' := []) (by first | rfl | (rw [e0_]; done) | (simp only [e0_]; done) | (simp only [e0_]; rfl)) (by first | rfl | (rw [e0_]; done) | (simp only [e0_]; done) | (simp only [e0_]; rfl))).ren [] (by kernel_rfl) (by kernel_rfl) (by kernel_rfl))
   ·skip
    have n8 := beq_eq_false_iff_ne.1 b8
    rcases Bool.eq_false_or_eq_true (((i : Nat) : Int) == 0) with b9 | b9
    ·skip
     have n9 := eq_of_beq b9
     refine way_L (tt := tt) (rs := [(5, ⟨[], [(3, false), (4, false), (1005, false), (7, true), (8, true), (9, true), (10, true), (1011, false)], []⟩), (6, ⟨[], [(3, true), (4, true), (5, true), (6, false), (7, false), (8, false), (9, false), (10, true), (1010, true), (11, true), (12, false), (13, false), (14, false), (15, false), (16, true), (1016, true), (1017, true)], []⟩)]) (bs := [true, true]) (tk := [2]) (bk := []) (C := (True ∧ True) ∧ (((decide (((i : Nat) : Int) < (s.size : Int))) = true) ∧ True) ∧ (True ∧ True ∧ True) ∧ (True ∧ True ∧ (0 ≤ ((i : Nat) : Int) ∧ ((i : Nat) : Int) < s.size) ∧ True ∧ True ∧ True) ∧ (tr 3 (((decide ((bitsOr .u8 (byteAt s ((i : Nat) : Int)) 32) ≥ 97)) = false) ∧ ((decide ((bitsOr .u8 (byteAt s ((i : Nat) : Int)) 32) ≥ 97)) = false) ∧ ((decide ((bitsOr .u8 (byteAt s ((i : Nat) : Int)) 32) ≥ 97)) = false) ∧ True ∧ (false = false) ∧ True ∧ (false = false) ∧ True ∧ (false = false) ∧ (0 ≤ ((i : Nat) : Int) ∧ ((i : Nat) : Int) < s.size) ∧ (false = false) ∧ True ∧ (false = false) ∧ True ∧ True)) ∧ (tr 3 (((!((byteAt s ((i : Nat) : Int)) == 95)) = true) ∧ True ∧ ((!((byteAt s ((i : Nat) : Int)) == 95)) = true) ∧ True ∧ ((!((byteAt s ((i : Nat) : Int)) == 95)) = true) ∧ True ∧ ((((i : Nat) : Int) == 0) = true) ∧ ((((i : Nat) : Int) == 0) = true) ∧ ((((i : Nat) : Int) == 0) = true) ∧ ((((i : Nat) : Int) == 0) = true) ∧ ((!((byteAt s ((i : Nat) : Int)) == 95)) = true) ∧ ((((i : Nat) : Int) == 0) = true) ∧ ((!((byteAt s ((i : Nat) : Int)) == 95)) = true) ∧ True ∧ (true = true) ∧ (true = true) ∧ (true = true) ∧ (true = true) ∧ ((!((byteAt s ((i : Nat) : Int)) == 95)) = true) ∧ (true = true) ∧ ((!((byteAt s ((i : Nat) : Int)) == 95)) = true) ∧ True)) ∧ (true = true) ∧ (True ∧ True) ∧ True) (lv := .ret) (T' := [(2, vb false)]) (B' := []) mix hI hs ?_ ?_ ?_ ?_
     ·exact ⟨trivial, trivial, trivial⟩
     ·kernel_rfl
     ·exact ⟨⟨trivial, trivial⟩, ⟨b1, trivial⟩, ⟨trivial, trivial, trivial⟩, ⟨trivial, trivial, ⟨by omega, by omega⟩, trivial, trivial, trivial⟩, tr_mk (⟨b2, b2, b2, trivial, rfl, trivial, rfl, trivial, rfl, ⟨by omega, by omega⟩, rfl, trivial, rfl, trivial, trivial⟩) 3, tr_mk (⟨(by rw [b8]; rfl), trivial, (by rw [b8]; rfl), trivial, (by rw [b8]; rfl), trivial, b9, b9, b9, b9, (by rw [b8]; rfl), b9, (by rw [b8]; rfl), trivial, rfl, rfl, rfl, rfl, (by rw [b8]; rfl), rfl, (by rw [b8]; rfl), trivial⟩) 3, rfl, ⟨trivial, trivial⟩, trivial⟩
     intro a w hs
     refine then_ret ?_
     refine inb_ret ?_
     refine then_ret ?_
     exact FnQ_cast (out := .val (vb false)) (by rw [nameF_no (s := s) (i := i) (by omega) (by simp only [nameOk, b1, b2, b8, b9]; rfl)]) (ret_ok [] hs ⟨by kernel_rfl, rfl⟩)
    ·skip
     have n9 := beq_eq_false_iff_ne.1 b9
     rcases Bool.eq_false_or_eq_true (decide ((byteAt s ((i : Nat) : Int)) < 48)) with b10 | b10
     ·skip
      have n10 := of_decide_eq_true b10
      refine way_L (tt := tt) (rs := [(5, ⟨[], [(3, false), (4, false), (1005, false), (7, true), (8, true), (9, true), (10, true), (1011, false)], []⟩), (6, ⟨[], [(3, true), (4, true), (5, true), (6, true), (7, true), (8, true), (9, true), (10, true), (1010, false), (11, true), (12, false), (13, false), (14, false), (15, false), (16, true), (1016, true), (1017, true)], []⟩)]) (bs := [true, true]) (tk := [2]) (bk := []) (C := (True ∧ True) ∧ (((decide (((i : Nat) : Int) < (s.size : Int))) = true) ∧ True) ∧ (True ∧ True ∧ True) ∧ (True ∧ True ∧ (0 ≤ ((i : Nat) : Int) ∧ ((i : Nat) : Int) < s.size) ∧ True ∧ True ∧ True) ∧ (tr 3 (((decide ((bitsOr .u8 (byteAt s ((i : Nat) : Int)) 32) ≥ 97)) = false) ∧ ((decide ((bitsOr .u8 (byteAt s ((i : Nat) : Int)) 32) ≥ 97)) = false) ∧ ((decide ((bitsOr .u8 (byteAt s ((i : Nat) : Int)) 32) ≥ 97)) = false) ∧ True ∧ (false = false) ∧ True ∧ (false = false) ∧ True ∧ (false = false) ∧ (0 ≤ ((i : Nat) : Int) ∧ ((i : Nat) : Int) < s.size) ∧ (false = false) ∧ True ∧ (false = false) ∧ True ∧ True)) ∧ (tr 3 (((!((byteAt s ((i : Nat) : Int)) == 95)) = true) ∧ True ∧ ((!((byteAt s ((i : Nat) : Int)) == 95)) = true) ∧ True ∧ ((!((byteAt s ((i : Nat) : Int)) == 95)) = true) ∧ True ∧ ((((i : Nat) : Int) == 0) = false) ∧ True ∧ ((((i : Nat) : Int) == 0) = false) ∧ True ∧ ((((i : Nat) : Int) == 0) = false) ∧ (0 ≤ ((i : Nat) : Int) ∧ ((i : Nat) : Int) < s.size) ∧ ((((i : Nat) : Int) == 0) = false) ∧ True ∧ ((!((byteAt s ((i : Nat) : Int)) == 95)) = true) ∧ ((((i : Nat) : Int) == 0) = false) ∧ ((!((byteAt s ((i : Nat) : Int)) == 95)) = true) ∧ True ∧ ((decide ((byteAt s ((i : Nat) : Int)) < 48)) = true) ∧ ((decide ((byteAt s ((i : Nat) : Int)) < 48)) = true) ∧ ((decide ((byteAt s ((i : Nat) : Int)) < 48)) = true) ∧ ((decide ((byteAt s ((i : Nat) : Int)) < 48)) = true) ∧ ((!((byteAt s ((i : Nat) : Int)) == 95)) = true) ∧ ((decide ((byteAt s ((i : Nat) : Int)) < 48)) = true) ∧ ((!((byteAt s ((i : Nat) : Int)) == 95)) = true) ∧ True)) ∧ (true = true) ∧ (True ∧ True) ∧ True) (lv := .ret) (T' := [(2, vb false)]) (B' := []) mix hI hs ?_ ?_ ?_ ?_
      ·exact ⟨trivial, trivial, trivial⟩
      ·kernel_rfl
      ·exact ⟨⟨trivial, trivial⟩, ⟨b1, trivial⟩, ⟨trivial, trivial, trivial⟩, ⟨trivial, trivial, ⟨by omega, by omega⟩, trivial, trivial, trivial⟩, tr_mk (⟨b2, b2, b2, trivial, rfl, trivial, rfl, trivial, rfl, ⟨by omega, by omega⟩, rfl, trivial, rfl, trivial, trivial⟩) 3, tr_mk (⟨(by rw [b8]; rfl), trivial, (by rw [b8]; rfl), trivial, (by rw [b8]; rfl), trivial, b9, trivial, b9, trivial, b9, ⟨by omega, by omega⟩, b9, trivial, (by rw [b8]; rfl), b9, (by rw [b8]; rfl), trivial, b10, b10, b10, b10, (by rw [b8]; rfl), b10, (by rw [b8]; rfl), trivial⟩) 3, rfl, ⟨trivial, trivial⟩, trivial⟩
      intro a w hs
      refine then_ret ?_
      refine inb_ret ?_
      refine then_ret ?_
      exact FnQ_cast (out := .val (vb false)) (by rw [nameF_no (s := s) (i := i) (by omega) (by simp only [nameOk, b1, b2, b8, b9, b10]; rfl)]) (ret_ok [] hs ⟨by kernel_rfl, rfl⟩)
     ·skip
      have n10 := of_decide_eq_false b10
      rcases Bool.eq_false_or_eq_true (decide ((byteAt s ((i : Nat) : Int)) > 57)) with b11 | b11
      ·skip
       have n11 := of_decide_eq_true b11
       refine way_L (tt := tt) (rs := [(5, ⟨[], [(3, false), (4, false), (1005, false), (7, true), (8, true), (9, true), (10, true), (1011, false)], []⟩), (6, ⟨[], [(3, true), (4, true), (5, true), (6, true), (7, true), (8, true), (9, true), (10, true), (1010, false), (11, true), (12, true), (13, true), (14, true), (15, true), (16, true), (1016, false), (1017, true)], []⟩)]) (bs := [true, true]) (tk := [2]) (bk := []) (C := (True ∧ True) ∧ (((decide (((i : Nat) : Int) < (s.size : Int))) = true) ∧ True) ∧ (True ∧ True ∧ True) ∧ (True ∧ True ∧ (0 ≤ ((i : Nat) : Int) ∧ ((i : Nat) : Int) < s.size) ∧ True ∧ True ∧ True) ∧ (tr 3 (((decide ((bitsOr .u8 (byteAt s ((i : Nat) : Int)) 32) ≥ 97)) = false) ∧ ((decide ((bitsOr .u8 (byteAt s ((i : Nat) : Int)) 32) ≥ 97)) = false) ∧ ((decide ((bitsOr .u8 (byteAt s ((i : Nat) : Int)) 32) ≥ 97)) = false) ∧ True ∧ (false = false) ∧ True ∧ (false = false) ∧ True ∧ (false = false) ∧ (0 ≤ ((i : Nat) : Int) ∧ ((i : Nat) : Int) < s.size) ∧ (false = false) ∧ True ∧ (false = false) ∧ True ∧ True)) ∧ (tr 3 (((!((byteAt s ((i : Nat) : Int)) == 95)) = true) ∧ True ∧ ((!((byteAt s ((i : Nat) : Int)) == 95)) = true) ∧ True ∧ ((!((byteAt s ((i : Nat) : Int)) == 95)) = true) ∧ True ∧ ((((i : Nat) : Int) == 0) = false) ∧ True ∧ ((((i : Nat) : Int) == 0) = false) ∧ True ∧ ((((i : Nat) : Int) == 0) = false) ∧ (0 ≤ ((i : Nat) : Int) ∧ ((i : Nat) : Int) < s.size) ∧ ((((i : Nat) : Int) == 0) = false) ∧ True ∧ ((!((byteAt s ((i : Nat) : Int)) == 95)) = true) ∧ ((((i : Nat) : Int) == 0) = false) ∧ ((!((byteAt s ((i : Nat) : Int)) == 95)) = true) ∧ True ∧ ((decide ((byteAt s ((i : Nat) : Int)) < 48)) = false) ∧ True ∧ ((decide ((byteAt s ((i : Nat) : Int)) < 48)) = false) ∧ True ∧ ((decide ((byteAt s ((i : Nat) : Int)) < 48)) = false) ∧ (0 ≤ ((i : Nat) : Int) ∧ ((i : Nat) : Int) < s.size) ∧ ((decide ((byteAt s ((i : Nat) : Int)) < 48)) = false) ∧ True ∧ ((!((byteAt s ((i : Nat) : Int)) == 95)) = true) ∧ ((decide ((byteAt s ((i : Nat) : Int)) < 48)) = false) ∧ ((!((byteAt s ((i : Nat) : Int)) == 95)) = true) ∧ True)) ∧ ((decide ((byteAt s ((i : Nat) : Int)) > 57)) = true) ∧ (True ∧ True) ∧ True) (lv := .ret) (T' := [(2, vb false)]) (B' := []) mix hI hs ?_ ?_ ?_ ?_
       ·exact ⟨trivial, trivial, trivial⟩
       ·kernel_rfl
       ·exact ⟨⟨trivial, trivial⟩, ⟨b1, trivial⟩, ⟨trivial, trivial, trivial⟩, ⟨trivial, trivial, ⟨by omega, by omega⟩, trivial, trivial, trivial⟩, tr_mk (⟨b2, b2, b2, trivial, rfl, trivial, rfl, trivial, rfl, ⟨by omega, by omega⟩, rfl, trivial, rfl, trivial, trivial⟩) 3, tr_mk (⟨(by rw [b8]; rfl), trivial, (by rw [b8]; rfl), trivial, (by rw [b8]; rfl), trivial, b9, trivial, b9, trivial, b9, ⟨by omega, by omega⟩, b9, trivial, (by rw [b8]; rfl), b9, (by rw [b8]; rfl), trivial, b10, trivial, b10, trivial, b10, ⟨by omega, by omega⟩, b10, trivial, (by rw [b8]; rfl), b10, (by rw [b8]; rfl), trivial⟩) 3, b11, ⟨trivial, trivial⟩, trivial⟩
       intro a w hs
       refine then_ret ?_
       refine inb_ret ?_
       refine then_ret ?_
       exact FnQ_cast (out := .val (vb false)) (by rw [nameF_no (s := s) (i := i) (by omega) (by simp only [nameOk, b1, b2, b8, b9, b10, b11]; rfl)]) (ret_ok [] hs ⟨by kernel_rfl, rfl⟩)
      ·skip
       have n11 := of_decide_eq_false b11
       refine way_L (tt := tt) (rs := [(5, ⟨[], [(3, false), (4, false), (1005, false), (7, true), (8, true), (9, true), (10, true), (1011, false)], []⟩), (6, ⟨[], [(3, true), (4, true), (5, true), (6, true), (7, true), (8, true), (9, true), (10, true), (1010, false), (11, true), (12, true), (13, true), (14, true), (15, true), (16, true), (1016, false), (1017, true)], []⟩)]) (bs := [true, false]) (tk := [0, 7, 8]) (bk := []) (C := (True ∧ True) ∧ (((decide (((i : Nat) : Int) < (s.size : Int))) = true) ∧ True) ∧ ((True ∧ True ∧ True) ∧ (True ∧ True ∧ (0 ≤ ((i : Nat) : Int) ∧ ((i : Nat) : Int) < s.size) ∧ True ∧ True ∧ True) ∧ (tr 3 (((decide ((bitsOr .u8 (byteAt s ((i : Nat) : Int)) 32) ≥ 97)) = false) ∧ ((decide ((bitsOr .u8 (byteAt s ((i : Nat) : Int)) 32) ≥ 97)) = false) ∧ ((decide ((bitsOr .u8 (byteAt s ((i : Nat) : Int)) 32) ≥ 97)) = false) ∧ True ∧ (false = false) ∧ True ∧ (false = false) ∧ True ∧ (false = false) ∧ (0 ≤ ((i : Nat) : Int) ∧ ((i : Nat) : Int) < s.size) ∧ (false = false) ∧ True ∧ (false = false) ∧ True ∧ True)) ∧ (tr 3 (((!((byteAt s ((i : Nat) : Int)) == 95)) = true) ∧ True ∧ ((!((byteAt s ((i : Nat) : Int)) == 95)) = true) ∧ True ∧ ((!((byteAt s ((i : Nat) : Int)) == 95)) = true) ∧ True ∧ ((((i : Nat) : Int) == 0) = false) ∧ True ∧ ((((i : Nat) : Int) == 0) = false) ∧ True ∧ ((((i : Nat) : Int) == 0) = false) ∧ (0 ≤ ((i : Nat) : Int) ∧ ((i : Nat) : Int) < s.size) ∧ ((((i : Nat) : Int) == 0) = false) ∧ True ∧ ((!((byteAt s ((i : Nat) : Int)) == 95)) = true) ∧ ((((i : Nat) : Int) == 0) = false) ∧ ((!((byteAt s ((i : Nat) : Int)) == 95)) = true) ∧ True ∧ ((decide ((byteAt s ((i : Nat) : Int)) < 48)) = false) ∧ True ∧ ((decide ((byteAt s ((i : Nat) : Int)) < 48)) = false) ∧ True ∧ ((decide ((byteAt s ((i : Nat) : Int)) < 48)) = false) ∧ (0 ≤ ((i : Nat) : Int) ∧ ((i : Nat) : Int) < s.size) ∧ ((decide ((byteAt s ((i : Nat) : Int)) < 48)) = false) ∧ True ∧ ((!((byteAt s ((i : Nat) : Int)) == 95)) = true) ∧ ((decide ((byteAt s ((i : Nat) : Int)) < 48)) = false) ∧ ((!((byteAt s ((i : Nat) : Int)) == 95)) = true) ∧ True)) ∧ ((decide ((byteAt s ((i : Nat) : Int)) > 57)) = false) ∧ True) ∧ (InR .i64 (((i : Nat) : Int) + 1)) ∧ True ∧ True) (lv := .norm) (T' := [(0, vs s), (7, vi (s.size : Int)), (8, vi (((i : Nat) : Int) + 1))]) (B' := []) mix hI hs ?_ ?_ ?_ ?_
       ·exact ⟨trivial, trivial, trivial⟩
       ·kernel_rfl
       ·exact ⟨⟨trivial, trivial⟩, ⟨b1, trivial⟩, ⟨⟨trivial, trivial, trivial⟩, ⟨trivial, trivial, ⟨by omega, by omega⟩, trivial, trivial, trivial⟩, tr_mk (⟨b2, b2, b2, trivial, rfl, trivial, rfl, trivial, rfl, ⟨by omega, by omega⟩, rfl, trivial, rfl, trivial, trivial⟩) 3, tr_mk (⟨(by rw [b8]; rfl), trivial, (by rw [b8]; rfl), trivial, (by rw [b8]; rfl), trivial, b9, trivial, b9, trivial, b9, ⟨by omega, by omega⟩, b9, trivial, (by rw [b8]; rfl), b9, (by rw [b8]; rfl), trivial, b10, trivial, b10, trivial, b10, ⟨by omega, by omega⟩, b10, trivial, (by rw [b8]; rfl), b10, (by rw [b8]; rfl), trivial⟩) 3, b11, trivial⟩, (inR64 (by omega) (by omega)), trivial, trivial⟩
       intro a w hs
       refine then_norm ⟨i + 1, ⟨by omega, fun j hj => by rcases Nat.lt_succ_iff_lt_or_eq.1 hj with h | rfl; exact hall j h; simp only [nameOk, b1, b2, b8, b9, b10, b11]; rfl⟩, by omega, ?_⟩
       (have e0_ : (((i : Nat) : Int) + 1) = ((((i + 1) : Nat) : Int)) := (by first | rfl | (omega)); exact (SimL.cast hs (T' := [(0, vs s), (7, vi (s.size : Int)), (8, vi (((i + 1) : Nat) : Int))]) (B' := []) (by first | rfl | (rw [e0_]; done) | (simp only [e0_]; done) | (simp only [e0_]; rfl)) (by first | rfl | (rw [e0_]; done) | (simp only [e0_]; done) | (simp only [e0_]; rfl))).ren [] (by kernel_rfl) (by kernel_rfl) (by kernel_rfl))
 ·skip
  have n1 := of_decide_eq_false b1
  refine way_L (tt := tt) (rs := []) (bs := [false]) (tk := [0]) (bk := []) (C := (True ∧ True) ∧ ((decide (((i : Nat) : Int) < (s.size : Int))) = false) ∧ True) (lv := .exit 0) (T' := [(0, vs s)]) (B' := []) mix hI hs ?_ ?_ ?_ ?_
  ·exact trivial
  ·kernel_rfl
  ·exact ⟨⟨trivial, trivial⟩, b1, trivial⟩
  intro a w hs
  refine then_exit ?_
  refine inb_hit ?_
  refine then_norm ?_
  rcases Bool.eq_false_or_eq_true (s.toList == (ba []).toList) with b12 | b12
  ·skip
   have n12 := eq_of_beq b12
   refine way_L (tt := tt) (rs := [(9, ⟨[], [(3, false), (4, false), (5, false), (1006, false)], []⟩)]) (bs := []) (tk := [2]) (bk := []) (C := (tr 3 (((!(s.toList == (ba []).toList)) = false) ∧ ((!(s.toList == (ba []).toList)) = false) ∧ ((!(s.toList == (ba []).toList)) = false) ∧ ((!(s.toList == (ba []).toList)) = false) ∧ True ∧ True)) ∧ True) (lv := .ret) (T' := [(2, vb false)]) (B' := []) mix hI hs ?_ ?_ ?_ ?_
   ·exact ⟨trivial, trivial⟩
   ·kernel_rfl
   ·exact ⟨tr_mk (⟨(by rw [b12]; rfl), (by rw [b12]; rfl), (by rw [b12]; rfl), (by rw [b12]; rfl), trivial, trivial⟩) 3, trivial⟩
   intro a w hs
   exact FnQ_cast (out := .val (vb false)) (by rw [nameF_yes (s := s) (fun j hj => hall j (by omega)), ← ba_nil_ne]; simp only [b1, b12]; try rfl) (ret_ok [] hs ⟨by kernel_rfl, rfl⟩)
  ·skip
   have n12 := beq_eq_false_iff_ne.1 b12
   refine way_L (tt := tt) (rs := [(9, ⟨[], [(3, true), (4, true), (5, true), (1006, true)], []⟩)]) (bs := []) (tk := [2]) (bk := []) (C := (tr 3 (((!(s.toList == (ba []).toList)) = true) ∧ True ∧ ((!(s.toList == (ba []).toList)) = true) ∧ True ∧ ((!(s.toList == (ba []).toList)) = true) ∧ True ∧ ((!(s.toList == (ba []).toList)) = true) ∧ True ∧ True)) ∧ True) (lv := .ret) (T' := [(2, vb (decide ((s.size : Int) ≤ 2000)))]) (B' := []) mix hI hs ?_ ?_ ?_ ?_
   ·exact ⟨trivial, trivial⟩
   ·kernel_rfl
   ·exact ⟨tr_mk (⟨(by rw [b12]; rfl), trivial, (by rw [b12]; rfl), trivial, (by rw [b12]; rfl), trivial, (by rw [b12]; rfl), trivial, trivial⟩) 3, trivial⟩
   intro a w hs
   exact FnQ_cast (out := .val (vb (decide ((s.size : Int) ≤ 2000)))) (by rw [nameF_yes (s := s) (fun j hj => hall j (by omega)), ← ba_nil_ne]; simp only [b1, b12]; try rfl) (ret_ok [] hs ⟨by kernel_rfl, rfl⟩)
end Go.Proofs.YtondpnipoogoiaaGreatDoor.F
namespace Go.Proofs.YtondpnipoogoiaaGreatDoor.F
open Go Go.RowKit Go.Proofs.Tryz
set_option linter.unusedVariables false
set_option linter.unusedSimpArgs false
def idxF {α : Type} (q : α → Bool) : List α → Int
  | [] => -1
  | x :: l => if q x = true then 0 else if idxF q l < 0 then -1 else idxF q l + 1
theorem idxF_no {α : Type} {q : α → Bool} : ∀ {l : List α}, (∀ j, j < l.length → ∀ d, q (l.getD j d) = false) → idxF q l = -1
  | [], _ => rfl
  | x :: l, h => by
    have h0 : q x = false := h 0 (by simp) x
    have h1 := idxF_no (l := l) (fun j hj d => h (j + 1) (by simpa using hj) d)
    simp [idxF, h0, h1]
theorem idxF_at {α : Type} {q : α → Bool} : ∀ {l : List α} {i : Nat} (d : α), i < l.length → q (l.getD i d) = true → (∀ j, j < i → ∀ d, q (l.getD j d) = false) → idxF q l = (i : Int)
  | [], _, _, h, _, _ => by simp at h
  | x :: l, 0, d, h, hq, _ => by
    have hq' : q x = true := hq
    simp [idxF, hq']
  | x :: l, i + 1, d, h, hq, hn => by
    have h0 : q x = false := hn 0 (by omega) x
    have h1 := idxF_at (l := l) (i := i) d (by simpa using h) hq (fun j hj d => hn (j + 1) (by omega) d)
    simp only [idxF, h0, h1]
    rw [if_neg (by decide), if_neg (by omega)]
    omega
theorem idxF_any {α : Type} (q : α → Bool) : ∀ l : List α, decide (idxF q l ≥ 0) = l.any q
  | [] => rfl
  | x :: l => by
    have h1 := idxF_any q l
    by_cases hq : q x = true
    · have e : idxF q (x :: l) = 0 := by simp [idxF, hq]
      rw [decide_eq_true (by omega), List.any_cons, hq]; rfl
    · have hq' : q x = false := by simpa using hq
      by_cases hn : idxF q l < 0
      · have e : idxF q (x :: l) = -1 := by simp [idxF, hq', hn]
        rw [List.any_cons, ← h1, hq', decide_eq_false (by omega), decide_eq_false (by omega)]; rfl
      · have e : idxF q (x :: l) = idxF q l + 1 := by simp [idxF, hq', hn]
        rw [List.any_cons, ← h1, hq', decide_eq_true (by omega), decide_eq_true (by omega)]; rfl
theorem getD_mem {α : Type} {l : List α} {i : Nat} (h : i < l.length) (d : α) : l.getD i d ∈ l := by
  rw [List.getD_eq_getElem?_getD, List.getElem?_eq_getElem h]; exact List.getElem_mem h
theorem getD_any {α : Type} {l : List α} {i : Nat} (h : i < l.length) (d d' : α) : l.getD i d = l.getD i d' := by
  rw [List.getD_eq_getElem?_getD, List.getD_eq_getElem?_getD, List.getElem?_eq_getElem h]; rfl
def small (s : ByteArray) : Prop := s.size < 4294967281
def badPath (p : List ByteArray) : Bool := ((p.length : Int) == 0) || (decide ((p.length : Int) > 63) || p.any fun n => !nameF n)
def checkF (l : List (List ByteArray)) : Bool := decide ((l.length : Int) ≤ 60) && !(l.any badPath)
set_option maxRecDepth 100000 in
theorem con84 (s : ByteArray) (hs0 : s.size < 4294967281) : Con Tryz.prog I0 84 [vs s] (.val (vb (!nameF s))) := by
 refine con_of Tryz.func84 rfl (Nat.le_of_ble_eq_true rfl) stab (fun w0 fz a hI hs => ?_)
 refine way_L (tt := tt) (rs := [(1, ⟨[(1, ciA 37 [vs s] [] [] (.val (vb (nameF s))))], [], []⟩)]) (bs := []) (tk := [2]) (bk := []) (C := (True ∧ True) ∧ (True ∧ (okArgs [vs s]) ∧ True ∧ True ∧ True) ∧ True) (lv := .ret) (T' := [(2, vb (!(nameF s)))]) (B' := []) mix hI hs ?_ ?_ ?_ ?_
 ·exact ⟨⟨⟨ent37, con37 _ (by assumption)⟩, trivial⟩, trivial⟩
 ·kernel_rfl
 ·exact ⟨⟨trivial, trivial⟩, ⟨trivial, rfl, trivial, trivial, trivial⟩, trivial⟩
 intro a w hs
 exact FnQ_cast (out := .val (vb (!(nameF s)))) (rfl) (ret_ok [] hs ⟨by kernel_rfl, rfl⟩)
set_option maxRecDepth 100000 in
theorem con91 (s : ByteArray) (hs0 : s.size < 4294967281) : Con Tryz.prog I0 91 [vs s] (.val (vb (!nameF s))) := by
 refine con_of Tryz.func91 rfl (Nat.le_of_ble_eq_true rfl) stab (fun w0 fz a hI hs => ?_)
 refine way_L (tt := tt) (rs := [(1, ⟨[(1, ciA 37 [vs s] [] [] (.val (vb (nameF s))))], [], []⟩)]) (bs := []) (tk := [2]) (bk := []) (C := (True ∧ True) ∧ (True ∧ (okArgs [vs s]) ∧ True ∧ True ∧ True) ∧ True) (lv := .ret) (T' := [(2, vb (!(nameF s)))]) (B' := []) mix hI hs ?_ ?_ ?_ ?_
 ·exact ⟨⟨⟨ent37, con37 _ (by assumption)⟩, trivial⟩, trivial⟩
 ·kernel_rfl
 ·exact ⟨⟨trivial, trivial⟩, ⟨trivial, rfl, trivial, trivial, trivial⟩, trivial⟩
 intro a w hs
 exact FnQ_cast (out := .val (vb (!(nameF s)))) (rfl) (ret_ok [] hs ⟨by kernel_rfl, rfl⟩)
set_option maxRecDepth 100000 in
theorem con140_84 (xs : List ByteArray) (hxs : ∀ x ∈ xs, small x) (hlen : xs.length < 4294967281) : Con Tryz.prog I0 140 [.row .str xs, .lit (.func (.func 84) #[] #[])] (.val (vi (idxF (fun n => !nameF n) xs))) := by
 refine con_of Tryz.func140 rfl (Nat.le_of_ble_eq_true rfl) stab (fun w0 fz a hI hs => ?_)
 refine wp_seq ?_
 refine way_L (tt := tt) (rs := []) (bs := []) (tk := [0, 1]) (bk := []) (C := True ∧ True) (lv := .norm) (T' := [(0, .row .str xs), (1, .lit (.func (.func 84) #[] #[]))]) (B' := []) mix hI hs ?_ ?_ ?_ ?_
 ·exact trivial
 ·kernel_rfl
 ·exact ⟨trivial, trivial⟩
 intro a w hs
 refine then_norm ?_
 refine wp_seq ?_
 refine wp_seq ?_
 refine way_L (tt := tt) (rs := []) (bs := []) (tk := [0, 1, 7, 8]) (bk := []) (C := tr 3 True) (lv := .norm) (T' := [(0, .row .str xs), (1, .lit (.func (.func 84) #[] #[])), (7, vi (xs.length : Int)), (8, vi 0)]) (B' := []) mix hI hs ?_ ?_ ?_ ?_
 ·exact trivial
 ·kernel_rfl
 ·exact tr_mk trivial 3
 intro a w hs
 refine then_norm ?_
 refine wp_block ?_
 refine loop_L (N := Tryz.f140.ntmps) (w0 := w0) (ow := noO fz) (α := Nat) (fun p => [(0, .row .str xs), (1, .lit (.func (.func 84) #[] #[])), (7, vi (xs.length : Int)), (8, vi ((p : Nat) : Int))]) (fun p => []) (fun p => p ≤ xs.length ∧ ∀ j, j < p → ∀ d, (fun n => !nameF n) (xs.getD j d) = false) (fun p => xs.length - p) 0 ?_ ?_ ?_
 ·exact ⟨Nat.zero_le _, fun j hj => absurd hj (Nat.not_lt_zero _)⟩
 ·(have e0_ : (0) = (((0 : Nat) : Int)) := (by first | rfl | (rfl)); exact (SimL.cast hs (T' := [(0, .row .str xs), (1, .lit (.func (.func 84) #[] #[])), (7, vi (xs.length : Int)), (8, vi ((0 : Nat) : Int))]) (B' := []) (by first | rfl | (rw [e0_]; done) | (simp only [e0_]; done) | (simp only [e0_]; rfl)) (by first | rfl | (rw [e0_]; done) | (simp only [e0_]; done) | (simp only [e0_]; rfl))).ren [] (by kernel_rfl) (by kernel_rfl) (by kernel_rfl))
 rintro i hJ a w hs
 obtain ⟨hi, hall⟩ := hJ
 rcases Bool.eq_false_or_eq_true (decide (((i : Nat) : Int) < (xs.length : Int))) with b1 | b1
 ·skip
  have n1 := of_decide_eq_true b1
  rcases Bool.eq_false_or_eq_true (!nameF (xs.getD i (dflt .str))) with b2 | b2
  ·skip
   refine way_L (tt := tt) (rs := [(4, ⟨[(5, ciA 84 [vs (xs.getD i (dflt .str))] [] [] (.val (vb (!nameF (xs.getD i (dflt .str))))))], [], []⟩)]) (bs := [true, true]) (tk := [4]) (bk := []) (C := (True ∧ True) ∧ (((decide (((i : Nat) : Int) < (xs.length : Int))) = true) ∧ True) ∧ (True ∧ True ∧ True) ∧ (tr 3 ((0 ≤ ((i : Nat) : Int) ∧ ((i : Nat) : Int) < xs.length) ∧ True ∧ (okArgs [vs (xs.getD i (dflt .str))]) ∧ True)) ∧ ((!nameF (xs.getD i (dflt .str))) = true) ∧ (True ∧ True ∧ True) ∧ True) (lv := .ret) (T' := [(4, vi ((i : Nat) : Int))]) (B' := []) mix hI hs ?_ ?_ ?_ ?_
   ·exact ⟨⟨⟨ent84, con84 _ (hxs _ (getD_mem (by omega) _))⟩, trivial⟩, trivial⟩
   ·kernel_rfl
   ·exact ⟨⟨trivial, trivial⟩, ⟨b1, trivial⟩, ⟨trivial, trivial, trivial⟩, tr_mk (⟨⟨by omega, by omega⟩, trivial, rfl, trivial⟩) 3, b2, ⟨trivial, trivial, trivial⟩, trivial⟩
   intro a w hs
   refine then_ret ?_
   refine inb_ret ?_
   refine then_ret ?_
   exact FnQ_cast (out := .val (vi ((i : Nat) : Int))) (by rw [idxF_at (q := (fun n => !nameF n)) (i := i) (dflt .str) (by omega) (by first | exact b2 | (simp only [b2]; rfl)) (fun j hj d => hall j hj d)]) (ret_ok [] hs ⟨by kernel_rfl, rfl⟩)
  ·skip
   refine way_L (tt := tt) (rs := [(4, ⟨[(5, ciA 84 [vs (xs.getD i (dflt .str))] [] [] (.val (vb (!nameF (xs.getD i (dflt .str))))))], [], []⟩)]) (bs := [true, false]) (tk := [0, 1, 7, 8]) (bk := []) (C := (True ∧ True) ∧ (((decide (((i : Nat) : Int) < (xs.length : Int))) = true) ∧ True) ∧ ((True ∧ True ∧ True) ∧ (tr 3 ((0 ≤ ((i : Nat) : Int) ∧ ((i : Nat) : Int) < xs.length) ∧ True ∧ (okArgs [vs (xs.getD i (dflt .str))]) ∧ True)) ∧ ((!nameF (xs.getD i (dflt .str))) = false) ∧ True) ∧ (InR .i64 (((i : Nat) : Int) + 1)) ∧ True ∧ True) (lv := .norm) (T' := [(0, .row .str xs), (1, .lit (.func (.func 84) #[] #[])), (7, vi (xs.length : Int)), (8, vi (((i : Nat) : Int) + 1))]) (B' := []) mix hI hs ?_ ?_ ?_ ?_
   ·exact ⟨⟨⟨ent84, con84 _ (hxs _ (getD_mem (by omega) _))⟩, trivial⟩, trivial⟩
   ·kernel_rfl
   ·exact ⟨⟨trivial, trivial⟩, ⟨b1, trivial⟩, ⟨⟨trivial, trivial, trivial⟩, tr_mk (⟨⟨by omega, by omega⟩, trivial, rfl, trivial⟩) 3, b2, trivial⟩, (inR64 (by omega) (by omega)), trivial, trivial⟩
   intro a w hs
   refine then_norm ⟨i + 1, ⟨by omega, fun j hj d => by rcases Nat.lt_succ_iff_lt_or_eq.1 hj with h | h; exact hall j h d; subst h; rw [getD_any (by omega) d (dflt .str)]; exact b2⟩, by omega, ?_⟩
   (have e0_ : (((i : Nat) : Int) + 1) = ((((i + 1) : Nat) : Int)) := (by first | rfl | (omega)); exact (SimL.cast hs (T' := [(0, .row .str xs), (1, .lit (.func (.func 84) #[] #[])), (7, vi (xs.length : Int)), (8, vi (((i + 1) : Nat) : Int))]) (B' := []) (by first | rfl | (rw [e0_]; done) | (simp only [e0_]; done) | (simp only [e0_]; rfl)) (by first | rfl | (rw [e0_]; done) | (simp only [e0_]; done) | (simp only [e0_]; rfl))).ren [] (by kernel_rfl) (by kernel_rfl) (by kernel_rfl))
 ·skip
  have n1 := of_decide_eq_false b1
  refine way_L (tt := tt) (rs := []) (bs := [false]) (tk := []) (bk := []) (C := (True ∧ True) ∧ ((decide (((i : Nat) : Int) < (xs.length : Int))) = false) ∧ True) (lv := .exit 0) (T' := []) (B' := []) mix hI hs ?_ ?_ ?_ ?_
  ·exact trivial
  ·kernel_rfl
  ·exact ⟨⟨trivial, trivial⟩, b1, trivial⟩
  intro a w hs
  refine then_exit ?_
  refine inb_hit ?_
  refine then_norm ?_
  refine way_L (tt := tt) (rs := []) (bs := []) (tk := [4]) (bk := []) (C := (True ∧ True) ∧ True) (lv := .ret) (T' := [(4, vi (-1))]) (B' := []) mix hI hs ?_ ?_ ?_ ?_
  ·exact trivial
  ·kernel_rfl
  ·exact ⟨⟨trivial, trivial⟩, trivial⟩
  intro a w hs
  exact FnQ_cast (out := .val (vi (-1))) (by rw [idxF_no (q := (fun n => !nameF n)) (fun j hj d => hall j (by omega) d)]) (ret_ok [] hs ⟨by kernel_rfl, rfl⟩)
set_option maxRecDepth 100000 in
theorem con83_84 (xs : List ByteArray) (hxs : ∀ x ∈ xs, small x) (hlen : xs.length < 4294967281) : Con Tryz.prog I0 83 [.row .str xs, .lit (.func (.func 84) #[] #[])] (.val (vb (xs.any (fun n => !nameF n)))) := by
 refine con_of Tryz.func83 rfl (Nat.le_of_ble_eq_true rfl) stab (fun w0 fz a hI hs => ?_)
 refine way_L (tt := tt) (rs := [(1, ⟨[(2, ciA 140 [.row .str xs, .lit (.func (.func 84) #[] #[])] [] [] (.val (vi (idxF (fun n => !nameF n) xs))))], [], []⟩)]) (bs := []) (tk := [4]) (bk := []) (C := (True ∧ True) ∧ (True ∧ True ∧ (okArgs [.row .str xs, .lit (.func (.func 84) #[] #[])]) ∧ True ∧ True ∧ True) ∧ True) (lv := .ret) (T' := [(4, vb (decide ((idxF (fun n => !nameF n) xs) ≥ 0)))]) (B' := []) mix hI hs ?_ ?_ ?_ ?_
 ·exact ⟨⟨⟨ent140, con140_84 _ hxs hlen⟩, trivial⟩, trivial⟩
 ·kernel_rfl
 ·exact ⟨⟨trivial, trivial⟩, ⟨trivial, trivial, rfl, trivial, trivial, trivial⟩, trivial⟩
 intro a w hs
 exact FnQ_cast (out := .val (vb (decide ((idxF (fun n => !nameF n) xs) ≥ 0)))) (by rw [← idxF_any]) (ret_ok [] hs ⟨by kernel_rfl, rfl⟩)
set_option maxRecDepth 100000 in
theorem con140_91 (xs : List ByteArray) (hxs : ∀ x ∈ xs, small x) (hlen : xs.length < 4294967281) : Con Tryz.prog I0 140 [.row .str xs, .lit (.func (.func 91) #[] #[])] (.val (vi (idxF (fun n => !nameF n) xs))) := by
 refine con_of Tryz.func140 rfl (Nat.le_of_ble_eq_true rfl) stab (fun w0 fz a hI hs => ?_)
 refine wp_seq ?_
 refine way_L (tt := tt) (rs := []) (bs := []) (tk := [0, 1]) (bk := []) (C := True ∧ True) (lv := .norm) (T' := [(0, .row .str xs), (1, .lit (.func (.func 91) #[] #[]))]) (B' := []) mix hI hs ?_ ?_ ?_ ?_
 ·exact trivial
 ·kernel_rfl
 ·exact ⟨trivial, trivial⟩
 intro a w hs
 refine then_norm ?_
 refine wp_seq ?_
 refine wp_seq ?_
 refine way_L (tt := tt) (rs := []) (bs := []) (tk := [0, 1, 7, 8]) (bk := []) (C := tr 3 True) (lv := .norm) (T' := [(0, .row .str xs), (1, .lit (.func (.func 91) #[] #[])), (7, vi (xs.length : Int)), (8, vi 0)]) (B' := []) mix hI hs ?_ ?_ ?_ ?_
 ·exact trivial
 ·kernel_rfl
 ·exact tr_mk trivial 3
 intro a w hs
 refine then_norm ?_
 refine wp_block ?_
 refine loop_L (N := Tryz.f140.ntmps) (w0 := w0) (ow := noO fz) (α := Nat) (fun p => [(0, .row .str xs), (1, .lit (.func (.func 91) #[] #[])), (7, vi (xs.length : Int)), (8, vi ((p : Nat) : Int))]) (fun p => []) (fun p => p ≤ xs.length ∧ ∀ j, j < p → ∀ d, (fun n => !nameF n) (xs.getD j d) = false) (fun p => xs.length - p) 0 ?_ ?_ ?_
 ·exact ⟨Nat.zero_le _, fun j hj => absurd hj (Nat.not_lt_zero _)⟩
 ·(have e0_ : (0) = (((0 : Nat) : Int)) := (by first | rfl | (rfl)); exact (SimL.cast hs (T' := [(0, .row .str xs), (1, .lit (.func (.func 91) #[] #[])), (7, vi (xs.length : Int)), (8, vi ((0 : Nat) : Int))]) (B' := []) (by first | rfl | (rw [e0_]; done) | (simp only [e0_]; done) | (simp only [e0_]; rfl)) (by first | rfl | (rw [e0_]; done) | (simp only [e0_]; done) | (simp only [e0_]; rfl))).ren [] (by kernel_rfl) (by kernel_rfl) (by kernel_rfl))
 rintro i hJ a w hs
 obtain ⟨hi, hall⟩ := hJ
 rcases Bool.eq_false_or_eq_true (decide (((i : Nat) : Int) < (xs.length : Int))) with b1 | b1
 ·skip
  have n1 := of_decide_eq_true b1
  rcases Bool.eq_false_or_eq_true (!nameF (xs.getD i (dflt .str))) with b2 | b2
  ·skip
   refine way_L (tt := tt) (rs := [(4, ⟨[(5, ciA 91 [vs (xs.getD i (dflt .str))] [] [] (.val (vb (!nameF (xs.getD i (dflt .str))))))], [], []⟩)]) (bs := [true, true]) (tk := [4]) (bk := []) (C := (True ∧ True) ∧ (((decide (((i : Nat) : Int) < (xs.length : Int))) = true) ∧ True) ∧ (True ∧ True ∧ True) ∧ (tr 3 ((0 ≤ ((i : Nat) : Int) ∧ ((i : Nat) : Int) < xs.length) ∧ True ∧ (okArgs [vs (xs.getD i (dflt .str))]) ∧ True)) ∧ ((!nameF (xs.getD i (dflt .str))) = true) ∧ (True ∧ True ∧ True) ∧ True) (lv := .ret) (T' := [(4, vi ((i : Nat) : Int))]) (B' := []) mix hI hs ?_ ?_ ?_ ?_
   ·exact ⟨⟨⟨ent91, con91 _ (hxs _ (getD_mem (by omega) _))⟩, trivial⟩, trivial⟩
   ·kernel_rfl
   ·exact ⟨⟨trivial, trivial⟩, ⟨b1, trivial⟩, ⟨trivial, trivial, trivial⟩, tr_mk (⟨⟨by omega, by omega⟩, trivial, rfl, trivial⟩) 3, b2, ⟨trivial, trivial, trivial⟩, trivial⟩
   intro a w hs
   refine then_ret ?_
   refine inb_ret ?_
   refine then_ret ?_
   exact FnQ_cast (out := .val (vi ((i : Nat) : Int))) (by rw [idxF_at (q := (fun n => !nameF n)) (i := i) (dflt .str) (by omega) (by first | exact b2 | (simp only [b2]; rfl)) (fun j hj d => hall j hj d)]) (ret_ok [] hs ⟨by kernel_rfl, rfl⟩)
  ·skip
   refine way_L (tt := tt) (rs := [(4, ⟨[(5, ciA 91 [vs (xs.getD i (dflt .str))] [] [] (.val (vb (!nameF (xs.getD i (dflt .str))))))], [], []⟩)]) (bs := [true, false]) (tk := [0, 1, 7, 8]) (bk := []) (C := (True ∧ True) ∧ (((decide (((i : Nat) : Int) < (xs.length : Int))) = true) ∧ True) ∧ ((True ∧ True ∧ True) ∧ (tr 3 ((0 ≤ ((i : Nat) : Int) ∧ ((i : Nat) : Int) < xs.length) ∧ True ∧ (okArgs [vs (xs.getD i (dflt .str))]) ∧ True)) ∧ ((!nameF (xs.getD i (dflt .str))) = false) ∧ True) ∧ (InR .i64 (((i : Nat) : Int) + 1)) ∧ True ∧ True) (lv := .norm) (T' := [(0, .row .str xs), (1, .lit (.func (.func 91) #[] #[])), (7, vi (xs.length : Int)), (8, vi (((i : Nat) : Int) + 1))]) (B' := []) mix hI hs ?_ ?_ ?_ ?_
   ·exact ⟨⟨⟨ent91, con91 _ (hxs _ (getD_mem (by omega) _))⟩, trivial⟩, trivial⟩
   ·kernel_rfl
   ·exact ⟨⟨trivial, trivial⟩, ⟨b1, trivial⟩, ⟨⟨trivial, trivial, trivial⟩, tr_mk (⟨⟨by omega, by omega⟩, trivial, rfl, trivial⟩) 3, b2, trivial⟩, (inR64 (by omega) (by omega)), trivial, trivial⟩
   intro a w hs
   refine then_norm ⟨i + 1, ⟨by omega, fun j hj d => by rcases Nat.lt_succ_iff_lt_or_eq.1 hj with h | h; exact hall j h d; subst h; rw [getD_any (by omega) d (dflt .str)]; exact b2⟩, by omega, ?_⟩
   (have e0_ : (((i : Nat) : Int) + 1) = ((((i + 1) : Nat) : Int)) := (by first | rfl | (omega)); exact (SimL.cast hs (T' := [(0, .row .str xs), (1, .lit (.func (.func 91) #[] #[])), (7, vi (xs.length : Int)), (8, vi (((i + 1) : Nat) : Int))]) (B' := []) (by first | rfl | (rw [e0_]; done) | (simp only [e0_]; done) | (simp only [e0_]; rfl)) (by first | rfl | (rw [e0_]; done) | (simp only [e0_]; done) | (simp only [e0_]; rfl))).ren [] (by kernel_rfl) (by kernel_rfl) (by kernel_rfl))
 ·skip
  have n1 := of_decide_eq_false b1
  refine way_L (tt := tt) (rs := []) (bs := [false]) (tk := []) (bk := []) (C := (True ∧ True) ∧ ((decide (((i : Nat) : Int) < (xs.length : Int))) = false) ∧ True) (lv := .exit 0) (T' := []) (B' := []) mix hI hs ?_ ?_ ?_ ?_
  ·exact trivial
  ·kernel_rfl
  ·exact ⟨⟨trivial, trivial⟩, b1, trivial⟩
  intro a w hs
  refine then_exit ?_
  refine inb_hit ?_
  refine then_norm ?_
  refine way_L (tt := tt) (rs := []) (bs := []) (tk := [4]) (bk := []) (C := (True ∧ True) ∧ True) (lv := .ret) (T' := [(4, vi (-1))]) (B' := []) mix hI hs ?_ ?_ ?_ ?_
  ·exact trivial
  ·kernel_rfl
  ·exact ⟨⟨trivial, trivial⟩, trivial⟩
  intro a w hs
  exact FnQ_cast (out := .val (vi (-1))) (by rw [idxF_no (q := (fun n => !nameF n)) (fun j hj d => hall j (by omega) d)]) (ret_ok [] hs ⟨by kernel_rfl, rfl⟩)
set_option maxRecDepth 100000 in
theorem con83_91 (xs : List ByteArray) (hxs : ∀ x ∈ xs, small x) (hlen : xs.length < 4294967281) : Con Tryz.prog I0 83 [.row .str xs, .lit (.func (.func 91) #[] #[])] (.val (vb (xs.any (fun n => !nameF n)))) := by
 refine con_of Tryz.func83 rfl (Nat.le_of_ble_eq_true rfl) stab (fun w0 fz a hI hs => ?_)
 refine way_L (tt := tt) (rs := [(1, ⟨[(2, ciA 140 [.row .str xs, .lit (.func (.func 91) #[] #[])] [] [] (.val (vi (idxF (fun n => !nameF n) xs))))], [], []⟩)]) (bs := []) (tk := [4]) (bk := []) (C := (True ∧ True) ∧ (True ∧ True ∧ (okArgs [.row .str xs, .lit (.func (.func 91) #[] #[])]) ∧ True ∧ True ∧ True) ∧ True) (lv := .ret) (T' := [(4, vb (decide ((idxF (fun n => !nameF n) xs) ≥ 0)))]) (B' := []) mix hI hs ?_ ?_ ?_ ?_
 ·exact ⟨⟨⟨ent140, con140_91 _ hxs hlen⟩, trivial⟩, trivial⟩
 ·kernel_rfl
 ·exact ⟨⟨trivial, trivial⟩, ⟨trivial, trivial, rfl, trivial, trivial, trivial⟩, trivial⟩
 intro a w hs
 exact FnQ_cast (out := .val (vb (decide ((idxF (fun n => !nameF n) xs) ≥ 0)))) (by rw [← idxF_any]) (ret_ok [] hs ⟨by kernel_rfl, rfl⟩)
set_option maxRecDepth 100000 in
theorem con90 (xs : List ByteArray) (hxs : ∀ x ∈ xs, small x) (hlen : xs.length < 4294967281) : Con Tryz.prog I0 90 [.row .str xs] (.val (vb (badPath xs))) := by
 refine con_of Tryz.func90 rfl (Nat.le_of_ble_eq_true rfl) stab (fun w0 fz a hI hs => ?_)
 rcases Bool.eq_false_or_eq_true ((xs.length : Int) == 0) with b1 | b1
 ·skip
  have n1 := eq_of_beq b1
  refine way_L (tt := tt) (rs := [(1, ⟨[], [(4, false), (5, false), (6, false), (1007, true), (9, false), (10, false), (1011, true)], []⟩)]) (bs := []) (tk := [2]) (bk := []) (C := (True ∧ True) ∧ (tr 4 ((((xs.length : Int) == 0) = true) ∧ (((xs.length : Int) == 0) = true) ∧ (((xs.length : Int) == 0) = true) ∧ (((xs.length : Int) == 0) = true) ∧ True ∧ (true = true) ∧ (true = true) ∧ (true = true) ∧ True ∧ True)) ∧ True) (lv := .ret) (T' := [(2, vb true)]) (B' := []) mix hI hs ?_ ?_ ?_ ?_
  ·exact ⟨trivial, trivial⟩
  ·kernel_rfl
  ·exact ⟨⟨trivial, trivial⟩, tr_mk (⟨b1, b1, b1, b1, trivial, rfl, rfl, rfl, trivial, trivial⟩) 4, trivial⟩
  intro a w hs
  exact FnQ_cast (out := .val (vb true)) (by simp only [badPath, b1]; try rfl) (ret_ok [] hs ⟨by kernel_rfl, rfl⟩)
 ·skip
  have n1 := beq_eq_false_iff_ne.1 b1
  rcases Bool.eq_false_or_eq_true (decide ((xs.length : Int) > 63)) with b2 | b2
  ·skip
   have n2 := of_decide_eq_true b2
   refine way_L (tt := tt) (rs := [(1, ⟨[], [(4, true), (5, true), (6, true), (1007, false), (9, false), (10, false), (1011, true)], []⟩)]) (bs := []) (tk := [2]) (bk := []) (C := (True ∧ True) ∧ (tr 4 ((((xs.length : Int) == 0) = false) ∧ True ∧ (((xs.length : Int) == 0) = false) ∧ True ∧ (((xs.length : Int) == 0) = false) ∧ True ∧ (((xs.length : Int) == 0) = false) ∧ True ∧ ((decide ((xs.length : Int) > 63)) = true) ∧ ((decide ((xs.length : Int) > 63)) = true) ∧ ((decide ((xs.length : Int) > 63)) = true) ∧ True ∧ True)) ∧ True) (lv := .ret) (T' := [(2, vb true)]) (B' := []) mix hI hs ?_ ?_ ?_ ?_
   ·exact ⟨trivial, trivial⟩
   ·kernel_rfl
   ·exact ⟨⟨trivial, trivial⟩, tr_mk (⟨b1, trivial, b1, trivial, b1, trivial, b1, trivial, b2, b2, b2, trivial, trivial⟩) 4, trivial⟩
   intro a w hs
   exact FnQ_cast (out := .val (vb true)) (by simp only [badPath, b1, b2]; try rfl) (ret_ok [] hs ⟨by kernel_rfl, rfl⟩)
  ·skip
   have n2 := of_decide_eq_false b2
   refine way_L (tt := tt) (rs := [(1, ⟨[(10, ciA 83 [.row .str xs, .lit (.func (.func 91) #[] #[])] [] [] (.val (vb (xs.any (fun n => !nameF n)))))], [(4, true), (5, true), (6, true), (1007, false), (9, true), (10, true), (1011, false)], []⟩)]) (bs := []) (tk := [2]) (bk := []) (C := (True ∧ True) ∧ (tr 4 ((((xs.length : Int) == 0) = false) ∧ True ∧ (((xs.length : Int) == 0) = false) ∧ True ∧ (((xs.length : Int) == 0) = false) ∧ True ∧ (((xs.length : Int) == 0) = false) ∧ True ∧ ((decide ((xs.length : Int) > 63)) = false) ∧ True ∧ ((decide ((xs.length : Int) > 63)) = false) ∧ (okArgs [.row .str xs, .lit (.func (.func 91) #[] #[])]) ∧ ((decide ((xs.length : Int) > 63)) = false) ∧ True ∧ True)) ∧ True) (lv := .ret) (T' := [(2, vb (xs.any (fun n => !nameF n)))]) (B' := []) mix hI hs ?_ ?_ ?_ ?_
   ·exact ⟨⟨⟨ent83, con83_91 _ hxs hlen⟩, trivial⟩, trivial⟩
   ·kernel_rfl
   ·exact ⟨⟨trivial, trivial⟩, tr_mk (⟨b1, trivial, b1, trivial, b1, trivial, b1, trivial, b2, trivial, b2, rfl, b2, trivial, trivial⟩) 4, trivial⟩
   intro a w hs
   exact FnQ_cast (out := .val (vb (xs.any (fun n => !nameF n)))) (by simp only [badPath, b1, b2]; try rfl) (ret_ok [] hs ⟨by kernel_rfl, rfl⟩)
def smalls (p : List ByteArray) : Prop := (∀ x ∈ p, small x) ∧ p.length < 4294967281
set_option maxRecDepth 100000 in
theorem con146 (xs : List (List ByteArray)) (hxs : ∀ x ∈ xs, smalls x) (hlen : xs.length < 4294967281) : Con Tryz.prog I0 146 [.row .strs xs, .lit (.func (.func 90) #[] #[])] (.val (vi (idxF badPath xs))) := by
 refine con_of Tryz.func146 rfl (Nat.le_of_ble_eq_true rfl) stab (fun w0 fz a hI hs => ?_)
 refine wp_seq ?_
 refine way_L (tt := tt) (rs := []) (bs := []) (tk := [0, 1]) (bk := []) (C := True ∧ True) (lv := .norm) (T' := [(0, .row .strs xs), (1, .lit (.func (.func 90) #[] #[]))]) (B' := []) mix hI hs ?_ ?_ ?_ ?_
 ·exact trivial
 ·kernel_rfl
 ·exact ⟨trivial, trivial⟩
 intro a w hs
 refine then_norm ?_
 refine wp_seq ?_
 refine wp_seq ?_
 refine way_L (tt := tt) (rs := []) (bs := []) (tk := [0, 1, 7, 8]) (bk := []) (C := tr 3 True) (lv := .norm) (T' := [(0, .row .strs xs), (1, .lit (.func (.func 90) #[] #[])), (7, vi (xs.length : Int)), (8, vi 0)]) (B' := []) mix hI hs ?_ ?_ ?_ ?_
 ·exact trivial
 ·kernel_rfl
 ·exact tr_mk trivial 3
 intro a w hs
 refine then_norm ?_
 refine wp_block ?_
 refine loop_L (N := Tryz.f146.ntmps) (w0 := w0) (ow := noO fz) (α := Nat) (fun p => [(0, .row .strs xs), (1, .lit (.func (.func 90) #[] #[])), (7, vi (xs.length : Int)), (8, vi ((p : Nat) : Int))]) (fun p => []) (fun p => p ≤ xs.length ∧ ∀ j, j < p → ∀ d, badPath (xs.getD j d) = false) (fun p => xs.length - p) 0 ?_ ?_ ?_
 ·exact ⟨Nat.zero_le _, fun j hj => absurd hj (Nat.not_lt_zero _)⟩
 ·(have e0_ : (0) = (((0 : Nat) : Int)) := (by first | rfl | (rfl)); exact (SimL.cast hs (T' := [(0, .row .strs xs), (1, .lit (.func (.func 90) #[] #[])), (7, vi (xs.length : Int)), (8, vi ((0 : Nat) : Int))]) (B' := []) (by first | rfl | (rw [e0_]; done) | (simp only [e0_]; done) | (simp only [e0_]; rfl)) (by first | rfl | (rw [e0_]; done) | (simp only [e0_]; done) | (simp only [e0_]; rfl))).ren [] (by kernel_rfl) (by kernel_rfl) (by kernel_rfl))
 rintro i hJ a w hs
 obtain ⟨hi, hall⟩ := hJ
 rcases Bool.eq_false_or_eq_true (decide (((i : Nat) : Int) < (xs.length : Int))) with b1 | b1
 ·skip
  have n1 := of_decide_eq_true b1
  rcases Bool.eq_false_or_eq_true (badPath (xs.getD i (dflt .strs))) with b2 | b2
  ·skip
   refine way_L (tt := tt) (rs := [(4, ⟨[(5, ciA 90 [.row .str (xs.getD i (dflt .strs))] [] [] (.val (vb (badPath (xs.getD i (dflt .strs))))))], [], []⟩)]) (bs := [true, true]) (tk := [4]) (bk := []) (C := (True ∧ True) ∧ (((decide (((i : Nat) : Int) < (xs.length : Int))) = true) ∧ True) ∧ (True ∧ True ∧ True) ∧ (tr 3 ((0 ≤ ((i : Nat) : Int) ∧ ((i : Nat) : Int) < xs.length) ∧ True ∧ (okArgs [.row .str (xs.getD i (dflt .strs))]) ∧ True)) ∧ ((badPath (xs.getD i (dflt .strs))) = true) ∧ (True ∧ True ∧ True) ∧ True) (lv := .ret) (T' := [(4, vi ((i : Nat) : Int))]) (B' := []) mix hI hs ?_ ?_ ?_ ?_
   ·exact ⟨⟨⟨ent90, con90 _ (hxs _ (getD_mem (by omega) _)).1 (hxs _ (getD_mem (by omega) _)).2⟩, trivial⟩, trivial⟩
   ·kernel_rfl
   ·exact ⟨⟨trivial, trivial⟩, ⟨b1, trivial⟩, ⟨trivial, trivial, trivial⟩, tr_mk (⟨⟨by omega, by omega⟩, trivial, rfl, trivial⟩) 3, b2, ⟨trivial, trivial, trivial⟩, trivial⟩
   intro a w hs
   refine then_ret ?_
   refine inb_ret ?_
   refine then_ret ?_
   exact FnQ_cast (out := .val (vi ((i : Nat) : Int))) (by rw [idxF_at (q := badPath) (i := i) (dflt .strs) (by omega) b2 (fun j hj d => hall j hj d)]) (ret_ok [] hs ⟨by kernel_rfl, rfl⟩)
  ·skip
   refine way_L (tt := tt) (rs := [(4, ⟨[(5, ciA 90 [.row .str (xs.getD i (dflt .strs))] [] [] (.val (vb (badPath (xs.getD i (dflt .strs))))))], [], []⟩)]) (bs := [true, false]) (tk := [0, 1, 7, 8]) (bk := []) (C := (True ∧ True) ∧ (((decide (((i : Nat) : Int) < (xs.length : Int))) = true) ∧ True) ∧ ((True ∧ True ∧ True) ∧ (tr 3 ((0 ≤ ((i : Nat) : Int) ∧ ((i : Nat) : Int) < xs.length) ∧ True ∧ (okArgs [.row .str (xs.getD i (dflt .strs))]) ∧ True)) ∧ ((badPath (xs.getD i (dflt .strs))) = false) ∧ True) ∧ (InR .i64 (((i : Nat) : Int) + 1)) ∧ True ∧ True) (lv := .norm) (T' := [(0, .row .strs xs), (1, .lit (.func (.func 90) #[] #[])), (7, vi (xs.length : Int)), (8, vi (((i : Nat) : Int) + 1))]) (B' := []) mix hI hs ?_ ?_ ?_ ?_
   ·exact ⟨⟨⟨ent90, con90 _ (hxs _ (getD_mem (by omega) _)).1 (hxs _ (getD_mem (by omega) _)).2⟩, trivial⟩, trivial⟩
   ·kernel_rfl
   ·exact ⟨⟨trivial, trivial⟩, ⟨b1, trivial⟩, ⟨⟨trivial, trivial, trivial⟩, tr_mk (⟨⟨by omega, by omega⟩, trivial, rfl, trivial⟩) 3, b2, trivial⟩, (inR64 (by omega) (by omega)), trivial, trivial⟩
   intro a w hs
   refine then_norm ⟨i + 1, ⟨by omega, fun j hj d => by rcases Nat.lt_succ_iff_lt_or_eq.1 hj with h | h; exact hall j h d; subst h; rw [getD_any (by omega) d (dflt .strs)]; exact b2⟩, by omega, ?_⟩
   (have e0_ : (((i : Nat) : Int) + 1) = ((((i + 1) : Nat) : Int)) := (by first | rfl | (omega)); exact (SimL.cast hs (T' := [(0, .row .strs xs), (1, .lit (.func (.func 90) #[] #[])), (7, vi (xs.length : Int)), (8, vi (((i + 1) : Nat) : Int))]) (B' := []) (by first | rfl | (rw [e0_]; done) | (simp only [e0_]; done) | (simp only [e0_]; rfl)) (by first | rfl | (rw [e0_]; done) | (simp only [e0_]; done) | (simp only [e0_]; rfl))).ren [] (by kernel_rfl) (by kernel_rfl) (by kernel_rfl))
 ·skip
  have n1 := of_decide_eq_false b1
  refine way_L (tt := tt) (rs := []) (bs := [false]) (tk := []) (bk := []) (C := (True ∧ True) ∧ ((decide (((i : Nat) : Int) < (xs.length : Int))) = false) ∧ True) (lv := .exit 0) (T' := []) (B' := []) mix hI hs ?_ ?_ ?_ ?_
  ·exact trivial
  ·kernel_rfl
  ·exact ⟨⟨trivial, trivial⟩, b1, trivial⟩
  intro a w hs
  refine then_exit ?_
  refine inb_hit ?_
  refine then_norm ?_
  refine way_L (tt := tt) (rs := []) (bs := []) (tk := [4]) (bk := []) (C := (True ∧ True) ∧ True) (lv := .ret) (T' := [(4, vi (-1))]) (B' := []) mix hI hs ?_ ?_ ?_ ?_
  ·exact trivial
  ·kernel_rfl
  ·exact ⟨⟨trivial, trivial⟩, trivial⟩
  intro a w hs
  exact FnQ_cast (out := .val (vi (-1))) (by rw [idxF_no (q := badPath) (fun j hj d => hall j (by omega) d)]) (ret_ok [] hs ⟨by kernel_rfl, rfl⟩)
set_option maxRecDepth 100000 in
theorem con89 (xs : List (List ByteArray)) (hxs : ∀ x ∈ xs, smalls x) (hlen : xs.length < 4294967281) : Con Tryz.prog I0 89 [.row .strs xs, .lit (.func (.func 90) #[] #[])] (.val (vb (xs.any badPath))) := by
 refine con_of Tryz.func89 rfl (Nat.le_of_ble_eq_true rfl) stab (fun w0 fz a hI hs => ?_)
 refine way_L (tt := tt) (rs := [(1, ⟨[(2, ciA 146 [.row .strs xs, .lit (.func (.func 90) #[] #[])] [] [] (.val (vi (idxF badPath xs))))], [], []⟩)]) (bs := []) (tk := [4]) (bk := []) (C := (True ∧ True) ∧ (True ∧ True ∧ (okArgs [.row .strs xs, .lit (.func (.func 90) #[] #[])]) ∧ True ∧ True ∧ True) ∧ True) (lv := .ret) (T' := [(4, vb (decide ((idxF badPath xs) ≥ 0)))]) (B' := []) mix hI hs ?_ ?_ ?_ ?_
 ·exact ⟨⟨⟨ent146, con146 _ hxs hlen⟩, trivial⟩, trivial⟩
 ·kernel_rfl
 ·exact ⟨⟨trivial, trivial⟩, ⟨trivial, trivial, rfl, trivial, trivial, trivial⟩, trivial⟩
 intro a w hs
 exact FnQ_cast (out := .val (vb (decide ((idxF badPath xs) ≥ 0)))) (by rw [← idxF_any]) (ret_ok [] hs ⟨by kernel_rfl, rfl⟩)
set_option maxRecDepth 100000 in
theorem con39 (xs : List (List ByteArray)) (hxs : ∀ x ∈ xs, smalls x) (hlen : xs.length < 4294967281) : Con Tryz.prog I0 39 [.row .strs xs] (.val (vb (checkF xs))) := by
 refine con_of Tryz.func39 rfl (Nat.le_of_ble_eq_true rfl) stab (fun w0 fz a hI hs => ?_)
 rcases Bool.eq_false_or_eq_true (decide ((xs.length : Int) ≤ 60)) with b1 | b1
 ·skip
  have n1 := of_decide_eq_true b1
  refine way_L (tt := tt) (rs := [(1, ⟨[(5, ciA 89 [.row .strs xs, .lit (.func (.func 90) #[] #[])] [] [] (.val (vb (xs.any badPath))))], [(4, true), (5, true), (6, true), (1007, true)], []⟩)]) (bs := []) (tk := [2]) (bk := []) (C := (True ∧ True) ∧ (tr 4 (((decide ((xs.length : Int) ≤ 60)) = true) ∧ True ∧ ((decide ((xs.length : Int) ≤ 60)) = true) ∧ (okArgs [.row .strs xs, .lit (.func (.func 90) #[] #[])]) ∧ ((decide ((xs.length : Int) ≤ 60)) = true) ∧ True ∧ ((decide ((xs.length : Int) ≤ 60)) = true) ∧ True ∧ True)) ∧ True) (lv := .ret) (T' := [(2, vb (!(xs.any badPath)))]) (B' := []) mix hI hs ?_ ?_ ?_ ?_
  ·exact ⟨⟨⟨ent89, con89 _ hxs hlen⟩, trivial⟩, trivial⟩
  ·kernel_rfl
  ·exact ⟨⟨trivial, trivial⟩, tr_mk (⟨b1, trivial, b1, rfl, b1, trivial, b1, trivial, trivial⟩) 4, trivial⟩
  intro a w hs
  exact FnQ_cast (out := .val (vb (!(xs.any badPath)))) (by simp only [checkF, b1]; try rfl) (ret_ok [] hs ⟨by kernel_rfl, rfl⟩)
 ·skip
  have n1 := of_decide_eq_false b1
  refine way_L (tt := tt) (rs := [(1, ⟨[], [(4, false), (5, false), (6, false), (1007, false)], []⟩)]) (bs := []) (tk := [2]) (bk := []) (C := (True ∧ True) ∧ (tr 4 (((decide ((xs.length : Int) ≤ 60)) = false) ∧ ((decide ((xs.length : Int) ≤ 60)) = false) ∧ ((decide ((xs.length : Int) ≤ 60)) = false) ∧ ((decide ((xs.length : Int) ≤ 60)) = false) ∧ True ∧ True)) ∧ True) (lv := .ret) (T' := [(2, vb false)]) (B' := []) mix hI hs ?_ ?_ ?_ ?_
  ·exact ⟨trivial, trivial⟩
  ·kernel_rfl
  ·exact ⟨⟨trivial, trivial⟩, tr_mk (⟨b1, b1, b1, b1, trivial, trivial⟩) 4, trivial⟩
  intro a w hs
  exact FnQ_cast (out := .val (vb false)) (by simp only [checkF, b1]; try rfl) (ret_ok [] hs ⟨by kernel_rfl, rfl⟩)
end Go.Proofs.YtondpnipoogoiaaGreatDoor.F
namespace Go.Proofs.YtondpnipoogoiaaGreatDoor.F
open Go Go.RowKit Go.Proofs.Tryz
set_option linter.unusedVariables false
set_option linter.unusedSimpArgs false
theorem Tree.eta' (t : Tree) : Tree.mk t.kind t.b ⟨t.n.neg, t.n.m, t.n.e⟩ t.s t.k t.v = t := by cases t; rfl
theorem copied {α : Type} (xs : List α) (d : α) {n : Nat} (h : n = xs.length) : xs.take (List.replicate n d).length ++ (List.replicate n d).drop xs.length = xs := by
  subst h
  rw [List.length_replicate, List.take_length, List.drop_of_length_le (by rw [List.length_replicate]; exact Nat.le_refl _), List.append_nil]
theorem rep_k (x : ByteArray) (v : Tree) : ∀ l : Mem, (repA x v l).map (·.1) = l.map (·.1)
  | [] => rfl
  | (y, u) :: l => by simp only [repA]; split <;> simp [rep_k x v l]
theorem rep_v (x : ByteArray) (v : Tree) : ∀ l : Mem, idxT x (l.map (·.1)) ≥ 0 → (repA x v l).map (·.2) = (l.map (·.2)).set (idxT x (l.map (·.1))).toNat v
  | [], h => by simp [idxT] at h
  | (y, u) :: l, h => by
    simp only [repA, List.map_cons, idxT] at h ⊢
    by_cases h0 : eqT x y = true
    · simp [h0]
    · simp only [h0, Bool.false_eq_true, if_false] at h ⊢
      by_cases h1 : idxT x (l.map (·.1)) < 0
      · simp only [h1, if_true] at h; omega
      · simp only [h1, if_false] at h ⊢
        rw [List.map_cons, rep_v x v l (by omega), show (idxT x (l.map (·.1)) + 1).toNat = (idxT x (l.map (·.1))).toNat + 1 by omega, List.set_cons_succ]
def atF (x : ByteArray) (k : List ByteArray) : Nat := if idxF (fun s => gtB s x) k < 0 then k.length else (idxF (fun s => gtB s x) k).toNat
theorem atF_cons (x y : ByteArray) (k : List ByteArray) : atF x (y :: k) = if gtB y x = true then 0 else atF x k + 1 := by
  unfold atF
  simp only [idxF, List.length_cons]
  by_cases h : gtB y x = true
  · simp [h]
  · simp only [h, Bool.false_eq_true, if_false]
    by_cases h1 : idxF (fun s => gtB s x) k < 0
    · simp [h1]
    · simp only [h1, if_false]
      rw [if_neg (by omega)]; omega
theorem atF_le (x : ByteArray) : ∀ k : List ByteArray, atF x k ≤ k.length
  | [] => by simp [atF, idxF]
  | y :: k => by
    have ih := atF_le x k
    rw [atF_cons, List.length_cons]
    split <;> omega
theorem put_k (x : ByteArray) (v : Tree) : ∀ l : Mem, (putA x v l).map (·.1) = insL (l.map (·.1)) (atF x (l.map (·.1))) x
  | [] => by simp [putA, insL]
  | (y, u) :: l => by
    simp only [putA, List.map_cons, atF_cons]
    split
    · simp [insL]
    · rw [List.map_cons, put_k x v l]; simp [insL]
theorem put_v (x : ByteArray) (v : Tree) : ∀ l : Mem, (putA x v l).map (·.2) = insL (l.map (·.2)) (atF x (l.map (·.1))) v
  | [] => by simp [putA, insL]
  | (y, u) :: l => by
    simp only [putA, List.map_cons, atF_cons]
    split
    · simp [insL]
    · rw [List.map_cons, put_v x v l]; simp [insL]
theorem del_k (x : ByteArray) : ∀ l : Mem, idxT x (l.map (·.1)) ≥ 0 → (delA x l).map (·.1) = (l.map (·.1)).take (idxT x (l.map (·.1))).toNat ++ (l.map (·.1)).drop ((idxT x (l.map (·.1))).toNat + 1)
  | [], h => by simp [idxT] at h
  | (y, u) :: l, h => by
    simp only [delA, List.map_cons, idxT] at h ⊢
    by_cases h0 : eqT x y = true
    · simp [h0]
    · simp only [h0, Bool.false_eq_true, if_false] at h ⊢
      by_cases h1 : idxT x (l.map (·.1)) < 0
      · simp only [h1, if_true] at h; omega
      · simp only [h1, if_false] at h ⊢
        rw [List.map_cons, del_k x l (by omega), show (idxT x (l.map (·.1)) + 1).toNat = (idxT x (l.map (·.1))).toNat + 1 by omega]; simp
theorem del_v (x : ByteArray) : ∀ l : Mem, idxT x (l.map (·.1)) ≥ 0 → (delA x l).map (·.2) = (l.map (·.2)).take (idxT x (l.map (·.1))).toNat ++ (l.map (·.2)).drop ((idxT x (l.map (·.1))).toNat + 1)
  | [], h => by simp [idxT] at h
  | (y, u) :: l, h => by
    simp only [delA, List.map_cons, idxT] at h ⊢
    by_cases h0 : eqT x y = true
    · simp [h0]
    · simp only [h0, Bool.false_eq_true, if_false] at h ⊢
      by_cases h1 : idxT x (l.map (·.1)) < 0
      · simp only [h1, if_true] at h; omega
      · simp only [h1, if_false] at h ⊢
        rw [List.map_cons, del_v x l (by omega), show (idxT x (l.map (·.1)) + 1).toNat = (idxT x (l.map (·.1))).toNat + 1 by omega]; simp
theorem set_found {t : Tree} {x : ByteArray} {v : Tree} (h : idxT x (cutK t) ≥ 0) : setT t x v = .mk 7 false ⟨false, [], 0⟩ (ba []) (cutK t) ((cutV t).set (idxT x (cutK t)).toNat v) := by
  have hk := mems_k t
  have hs := (idxT_look x (mems t)).1.1 (by rw [hk]; exact h)
  unfold setT insA objM
  rw [if_pos hs, rep_k, rep_v x v _ (by rw [hk]; exact h), hk, mems_v]
theorem set_new {t : Tree} {x : ByteArray} {v : Tree} (h : ¬ idxT x (cutK t) ≥ 0) : setT t x v = .mk 7 false ⟨false, [], 0⟩ (ba []) (insL (cutK t) (atF x (cutK t)) x) (insL (cutV t) (atF x (cutK t)) v) := by
  have hk := mems_k t
  have hs : ¬ (lookA x (mems t)).isSome = true := fun hh => h (by have := (idxT_look x (mems t)).1.2 hh; rwa [hk] at this)
  unfold setT insA objM
  rw [if_neg hs, put_k, put_v, hk, mems_v]
theorem unset_found {t : Tree} {x : ByteArray} (h : idxT x (cutK t) ≥ 0) : unsetT t x = .mk 7 false ⟨false, [], 0⟩ (ba []) ((cutK t).take (idxT x (cutK t)).toNat ++ (cutK t).drop ((idxT x (cutK t)).toNat + 1)) ((cutV t).take (idxT x (cutK t)).toNat ++ (cutV t).drop ((idxT x (cutK t)).toNat + 1)) := by
  have hk := mems_k t
  unfold unsetT objM
  rw [if_pos (memV_pos h).2, del_k x _ (by rw [hk]; exact h), del_v x _ (by rw [hk]; exact h), hk, mems_v]
theorem unset_none {t : Tree} {x : ByteArray} (h : ¬ idxT x (cutK t) ≥ 0) : unsetT t x = t := by
  unfold unsetT
  rw [if_neg (by rw [(memV_neg h).2]; decide)]
set_option maxRecDepth 100000 in
theorem con188 (s x : ByteArray) : ConB Tryz.prog I0 188 [vs s, .ptr 0 0] [(0, .var [vs x])] (.val (vb (gtB s x))) [(0, .var [vs x])] := by
 refine con_ofB Tryz.func188 rfl (Nat.le_of_ble_eq_true rfl) (by kernel_rfl) (fun w0 fz η a hI hs => ?_)
 refine way_L (tt := tt) (rs := []) (bs := []) (tk := [3]) (bk := [0]) (C := (True ∧ True) ∧ (tr 4 True) ∧ True) (lv := .ret) (T' := [(3, vb (!(Op.bytesLess s.toList x.toList || s.toList == x.toList)))]) (B' := [(0, .var [vs x])]) mix hI hs ?_ ?_ ?_ ?_
 ·exact trivial
 ·kernel_rfl
 ·exact ⟨⟨trivial, trivial⟩, tr_mk trivial 4, trivial⟩
 intro a w hs
 exact FnQB_cast (out := .val (vb (!(Op.bytesLess s.toList x.toList || s.toList == x.toList)))) (bo := [(0, .var [vs x])]) (rfl) (rfl) (ret_okB _ hs (by kernel_rfl) (by kernel_rfl))
set_option maxRecDepth 100000 in
theorem con140_188 (xs : List ByteArray) (x : ByteArray) (hlen : xs.length < 4611686018427387904) : ConB Tryz.prog I0 140 [.own 1, .clo (.func 188) [.ptr 0 0]] [(0, .var [vs x]), (1, .full 9 .str xs)] (.val (vi (idxF (fun s => gtB s x) xs))) [(0, .var [vs x]), (1, .full 9 .str xs)] := by
 refine con_ofB Tryz.func140 rfl (Nat.le_of_ble_eq_true rfl) (by kernel_rfl) (fun w0 fz η a hI hs => ?_)
 refine wp_seq ?_
 refine way_L (tt := tt) (rs := []) (bs := []) (tk := [0, 1]) (bk := [0, 1]) (C := True ∧ True) (lv := .norm) (T' := [(0, .own 1), (1, .clo (.func 188) [.ptr 0 0])]) (B' := [(0, .var [vs x]), (1, .full 9 .str xs)]) mix hI hs ?_ ?_ ?_ ?_
 ·exact trivial
 ·kernel_rfl
 ·exact ⟨trivial, trivial⟩
 intro a w hs
 refine then_norm ?_
 refine wp_seq ?_
 refine wp_seq ?_
 refine way_L (tt := tt) (rs := []) (bs := []) (tk := [0, 1, 7, 8]) (bk := [0, 1]) (C := tr 3 True) (lv := .norm) (T' := [(0, .own 1), (1, .clo (.func 188) [.ptr 0 0]), (7, vi (xs.length : Int)), (8, vi 0)]) (B' := [(0, .var [vs x]), (1, .full 9 .str xs)]) mix hI hs ?_ ?_ ?_ ?_
 ·exact trivial
 ·kernel_rfl
 ·exact tr_mk trivial 3
 intro a w hs
 refine then_norm ?_
 refine wp_block ?_
 refine loop_L (N := Tryz.f140.ntmps) (w0 := w0) (ow := ownB fz η) (α := Nat) (fun p => [(0, .own 1), (1, .clo (.func 188) [.ptr 0 0]), (7, vi (xs.length : Int)), (8, vi ((p : Nat) : Int))]) (fun p => [(0, .var [vs x]), (1, .full 9 .str xs)]) (fun p => p ≤ xs.length ∧ ∀ j, j < p → ∀ d, (fun s => gtB s x) (xs.getD j d) = false) (fun p => xs.length - p) 0 ?_ ?_ ?_
 ·exact ⟨Nat.zero_le _, fun j hj => absurd hj (Nat.not_lt_zero _)⟩
 ·(have e0_ : (0) = (((0 : Nat) : Int)) := (by first | rfl | (rfl)); exact (SimL.cast hs (T' := [(0, .own 1), (1, .clo (.func 188) [.ptr 0 0]), (7, vi (xs.length : Int)), (8, vi ((0 : Nat) : Int))]) (B' := [(0, .var [vs x]), (1, .full 9 .str xs)]) (by first | rfl | (rw [e0_]; done) | (simp only [e0_]; done) | (simp only [e0_]; rfl)) (by first | rfl | (rw [e0_]; done) | (simp only [e0_]; done) | (simp only [e0_]; rfl))).ren [(0, 0), (1, 1)] (by kernel_rfl) (by kernel_rfl) (by kernel_rfl))
 rintro i hJ a w hs
 obtain ⟨hi, hall⟩ := hJ
 rcases Bool.eq_false_or_eq_true (decide (((i : Nat) : Int) < (xs.length : Int))) with b1 | b1
 ·skip
  have n1 := of_decide_eq_true b1
  rcases Bool.eq_false_or_eq_true (gtB (xs.getD i (dflt .str)) x) with b2 | b2
  ·skip
   refine way_L (tt := tt) (rs := [(4, ⟨[(5, ciB 188 [vs (xs.getD i (dflt .str)), .ptr 0 0] [] (.val (vb (gtB (xs.getD i (dflt .str)) x))) [(0, .var [vs x])] [(0, .var [vs x])] [(0, 0)])], [], []⟩)]) (bs := [true, true]) (tk := [4]) (bk := [0, 1]) (C := (True ∧ True) ∧ (((decide (((i : Nat) : Int) < (xs.length : Int))) = true) ∧ True) ∧ (True ∧ True ∧ True) ∧ (tr 3 ((0 ≤ ((i : Nat) : Int) ∧ ((i : Nat) : Int) < xs.length) ∧ (i < xs.length) ∧ (okArgs [vs (xs.getD i (dflt .str)), .ptr 0 0] ∧ okBxs [some (.var [vs x])]) ∧ True)) ∧ ((gtB (xs.getD i (dflt .str)) x) = true) ∧ (True ∧ True ∧ True) ∧ True) (lv := .ret) (T' := [(4, vi ((i : Nat) : Int))]) (B' := [(0, .var [vs x]), (1, .full 9 .str xs)]) mix hI hs ?_ ?_ ?_ ?_
   ·exact ⟨⟨⟨ent188, con188 _ _⟩, trivial⟩, trivial⟩
   ·kernel_rfl
   ·exact ⟨⟨trivial, trivial⟩, ⟨b1, trivial⟩, ⟨trivial, trivial, trivial⟩, tr_mk (⟨⟨by omega, by omega⟩, (by omega), ⟨rfl, rfl⟩, trivial⟩) 3, b2, ⟨trivial, trivial, trivial⟩, trivial⟩
   intro a w hs
   refine then_ret ?_
   refine inb_ret ?_
   refine then_ret ?_
   exact FnQB_cast (out := .val (vi ((i : Nat) : Int))) (bo := [(0, .var [vs x]), (1, .full 9 .str xs)]) (by rw [idxF_at (q := (fun s => gtB s x)) (i := i) (dflt .str) (by omega) b2 (fun j hj d => hall j hj d)]) (rfl) (ret_okB _ hs (by kernel_rfl) (by kernel_rfl))
  ·skip
   refine way_L (tt := tt) (rs := [(4, ⟨[(5, ciB 188 [vs (xs.getD i (dflt .str)), .ptr 0 0] [] (.val (vb (gtB (xs.getD i (dflt .str)) x))) [(0, .var [vs x])] [(0, .var [vs x])] [(0, 0)])], [], []⟩)]) (bs := [true, false]) (tk := [0, 1, 7, 8]) (bk := [0, 1]) (C := (True ∧ True) ∧ (((decide (((i : Nat) : Int) < (xs.length : Int))) = true) ∧ True) ∧ ((True ∧ True ∧ True) ∧ (tr 3 ((0 ≤ ((i : Nat) : Int) ∧ ((i : Nat) : Int) < xs.length) ∧ (i < xs.length) ∧ (okArgs [vs (xs.getD i (dflt .str)), .ptr 0 0] ∧ okBxs [some (.var [vs x])]) ∧ True)) ∧ ((gtB (xs.getD i (dflt .str)) x) = false) ∧ True) ∧ (InR .i64 (((i : Nat) : Int) + 1)) ∧ True ∧ True) (lv := .norm) (T' := [(0, .own 1), (1, .clo (.func 188) [.ptr 0 0]), (7, vi (xs.length : Int)), (8, vi (((i : Nat) : Int) + 1))]) (B' := [(0, .var [vs x]), (1, .full 9 .str xs)]) mix hI hs ?_ ?_ ?_ ?_
   ·exact ⟨⟨⟨ent188, con188 _ _⟩, trivial⟩, trivial⟩
   ·kernel_rfl
   ·exact ⟨⟨trivial, trivial⟩, ⟨b1, trivial⟩, ⟨⟨trivial, trivial, trivial⟩, tr_mk (⟨⟨by omega, by omega⟩, (by omega), ⟨rfl, rfl⟩, trivial⟩) 3, b2, trivial⟩, (inR64 (by omega) (by omega)), trivial, trivial⟩
   intro a w hs
   refine then_norm ⟨i + 1, ⟨by omega, fun j hj d => by rcases Nat.lt_succ_iff_lt_or_eq.1 hj with h | h; exact hall j h d; subst h; rw [getD_any (by omega) d (dflt .str)]; exact b2⟩, by omega, ?_⟩
   (have e0_ : (((i : Nat) : Int) + 1) = ((((i + 1) : Nat) : Int)) := (by first | rfl | (omega)); exact (SimL.cast hs (T' := [(0, .own 1), (1, .clo (.func 188) [.ptr 0 0]), (7, vi (xs.length : Int)), (8, vi (((i + 1) : Nat) : Int))]) (B' := [(0, .var [vs x]), (1, .full 9 .str xs)]) (by first | rfl | (rw [e0_]; done) | (simp only [e0_]; done) | (simp only [e0_]; rfl)) (by first | rfl | (rw [e0_]; done) | (simp only [e0_]; done) | (simp only [e0_]; rfl))).ren [(0, 0), (1, 1)] (by kernel_rfl) (by kernel_rfl) (by kernel_rfl))
 ·skip
  have n1 := of_decide_eq_false b1
  refine way_L (tt := tt) (rs := []) (bs := [false]) (tk := []) (bk := [0, 1]) (C := (True ∧ True) ∧ ((decide (((i : Nat) : Int) < (xs.length : Int))) = false) ∧ True) (lv := .exit 0) (T' := []) (B' := [(0, .var [vs x]), (1, .full 9 .str xs)]) mix hI hs ?_ ?_ ?_ ?_
  ·exact trivial
  ·kernel_rfl
  ·exact ⟨⟨trivial, trivial⟩, b1, trivial⟩
  intro a w hs
  refine then_exit ?_
  refine inb_hit ?_
  refine then_norm ?_
  refine way_L (tt := tt) (rs := []) (bs := []) (tk := [4]) (bk := [0, 1]) (C := (True ∧ True) ∧ True) (lv := .ret) (T' := [(4, vi (-1))]) (B' := [(0, .var [vs x]), (1, .full 9 .str xs)]) mix hI hs ?_ ?_ ?_ ?_
  ·exact trivial
  ·kernel_rfl
  ·exact ⟨⟨trivial, trivial⟩, trivial⟩
  intro a w hs
  exact FnQB_cast (out := .val (vi (-1))) (bo := [(0, .var [vs x]), (1, .full 9 .str xs)]) (by rw [idxF_no (q := (fun s => gtB s x)) (fun j hj d => hall j (by omega) d)]) (rfl) (ret_okB _ hs (by kernel_rfl) (by kernel_rfl))
theorem at_neg {x : ByteArray} {k : List ByteArray} (h : idxF (fun s => gtB s x) k < 0) : ((k.length : Nat) : Int) = ((atF x k : Nat) : Int) := by unfold atF; rw [if_pos h]
theorem at_pos {x : ByteArray} {k : List ByteArray} (h : ¬ idxF (fun s => gtB s x) k < 0) : idxF (fun s => gtB s x) k = ((atF x k : Nat) : Int) := by unfold atF; rw [if_neg h]; omega
theorem gtI_in (x : ByteArray) : ∀ k : List ByteArray, -1 ≤ idxF (fun s => gtB s x) k ∧ idxF (fun s => gtB s x) k < k.length
  | [] => by simp [idxF]
  | y :: k => by
    have := gtI_in x k
    simp only [idxF, List.length_cons]
    split
    · omega
    · split <;> omega
set_option maxRecDepth 100000 in
theorem con135 (t : Tree) (x : ByteArray) (v : Tree) (hk : (cutK t).length < 1000000) : Con Tryz.prog I0 135 [.agg (encTree t), vs x, .agg (encTree v)] (.val (.agg (encTree (setT t x v)))) := by
 have hcl := cut_len t
 have hx1 := idxT_in x (cutK t)
 have hal := atF_le x (cutK t)
 have hgi := gtI_in x (cutK t)
 refine con_of Tryz.func135 rfl (Nat.le_of_ble_eq_true rfl) stab (fun w0 fz a hI hs => ?_)
 rcases Bool.eq_false_or_eq_true (decide ((idxT x (cutK t)) ≥ 0)) with b1 | b1
 ·skip
  have n1 := of_decide_eq_true b1
  refine way_L (tt := tt) (rs := [(1, ⟨[(1, ciA 173 [.agg (encTree t)] [] [] (.val (.tup [.row .str (cutK t), .row .tree (cutV t)])))], [], []⟩), (5, ⟨[(2, ciA 171 [.row .str (cutK t), vs x] [3002] [] (.val (vi (idxT x (cutK t)))))], [], []⟩)]) (bs := [true]) (tk := [6]) (bk := [1003, 3002, 3005]) (C := (tr 4 True) ∧ (True ∧ (okArgs [.agg (encTree t)]) ∧ (tr 5 True)) ∧ (True ∧ True ∧ (((cutK t).length : Int) = ((cutK t).length : Int) ∧ 0 ≤ ((cutK t).length : Int) ∧ (16 : Nat) * ((cutK t).length : Int) ≤ 281474976710656 ∧ ((cutK t).length : Int) ≤ 9223372036854775807) ∧ True ∧ True ∧ (((cutV t).length : Int) = ((cutV t).length : Int) ∧ 0 ≤ ((cutV t).length : Int) ∧ (120 : Nat) * ((cutV t).length : Int) ≤ 281474976710656 ∧ ((cutV t).length : Int) ≤ 9223372036854775807) ∧ True ∧ True ∧ True) ∧ (tr 3 True) ∧ (tr 3 True) ∧ (True ∧ True ∧ (([.row .str ((cutK t).take (List.replicate ((cutK t).length) (dflt .str)).length ++ (List.replicate ((cutK t).length) (dflt .str)).drop (cutK t).length), vs x] : List AV) = [.row .str (cutK t), vs x]) ∧ True ∧ True) ∧ (True ∧ True ∧ True) ∧ ((decide ((idxT x (cutK t)) ≥ 0)) = true) ∧ (tr 3 ((0 ≤ (idxT x (cutK t)) ∧ (idxT x (cutK t)) < ((cutV t).take (List.replicate ((cutV t).length) (dflt .tree)).length ++ (List.replicate ((cutV t).length) (dflt .tree)).drop (cutV t).length).length) ∧ ((idxT x (cutK t)).toNat < ((cutV t).take (List.replicate ((cutV t).length) (dflt .tree)).length ++ (List.replicate ((cutV t).length) (dflt .tree)).drop (cutV t).length).length) ∧ True)) ∧ (tr 4 True) ∧ True) (lv := .ret) (T' := [(6, .ptr 1003 0)]) (B' := [(1003, .var [vi 7, vb false, vb false, nilv, vi 0, vs (ba []), .own 3002, .own 3005]), (3002, .sl 9 .str ((cutK t).take (List.replicate ((cutK t).length) (dflt .str)).length ++ (List.replicate ((cutK t).length) (dflt .str)).drop (cutK t).length)), (3005, .sl 29 .tree (((cutV t).take (List.replicate ((cutV t).length) (dflt .tree)).length ++ (List.replicate ((cutV t).length) (dflt .tree)).drop (cutV t).length).set ((idxT x (cutK t)).toNat) (Tree.mk v.kind v.b ⟨v.n.neg, v.n.m, v.n.e⟩ v.s v.k v.v)))]) mix hI hs ?_ ?_ ?_ ?_
  ·exact ⟨⟨⟨ent173, con173 _⟩, trivial⟩, ⟨⟨ent171, con171 _ _ (by omega)⟩, trivial⟩, trivial⟩
  ·kernel_rfl
  ·exact ⟨tr_mk trivial 4, ⟨trivial, rfl, tr_mk trivial 5⟩, ⟨trivial, trivial, (by omega), trivial, trivial, (by omega), trivial, trivial, trivial⟩, tr_mk trivial 3, tr_mk trivial 3, ⟨trivial, trivial, (by simp only [copied (cutK t) (dflt .str) rfl, copied (cutV t) (dflt .tree) rfl]), trivial, trivial⟩, ⟨trivial, trivial, trivial⟩, b1, tr_mk (⟨(by first | (refine ⟨by rfl, ?_⟩; omega) | (simp only [copied (cutK t) (dflt .str) rfl, copied (cutV t) (dflt .tree) rfl]; omega) | omega), (by first | (refine ⟨by rfl, ?_⟩; omega) | (simp only [copied (cutK t) (dflt .str) rfl, copied (cutV t) (dflt .tree) rfl]; omega) | omega), trivial⟩) 3, tr_mk trivial 4, trivial⟩
  intro a w hs
  exact FnQ_cast (out := .val (.agg [vi 7, vb false, vb false, .row (.int .u32) ([]), vi 0, vs (ba []), .row .str ((cutK t).take (List.replicate ((cutK t).length) (dflt .str)).length ++ (List.replicate ((cutK t).length) (dflt .str)).drop (cutK t).length), .row .tree (((cutV t).take (List.replicate ((cutV t).length) (dflt .tree)).length ++ (List.replicate ((cutV t).length) (dflt .tree)).drop (cutV t).length).set ((idxT x (cutK t)).toNat) (Tree.mk v.kind v.b ⟨v.n.neg, v.n.m, v.n.e⟩ v.s v.k v.v))])) (by simp only [copied (cutK t) (dflt .str) rfl, copied (cutV t) (dflt .tree) rfl]; rw [Tree.eta', set_found (by assumption)]; rfl) (ret_ok [3002, 3005] hs ⟨by kernel_rfl, rfl⟩)
 ·skip
  have n1 := of_decide_eq_false b1
  rcases Bool.eq_false_or_eq_true (decide ((idxF (fun s => gtB s x) (cutK t)) < 0)) with b2 | b2
  ·skip
   have n2 := of_decide_eq_true b2
   refine way_L (tt := tt) (rs := [(1, ⟨[(1, ciA 173 [.agg (encTree t)] [] [] (.val (.tup [.row .str (cutK t), .row .tree (cutV t)])))], [], []⟩), (2, ⟨[], [(2002, true), (2005, true)], []⟩), (5, ⟨[(2, ciA 171 [.row .str (cutK t), vs x] [3002] [] (.val (vi (idxT x (cutK t)))))], [], []⟩), (9, ⟨[(2, ciB 140 [.own 1, .clo (.func 188) [.ptr 0 0]] [] (.val (vi (idxF (fun s => gtB s x) (cutK t)))) [(0, .var [vs x]), (1, .full 9 .str (cutK t))] [(0, .var [vs x]), (1, .full 9 .str (cutK t))] [(0, 1001), (1, 3002)])], [], []⟩), (12, ⟨[(4, ciA 189 [.rowc .str (cutK t) (cutK t).length, vi ((atF x (cutK t) : Nat) : Int), .row .str [x]] [] [3002, 13003] (.own 9 .str (insL (cutK t) (atF x (cutK t)) x))), (9, ciA 190 [.rowc .tree (cutV t) (cutV t).length, vi ((atF x (cutK t) : Nat) : Int), .row .tree [v]] [] [3005, 13008] (.own 29 .tree (insL (cutV t) (atF x (cutK t)) v)))], [], []⟩)]) (bs := [false, true]) (tk := [6]) (bk := [1003, 13004, 13009]) (C := (tr 4 True) ∧ (True ∧ (okArgs [.agg (encTree t)]) ∧ (tr 5 True)) ∧ (True ∧ True ∧ (((cutK t).length : Int) = ((cutK t).length : Int) ∧ 0 ≤ ((cutK t).length : Int) ∧ (16 : Nat) * ((cutK t).length : Int) ≤ 281474976710656 ∧ ((cutK t).length : Int) ≤ 9223372036854775807) ∧ True ∧ True ∧ (((cutV t).length : Int) = ((cutV t).length : Int) ∧ 0 ≤ ((cutV t).length : Int) ∧ (120 : Nat) * ((cutV t).length : Int) ≤ 281474976710656 ∧ ((cutV t).length : Int) ≤ 9223372036854775807) ∧ True ∧ True ∧ True) ∧ (tr 3 True) ∧ (tr 3 True) ∧ ((True ∧ True ∧ (([.row .str ((cutK t).take (List.replicate ((cutK t).length) (dflt .str)).length ++ (List.replicate ((cutK t).length) (dflt .str)).drop (cutK t).length), vs x] : List AV) = [.row .str (cutK t), vs x]) ∧ True ∧ True) ∧ (True ∧ True ∧ True) ∧ ((decide ((idxT x (cutK t)) ≥ 0)) = false) ∧ True) ∧ (True ∧ True ∧ (([.own 3002, .clo (.func 188) [.ptr 1001 0]] : List AV) = [.own 3002, .clo (.func 188) [.ptr 1001 0]] ∧ ([some (.var [vs x]), some (.full 9 .str ((cutK t).take (List.replicate ((cutK t).length) (dflt .str)).length ++ (List.replicate ((cutK t).length) (dflt .str)).drop (cutK t).length))] : List (Option Box)) = [some (.var [vs x]), some (.full 9 .str (cutK t))]) ∧ True ∧ True) ∧ ((True ∧ True ∧ True) ∧ ((decide ((idxF (fun s => gtB s x) (cutK t)) < 0)) = true) ∧ (tr 3 True)) ∧ (tr 4 ((([.rowc .str (cutK t) ((cutK t).length), vi ((cutK t).length : Int), .row .str ([x])] : List AV) = [.rowc .str (cutK t) (cutK t).length, vi ((atF x (cutK t) : Nat) : Int), .row .str [x]]) ∧ (tr 4 ((([.rowc .tree ((cutV t).take (List.replicate ((cutV t).length) (dflt .tree)).length ++ (List.replicate ((cutV t).length) (dflt .tree)).drop (cutV t).length) (((cutV t).take (List.replicate ((cutV t).length) (dflt .tree)).length ++ (List.replicate ((cutV t).length) (dflt .tree)).drop (cutV t).length).length), vi ((cutK t).length : Int), .row .tree ([(Tree.mk v.kind v.b ⟨v.n.neg, v.n.m, v.n.e⟩ v.s v.k v.v)])] : List AV) = [.rowc .tree (cutV t) (cutV t).length, vi ((atF x (cutK t) : Nat) : Int), .row .tree [v]]) ∧ True ∧ True ∧ True)))) ∧ True) (lv := .ret) (T' := [(6, .ptr 1003 0)]) (B' := [(1003, .var [vi 7, vb false, vb false, nilv, vi 0, vs (ba []), .own 13004, .own 13009]), (13004, .sl 9 .str (insL (cutK t) (atF x (cutK t)) x)), (13009, .sl 29 .tree (insL (cutV t) (atF x (cutK t)) v))]) mix hI hs ?_ ?_ ?_ ?_
   ·exact ⟨⟨⟨ent173, con173 _⟩, trivial⟩, trivial, ⟨⟨ent171, con171 _ _ (by omega)⟩, trivial⟩, ⟨⟨ent140, con140_188 _ _ (by omega)⟩, trivial⟩, ⟨⟨ent189, con_ins_str _ _ _ (by omega) (by omega)⟩, ⟨ent190, con_ins_tree _ _ _ (by omega) (by omega)⟩, trivial⟩, trivial⟩
   ·kernel_rfl
   ·exact ⟨tr_mk trivial 4, ⟨trivial, rfl, tr_mk trivial 5⟩, ⟨trivial, trivial, (by omega), trivial, trivial, (by omega), trivial, trivial, trivial⟩, tr_mk trivial 3, tr_mk trivial 3, ⟨⟨trivial, trivial, (by simp only [copied (cutK t) (dflt .str) rfl, copied (cutV t) (dflt .tree) rfl]), trivial, trivial⟩, ⟨trivial, trivial, trivial⟩, b1, trivial⟩, ⟨trivial, trivial, (by refine ⟨rfl, ?_⟩; simp only [copied (cutK t) (dflt .str) rfl, copied (cutV t) (dflt .tree) rfl]), trivial, trivial⟩, ⟨⟨trivial, trivial, trivial⟩, b2, tr_mk trivial 3⟩, tr_mk (⟨(by rw [← at_neg (by assumption)]), tr_mk (⟨(by rw [← at_neg (by assumption)]; simp only [copied (cutK t) (dflt .str) rfl, copied (cutV t) (dflt .tree) rfl]; rw [Tree.eta']), trivial, trivial, trivial⟩) 4⟩) 4, trivial⟩
   intro a w hs
   exact FnQ_cast (out := .val (.agg [vi 7, vb false, vb false, .row (.int .u32) ([]), vi 0, vs (ba []), .row .str (insL (cutK t) (atF x (cutK t)) x), .row .tree (insL (cutV t) (atF x (cutK t)) v)])) (by rw [set_new (by assumption)]; rfl) (ret_ok [13004, 13009] hs ⟨by kernel_rfl, rfl⟩)
  ·skip
   have n2 := of_decide_eq_false b2
   refine way_L (tt := tt) (rs := [(1, ⟨[(1, ciA 173 [.agg (encTree t)] [] [] (.val (.tup [.row .str (cutK t), .row .tree (cutV t)])))], [], []⟩), (2, ⟨[], [(2002, true), (2005, true)], []⟩), (5, ⟨[(2, ciA 171 [.row .str (cutK t), vs x] [3002] [] (.val (vi (idxT x (cutK t)))))], [], []⟩), (9, ⟨[(2, ciB 140 [.own 1, .clo (.func 188) [.ptr 0 0]] [] (.val (vi (idxF (fun s => gtB s x) (cutK t)))) [(0, .var [vs x]), (1, .full 9 .str (cutK t))] [(0, .var [vs x]), (1, .full 9 .str (cutK t))] [(0, 1001), (1, 3002)])], [], []⟩), (12, ⟨[(4, ciA 189 [.rowc .str (cutK t) (cutK t).length, vi ((atF x (cutK t) : Nat) : Int), .row .str [x]] [] [3002, 13003] (.own 9 .str (insL (cutK t) (atF x (cutK t)) x))), (9, ciA 190 [.rowc .tree (cutV t) (cutV t).length, vi ((atF x (cutK t) : Nat) : Int), .row .tree [v]] [] [3005, 13008] (.own 29 .tree (insL (cutV t) (atF x (cutK t)) v)))], [], []⟩)]) (bs := [false, false]) (tk := [6]) (bk := [1003, 13004, 13009]) (C := (tr 4 True) ∧ (True ∧ (okArgs [.agg (encTree t)]) ∧ (tr 5 True)) ∧ (True ∧ True ∧ (((cutK t).length : Int) = ((cutK t).length : Int) ∧ 0 ≤ ((cutK t).length : Int) ∧ (16 : Nat) * ((cutK t).length : Int) ≤ 281474976710656 ∧ ((cutK t).length : Int) ≤ 9223372036854775807) ∧ True ∧ True ∧ (((cutV t).length : Int) = ((cutV t).length : Int) ∧ 0 ≤ ((cutV t).length : Int) ∧ (120 : Nat) * ((cutV t).length : Int) ≤ 281474976710656 ∧ ((cutV t).length : Int) ≤ 9223372036854775807) ∧ True ∧ True ∧ True) ∧ (tr 3 True) ∧ (tr 3 True) ∧ ((True ∧ True ∧ (([.row .str ((cutK t).take (List.replicate ((cutK t).length) (dflt .str)).length ++ (List.replicate ((cutK t).length) (dflt .str)).drop (cutK t).length), vs x] : List AV) = [.row .str (cutK t), vs x]) ∧ True ∧ True) ∧ (True ∧ True ∧ True) ∧ ((decide ((idxT x (cutK t)) ≥ 0)) = false) ∧ True) ∧ (True ∧ True ∧ (([.own 3002, .clo (.func 188) [.ptr 1001 0]] : List AV) = [.own 3002, .clo (.func 188) [.ptr 1001 0]] ∧ ([some (.var [vs x]), some (.full 9 .str ((cutK t).take (List.replicate ((cutK t).length) (dflt .str)).length ++ (List.replicate ((cutK t).length) (dflt .str)).drop (cutK t).length))] : List (Option Box)) = [some (.var [vs x]), some (.full 9 .str (cutK t))]) ∧ True ∧ True) ∧ ((True ∧ True ∧ True) ∧ ((decide ((idxF (fun s => gtB s x) (cutK t)) < 0)) = false) ∧ True) ∧ (tr 4 ((([.rowc .str (cutK t) ((cutK t).length), vi (idxF (fun s => gtB s x) (cutK t)), .row .str ([x])] : List AV) = [.rowc .str (cutK t) (cutK t).length, vi ((atF x (cutK t) : Nat) : Int), .row .str [x]]) ∧ (tr 4 ((([.rowc .tree ((cutV t).take (List.replicate ((cutV t).length) (dflt .tree)).length ++ (List.replicate ((cutV t).length) (dflt .tree)).drop (cutV t).length) (((cutV t).take (List.replicate ((cutV t).length) (dflt .tree)).length ++ (List.replicate ((cutV t).length) (dflt .tree)).drop (cutV t).length).length), vi (idxF (fun s => gtB s x) (cutK t)), .row .tree ([(Tree.mk v.kind v.b ⟨v.n.neg, v.n.m, v.n.e⟩ v.s v.k v.v)])] : List AV) = [.rowc .tree (cutV t) (cutV t).length, vi ((atF x (cutK t) : Nat) : Int), .row .tree [v]]) ∧ True ∧ True ∧ True)))) ∧ True) (lv := .ret) (T' := [(6, .ptr 1003 0)]) (B' := [(1003, .var [vi 7, vb false, vb false, nilv, vi 0, vs (ba []), .own 13004, .own 13009]), (13004, .sl 9 .str (insL (cutK t) (atF x (cutK t)) x)), (13009, .sl 29 .tree (insL (cutV t) (atF x (cutK t)) v))]) mix hI hs ?_ ?_ ?_ ?_
   ·exact ⟨⟨⟨ent173, con173 _⟩, trivial⟩, trivial, ⟨⟨ent171, con171 _ _ (by omega)⟩, trivial⟩, ⟨⟨ent140, con140_188 _ _ (by omega)⟩, trivial⟩, ⟨⟨ent189, con_ins_str _ _ _ (by omega) (by omega)⟩, ⟨ent190, con_ins_tree _ _ _ (by omega) (by omega)⟩, trivial⟩, trivial⟩
   ·kernel_rfl
   ·exact ⟨tr_mk trivial 4, ⟨trivial, rfl, tr_mk trivial 5⟩, ⟨trivial, trivial, (by omega), trivial, trivial, (by omega), trivial, trivial, trivial⟩, tr_mk trivial 3, tr_mk trivial 3, ⟨⟨trivial, trivial, (by simp only [copied (cutK t) (dflt .str) rfl, copied (cutV t) (dflt .tree) rfl]), trivial, trivial⟩, ⟨trivial, trivial, trivial⟩, b1, trivial⟩, ⟨trivial, trivial, (by refine ⟨rfl, ?_⟩; simp only [copied (cutK t) (dflt .str) rfl, copied (cutV t) (dflt .tree) rfl]), trivial, trivial⟩, ⟨⟨trivial, trivial, trivial⟩, b2, trivial⟩, tr_mk (⟨(by rw [← at_pos (by assumption)]), tr_mk (⟨(by rw [← at_pos (by assumption)]; simp only [copied (cutK t) (dflt .str) rfl, copied (cutV t) (dflt .tree) rfl]; rw [Tree.eta']), trivial, trivial, trivial⟩) 4⟩) 4, trivial⟩
   intro a w hs
   exact FnQ_cast (out := .val (.agg [vi 7, vb false, vb false, .row (.int .u32) ([]), vi 0, vs (ba []), .row .str (insL (cutK t) (atF x (cutK t)) x), .row .tree (insL (cutV t) (atF x (cutK t)) v)])) (by rw [set_new (by assumption)]; rfl) (ret_ok [13004, 13009] hs ⟨by kernel_rfl, rfl⟩)
end Go.Proofs.YtondpnipoogoiaaGreatDoor.F
