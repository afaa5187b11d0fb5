import Derived.Test.YtondpnipoogoiaaGreatDoorA4
import Derived.Sort.Walk0
import Derived.Shelf.SlSortCmp.NoneTotal
import Derived.Shelf.SlGeneric
import Derived.Ground.SlsfProg
import Derived.Test.YtondpnipoogoiaaGreatDoorProg
import Derived.Lib.Walk
import Derived.WalkKit
import Derived.Laws.Cover1
set_option maxRecDepth 100000
set_option linter.unusedVariables false
set_option linter.unusedSimpArgs false
namespace Go.Proofs.YtondpnipoogoiaaGreatDoor.F
open Go Go.RowKit Go.Proofs.Tryz
theorem con_lits {P : Program} {I : World → Prop} {f : FuncId} {args : List Value} {r : Value} (h : ∀ w, I w → Calls P f args.toArray w fun e w' => e = .returned r ∧ Below w.heap.size w w') : Con P I f (args.map .lit) (.val (.lit r)) := by
 intro w fz vs hI hfz hR
 have hv : vs = args.toArray := by
  refine Array.ext (by simpa using hR.1) (fun i h1 h2 => ?_)
  have h3 : i < args.length := by simpa using h2
  have := (hR.2 i vs[i] (.lit args[i]) (Array.getElem?_eq_getElem h1) (by rw [List.getElem?_map, List.getElem?_eq_getElem h3]; rfl)).lit_inv
  simpa using this
 subst hv
 exact (h w hI).mono fun e w' hh => ⟨⟨_, hh.1, .lit _⟩, hh.2⟩
theorem conValid (s : ByteArray) {r : Bool} (h : X.validAt s s.size 0 = r) : Con Tryz.prog I0 249 [vs s] (.val (vb r)) :=
 con_lits (args := [.string s]) (fun w hI => X.utf_Valid.calls s r w hI (by rw [← h]; rfl))
def splitF (s : ByteArray) (c : UInt8) : List ByteArray := Lib.splitB (ba [c]) 0 (Lib.countB s (ba [c])) s
def joinF (xs : List ByteArray) (sep : ByteArray) : ByteArray := ⟨(Lib.join (xs.map (·.data.toList)) sep.data.toList).toArray⟩
theorem RL_two {w : World} {fz : Nat → Prop} {η : Nat → Option Value} {vs : Array Value} {a b : AV} (h : RL w fz η vs [a, b]) : ∃ u v, vs = #[u, v] ∧ R w fz η u a ∧ R w fz η v b := by
 obtain ⟨hl, h⟩ := h
 have h0 : 0 < vs.size := by simp at hl; omega
 have h1 : 1 < vs.size := by simp at hl; omega
 refine ⟨vs[0], vs[1], Array.ext (by simpa using hl) (fun i p q => ?_), h 0 _ a (Array.getElem?_eq_getElem h0) rfl, h 1 _ b (Array.getElem?_eq_getElem h1) rfl⟩
 have hi : i < 2 := by simpa using q
 rcases i with _ | _ | i
 ·rfl
 ·rfl
 ·omega
theorem conSplit (s : ByteArray) (c : UInt8) (hs : s.size < 4294967281) : Con Tryz.prog I0 82 [vs s, vs (ba [c])] (.own 9 .str (splitF s c)) := by
 intro w fz vs hI hfz hR
 obtain ⟨u, v, rfl, h1, h2⟩ := RL_two hR
 obtain rfl := h1.lit_inv
 obtain rfl := h2.lit_inv
 obtain ⟨m, hm⟩ := X.Laid.long hI
 have h1 : 1 ≤ (ba [c]).size := Nat.le_refl _
 refine (Tryz.strings_Split s (ba [c]) m w hs hm h1).mono ?_
 rintro e w' ⟨rfl, rfl⟩
 have hlen := Lib.splitB_all (ba [c]) h1 0 (Lib.countB s (ba [c])) s rfl
 have hle : Lib.countB s (ba [c]) ≤ s.size := Lib.countB_le (ba [c]) h1 s.size s (Nat.le_refl _)
 have hmx : Lib.countB s (ba [c]) + 1 ≤ maxLen := by unfold maxLen; omega
 refine ⟨⟨_, rfl, fun k hk => ?_, (splitF s c).map Value.string, ?_, fun i x j y hx hy => ?_⟩, (Below.refl _ _).alloc (Nat.le_refl _) _⟩
 ·simp only [blk, Option.some.injEq] at hk
  subst hk
  exact ⟨Nat.le_refl _, by show _ < (w.heap.push _).size; rw [Array.size_push]; omega⟩
 ·have hl2 : (splitF s c).length = Lib.countB s (ba [c]) + 1 := hlen
  rw [hl2]
  refine ⟨by rw [List.length_map, hl2]; simp [sz], .inr ⟨w.heap.size, _, _, rfl, Nat.zero_le _, heap_alloc_new w _, Nat.le_refl _, hmx, ?_, ?_⟩⟩
  ·rw [List.size_toArray, List.length_map, hlen]; simp [sz]
  ·simp only [sz, Nat.mul_one]
   exact List.take_of_length_le (by rw [List.length_map, hlen]; exact Nat.le_refl _)
 ·rcases j with _ | j
  ·simp only [enc, List.getElem?_cons_zero, Option.some.injEq] at hy
   subst hy
   exact ⟨.string x, by simp [sz, hx], .lit _⟩
  ·simp [enc] at hy
theorem plain_cell {w : World} {ad : Addr} {u : Value} (h : w.cell? ad = some u) : ∃ b o, ad = ⟨b, o, none⟩ := by
 obtain ⟨b, o, s⟩ := ad
 cases s with
 | none => exact ⟨b, o, rfl⟩
 | some s => simp [World.cell?] at h; split at h <;> simp at h
theorem conJoin (xs : List ByteArray) (sep : ByteArray) (hlen : (joinF xs sep).size ≤ 140737488355328) (hl : xs.length ≤ 140737488355328) : Con Tryz.prog I0 92 [.row .str xs, vs sep] (.val (vs (joinF xs sep))) := by
 intro w fz vs hI hfz hR
 obtain ⟨u, v, rfl, h1, h2⟩ := RL_two hR
 obtain ⟨A, c, rfl, hc, hm, hel⟩ := h1.row_inv
 obtain rfl := h2.lit_inv
 have fin : ∀ e w', (e = .returned (.string (joinF xs sep)) ∧ Below w.heap.size w w') → Post w fz w' e (.val (vs (joinF xs sep))) ∧ Below w.heap.size w w' := fun e w' h => ⟨⟨_, h.1, .lit _⟩, h.2⟩
 cases xs with
 | nil =>
  refine (Tryz.strings_Join_none A c sep w).mono ?_
  rintro e w' ⟨rfl, rfl⟩
  exact fin _ _ ⟨by rfl, Below.refl _ _⟩
 | cons y ys =>
  obtain ⟨ad, rfl, _, hlt, hcell⟩ := hel 0 y rfl
  obtain ⟨u, hu, _⟩ := hcell 0 (vs y) rfl
  have e0 : ad.add (0 * sz .str + 0) = ad := by simp [Addr.add]
  rw [e0] at hu
  obtain ⟨b, o, rfl⟩ := plain_cell hu
  refine (Tryz.strings_Join b o c (y :: ys) sep w (fun j x hx => ?_) hlt hl hc (by simpa [joinF, ByteArray.size] using hlen)).mono fin
  obtain ⟨ad, hA, _, _, hcell⟩ := hel j x hx
  injection hA with hA
  subst hA
  obtain ⟨u, hu, hr⟩ := hcell 0 (vs x) rfl
  obtain rfl := hr.lit_inv
  have e1 : (⟨b, o, none⟩ : Addr).add (j * sz .str + 0) = ⟨b, o + j, none⟩ := by
   simp only [sz, Nat.mul_one, Nat.add_zero]
   unfold Addr.add
   split
   ·rename_i hz; subst hz; rfl
   ·rfl
  rw [e1] at hu
  exact hu
def nameOk (s : ByteArray) (i : Nat) : Bool :=
 ((decide (bitsOr .u8 (byteAt s (i : Int)) 32 ≥ 97) && decide (bitsOr .u8 (byteAt s (i : Int)) 32 ≤ 122)) || byteAt s (i : Int) == 95) || (!((i : Int) == 0) && (!decide (byteAt s (i : Int) < 48) && !decide (byteAt s (i : Int) > 57)))
def nameF (s : ByteArray) : Bool := (List.range s.size).all (nameOk s) && (decide (s.size ≠ 0) && decide ((s.size : Int) ≤ 2000))
theorem all_no {n : Nat} {q : Nat → Bool} {i : Nat} (h : i < n) (hn : q i = false) : (List.range n).all q = false := List.all_eq_false.2 ⟨i, by simpa using h, by simp [hn]⟩
theorem nameF_no {s : ByteArray} {i : Nat} (h : i < s.size) (hn : nameOk s i = false) : nameF s = false := by
 have : (List.range s.size).all (nameOk s) = false := List.all_eq_false.2 ⟨i, by simpa using h, by simp [hn]⟩
 simp [nameF, this]
theorem nameF_yes {s : ByteArray} (h : ∀ j, j < s.size → nameOk s j = true) : nameF s = (decide (s.size ≠ 0) && decide ((s.size : Int) ≤ 2000)) := by
 have : (List.range s.size).all (nameOk s) = true := List.all_eq_true.2 (fun j hj => h j (by simpa using hj))
 simp [nameF, this]
theorem ba_nil_ne (s : ByteArray) : (!(s.toList == (ba []).toList)) = decide (s.size ≠ 0) := by
 have h1 : (ba []).toList = [] := by rw [Lib.toList_data]
 have h2 : s.toList = s.data.toList := Lib.toList_data s
 have h3 := Lib.size_eq s
 rw [h1, h2, h3]
 cases s.data.toList with
 | nil => rfl
 | cons x l => rfl
theorem con37 (s : ByteArray) (hs0 : s.size < 4294967281) : Con Tryz.prog I0 37 [vs s] (.val (vb (nameF s))) := by
 refine con_of Tryz.func37 rfl (Nat.le_of_ble_eq_true rfl) stab (fun w0 fz a hI hs => ?_)
 refine wp_seq ?_
 refine wN hs hI [] [0] [] (True ∧ True) .norm [(0, vs s)] [] (by kernel_rfl) ⟨tv, tv⟩ (fun a w hs => ?_)
 refine then_norm ?_
 refine wp_seq ?_
 refine wp_seq ?_
 refine wN hs hI [] [0, 7, 8] [] (tr 3 True) .norm [(0, vs s), (7, vi (s.size : Int)), (8, vi 0)] [] (by kernel_rfl) (tr_mk tv 3) (fun a w hs => ?_)
 refine then_norm ?_
 refine wp_block ?_
 refine loop_L (N := Tryz.f37.ntmps) (w0 := w0) (ow := noO fz) (α := Nat) (fun p => [(0, vs s), (7, vi (s.size : Int)), (8, vi (p : Int))]) (fun p => []) (fun p => p ≤ s.size ∧ ∀ j, j < p → nameOk s j = true) (fun p => s.size - p) 0 ?_ ?_ ?_
 ·exact ⟨Nat.zero_le _, fun j hj => absurd hj (Nat.not_lt_zero _)⟩
 ·(have e0_ : (0) = (((0 : Nat) : Int)) := (by first | rfl | (rfl)); exact (hs.cst [(0, vs s), (7, vi (s.size : Int)), (8, vi ((0 : Nat) : Int))] [] (by first | rfl | (rw [e0_]; done) | (simp only [e0_]; done) | (simp only [e0_]; rfl))).rm [] (by kernel_rfl))
 rintro i hJ a w hs
 obtain ⟨hi, hall⟩ := hJ
 rcases bt (decide ((i : Int) < (s.size : Int))) with b1 | b1
 ·skip
  have n1 := of_decide_eq_true b1
  rcases bt (decide ((bitsOr .u8 (byteAt s (i : Int)) 32) ≥ 97)) with b2 | b2
  ·skip
   have n2 := of_decide_eq_true b2
   rcases bt (decide ((bitsOr .u8 (byteAt s (i : Int)) 32) ≤ 122)) with b3 | b3
   ·skip
    have n3 := of_decide_eq_true b3
    refine wL hs hI [(5, ⟨[], gg [3, 4, 1005, 1011] [7, 8, 9, 10], []⟩), (6, ⟨[], gg [] [3, 4, 5, 10, 11, 16, 1017], []⟩)] [true, false] [0, 7, 8] [] ((True ∧ True) ∧ (((ty b1) ∧ True) ∧ ((True ∧ True ∧ True) ∧ (True ∧ True ∧ (0 ≤ (i : Int) ∧ (i : Int) < s.size) ∧ True ∧ True ∧ True) ∧ (tr 3 (rp 3 b2 ((ty b3) ∧ (ty b3) ∧ (ty b3) ∧ (ty b3) ∧ (ty b3) ∧ True ∧ True))) ∧ (tr 3 ((false = false) ∧ (false = false) ∧ (false = false) ∧ (tr 4 ((false = false) ∧ (false = false) ∧ (tr 4 ((false = false) ∧ (false = false) ∧ True)))))) ∧ (false = false) ∧ True) ∧ (InR .i64 ((i : Int) + 1)) ∧ True ∧ True)) .norm [(0, vs s), (7, vi (s.size : Int)), (8, vi ((i : Int) + 1))] [] ⟨tv, ⟨tv, tv⟩⟩ (by kernel_rfl) ⟨⟨tv, tv⟩, ⟨b1, tv⟩, ⟨⟨tv, tv, tv⟩, ⟨tv, tv, (by omega), tv, tv, tv⟩, tr_mk (rp_mk (⟨b3, b3, b3, b3, b3, tv, tv⟩) 3) 3, tr_mk (⟨rfl, rfl, rfl, tr_mk (⟨rfl, rfl, tr_mk (⟨rfl, rfl, tv⟩) 4⟩) 4⟩) 3, rfl, tv⟩, (inR64 (by omega) (by omega)), tv, tv⟩ (fun a w hs => ?_)
    refine then_norm ⟨i + 1, ⟨by omega, fun j hj => by rcases Nat.lt_succ_iff_lt_or_eq.1 hj with h | rfl; exact hall j h; simp only [nameOk, b1, b2, b3]; rfl⟩, by omega, ?_⟩
    (have e0_ : ((i : Int) + 1) = ((((i + 1) : Nat) : Int)) := (by first | rfl | (omega)); exact (hs.cst [(0, vs s), (7, vi (s.size : Int)), (8, vi (((i + 1) : Nat) : Int))] [] (by first | rfl | (rw [e0_]; done) | (simp only [e0_]; done) | (simp only [e0_]; rfl))).rm [] (by kernel_rfl))
   ·skip
    have n3 := of_decide_eq_false b3
    rcases bt ((byteAt s (i : Int)) == 95) with b4 | b4
    ·skip
     have n4 := eq_of_beq b4
     refine wL hs hI [(5, ⟨[], gg [3, 4, 1005, 7, 8, 9, 10] [1011], []⟩), (6, ⟨[], gg [] [3, 4, 5, 10, 11, 16, 1017], []⟩)] [true, false] [0, 7, 8] [] ((True ∧ True) ∧ (((ty b1) ∧ True) ∧ ((True ∧ True ∧ True) ∧ (True ∧ True ∧ (0 ≤ (i : Int) ∧ (i : Int) < s.size) ∧ True ∧ True ∧ True) ∧ (tr 3 (rp 3 b2 (rp 2 b3 ((ty b3) ∧ (0 ≤ (i : Int) ∧ (i : Int) < s.size) ∧ (rp 2 b3 True))))) ∧ (tr 3 ((ty (ng1 b4)) ∧ (ty (ng1 b4)) ∧ (ty (ng1 b4)) ∧ (tr 4 ((ty (ng1 b4)) ∧ (ty (ng1 b4)) ∧ (tr 4 ((ty (ng1 b4)) ∧ (ty (ng1 b4)) ∧ True)))))) ∧ (false = false) ∧ True) ∧ (InR .i64 ((i : Int) + 1)) ∧ True ∧ True)) .norm [(0, vs s), (7, vi (s.size : Int)), (8, vi ((i : Int) + 1))] [] ⟨tv, ⟨tv, tv⟩⟩ (by kernel_rfl) ⟨⟨tv, tv⟩, ⟨b1, tv⟩, ⟨⟨tv, tv, tv⟩, ⟨tv, tv, (by omega), tv, tv, tv⟩, tr_mk (rp_mk (rp_mk (⟨b3, (by omega), rp_mk (tv) 2⟩) 2) 3) 3, tr_mk (⟨(ng1 b4), (ng1 b4), (ng1 b4), tr_mk (⟨(ng1 b4), (ng1 b4), tr_mk (⟨(ng1 b4), (ng1 b4), tv⟩) 4⟩) 4⟩) 3, rfl, tv⟩, (inR64 (by omega) (by omega)), tv, tv⟩ (fun a w hs => ?_)
     refine then_norm ⟨i + 1, ⟨by omega, fun j hj => by rcases Nat.lt_succ_iff_lt_or_eq.1 hj with h | rfl; exact hall j h; simp only [nameOk, b1, b2, b3, b4]; rfl⟩, by omega, ?_⟩
     (have e0_ : ((i : Int) + 1) = ((((i + 1) : Nat) : Int)) := (by first | rfl | (omega)); exact (hs.cst [(0, vs s), (7, vi (s.size : Int)), (8, vi (((i + 1) : Nat) : Int))] [] (by first | rfl | (rw [e0_]; done) | (simp only [e0_]; done) | (simp only [e0_]; rfl))).rm [] (by kernel_rfl))
    ·skip
     have n4 := beq_eq_false_iff_ne.1 b4
     rcases bt ((i : Int) == 0) with b5 | b5
     ·skip
      have n5 := eq_of_beq b5
      refine wL hs hI [(5, ⟨[], gg [3, 4, 1005, 7, 8, 9, 10] [1011], []⟩), (6, ⟨[], gg [3, 4, 5, 10, 1010, 11, 16, 1016, 1017] [6, 7, 8, 9, 12, 13, 14, 15], []⟩)] [true, true] [2] [] ((True ∧ True) ∧ (((ty b1) ∧ True) ∧ (True ∧ True ∧ True) ∧ (True ∧ True ∧ (0 ≤ (i : Int) ∧ (i : Int) < s.size) ∧ True ∧ True ∧ True) ∧ (tr 3 (rp 3 b2 (rp 2 b3 ((ty b3) ∧ (0 ≤ (i : Int) ∧ (i : Int) < s.size) ∧ (rp 2 b3 True))))) ∧ (tr 3 (rp 3 (ng0 b4) ((ty b5) ∧ (ty b5) ∧ (ty b5) ∧ (ty b5) ∧ (ty (ng0 b4)) ∧ (ty b5) ∧ (ty (ng0 b4)) ∧ True ∧ (true = true) ∧ (true = true) ∧ (true = true) ∧ (true = true) ∧ (ty (ng0 b4)) ∧ (true = true) ∧ (ty (ng0 b4)) ∧ True))) ∧ (true = true) ∧ (True ∧ True) ∧ True)) .ret [(2, vb false)] [] ⟨tv, ⟨tv, tv⟩⟩ (by kernel_rfl) ⟨⟨tv, tv⟩, ⟨b1, tv⟩, ⟨tv, tv, tv⟩, ⟨tv, tv, (by omega), tv, tv, tv⟩, tr_mk (rp_mk (rp_mk (⟨b3, (by omega), rp_mk (tv) 2⟩) 2) 3) 3, tr_mk (rp_mk (⟨b5, b5, b5, b5, (ng0 b4), b5, (ng0 b4), tv, rfl, rfl, rfl, rfl, (ng0 b4), rfl, (ng0 b4), tv⟩) 3) 3, rfl, ⟨tv, tv⟩, tv⟩ (fun a w hs => ?_)
      refine then_ret ?_
      refine inb_ret ?_
      refine then_ret ?_
      exact FnQ_cast (out := .val (vb false)) (by rw [nameF_no (s := s) (i := i) (by omega) (by simp only [nameOk, b1, b2, b3, b4, b5]; rfl)]) (ret_ok [] hs ⟨by kernel_rfl, rfl⟩)
     ·skip
      have n5 := beq_eq_false_iff_ne.1 b5
      rcases bt (decide ((byteAt s (i : Int)) < 48)) with b6 | b6
      ·skip
       have n6 := of_decide_eq_true b6
       refine wL hs hI [(5, ⟨[], gg [3, 4, 1005, 7, 8, 9, 10] [1011], []⟩), (6, ⟨[], gg [3, 4, 5, 6, 7, 8, 9, 10, 11, 16, 1016, 1017] [1010, 12, 13, 14, 15], []⟩)] [true, true] [2] [] ((True ∧ True) ∧ (((ty b1) ∧ True) ∧ (True ∧ True ∧ True) ∧ (True ∧ True ∧ (0 ≤ (i : Int) ∧ (i : Int) < s.size) ∧ True ∧ True ∧ True) ∧ (tr 3 (rp 3 b2 (rp 2 b3 ((ty b3) ∧ (0 ≤ (i : Int) ∧ (i : Int) < s.size) ∧ (rp 2 b3 True))))) ∧ (tr 3 (rp 3 (ng0 b4) (rp 2 b5 ((ty b5) ∧ (0 ≤ (i : Int) ∧ (i : Int) < s.size) ∧ (ty b5) ∧ True ∧ (ty (ng0 b4)) ∧ (ty b5) ∧ (ty (ng0 b4)) ∧ True ∧ (ty b6) ∧ (ty b6) ∧ (ty b6) ∧ (ty b6) ∧ (ty (ng0 b4)) ∧ (ty b6) ∧ (ty (ng0 b4)) ∧ True)))) ∧ (true = true) ∧ (True ∧ True) ∧ True)) .ret [(2, vb false)] [] ⟨tv, ⟨tv, tv⟩⟩ (by kernel_rfl) ⟨⟨tv, tv⟩, ⟨b1, tv⟩, ⟨tv, tv, tv⟩, ⟨tv, tv, (by omega), tv, tv, tv⟩, tr_mk (rp_mk (rp_mk (⟨b3, (by omega), rp_mk (tv) 2⟩) 2) 3) 3, tr_mk (rp_mk (rp_mk (⟨b5, (by omega), b5, tv, (ng0 b4), b5, (ng0 b4), tv, b6, b6, b6, b6, (ng0 b4), b6, (ng0 b4), tv⟩) 2) 3) 3, rfl, ⟨tv, tv⟩, tv⟩ (fun a w hs => ?_)
       refine then_ret ?_
       refine inb_ret ?_
       refine then_ret ?_
       exact FnQ_cast (out := .val (vb false)) (by rw [nameF_no (s := s) (i := i) (by omega) (by simp only [nameOk, b1, b2, b3, b4, b5, b6]; rfl)]) (ret_ok [] hs ⟨by kernel_rfl, rfl⟩)
      ·skip
       have n6 := of_decide_eq_false b6
       rcases bt (decide ((byteAt s (i : Int)) > 57)) with b7 | b7
       ·skip
        have n7 := of_decide_eq_true b7
        refine wL hs hI [(5, ⟨[], gg [3, 4, 1005, 7, 8, 9, 10] [1011], []⟩), (6, ⟨[], gg [3, 4, 5, 6, 7, 8, 9, 10, 11, 12, 13, 14, 15, 16, 1017] [1010, 1016], []⟩)] [true, true] [2] [] ((True ∧ True) ∧ (((ty b1) ∧ True) ∧ (True ∧ True ∧ True) ∧ (True ∧ True ∧ (0 ≤ (i : Int) ∧ (i : Int) < s.size) ∧ True ∧ True ∧ True) ∧ (tr 3 (rp 3 b2 (rp 2 b3 ((ty b3) ∧ (0 ≤ (i : Int) ∧ (i : Int) < s.size) ∧ (rp 2 b3 True))))) ∧ (tr 3 (rp 3 (ng0 b4) (rp 2 b5 ((ty b5) ∧ (0 ≤ (i : Int) ∧ (i : Int) < s.size) ∧ (ty b5) ∧ True ∧ (ty (ng0 b4)) ∧ (ty b5) ∧ (ty (ng0 b4)) ∧ True ∧ (rp 2 b6 ((ty b6) ∧ (0 ≤ (i : Int) ∧ (i : Int) < s.size) ∧ (ty b6) ∧ True ∧ (ty (ng0 b4)) ∧ (ty b6) ∧ (ty (ng0 b4)) ∧ True)))))) ∧ (ty b7) ∧ (True ∧ True) ∧ True)) .ret [(2, vb false)] [] ⟨tv, ⟨tv, tv⟩⟩ (by kernel_rfl) ⟨⟨tv, tv⟩, ⟨b1, tv⟩, ⟨tv, tv, tv⟩, ⟨tv, tv, (by omega), tv, tv, tv⟩, tr_mk (rp_mk (rp_mk (⟨b3, (by omega), rp_mk (tv) 2⟩) 2) 3) 3, tr_mk (rp_mk (rp_mk (⟨b5, (by omega), b5, tv, (ng0 b4), b5, (ng0 b4), tv, rp_mk (⟨b6, (by omega), b6, tv, (ng0 b4), b6, (ng0 b4), tv⟩) 2⟩) 2) 3) 3, b7, ⟨tv, tv⟩, tv⟩ (fun a w hs => ?_)
        refine then_ret ?_
        refine inb_ret ?_
        refine then_ret ?_
        exact FnQ_cast (out := .val (vb false)) (by rw [nameF_no (s := s) (i := i) (by omega) (by simp only [nameOk, b1, b2, b3, b4, b5, b6, b7]; rfl)]) (ret_ok [] hs ⟨by kernel_rfl, rfl⟩)
       ·skip
        have n7 := of_decide_eq_false b7
        refine wL hs hI [(5, ⟨[], gg [3, 4, 1005, 7, 8, 9, 10] [1011], []⟩), (6, ⟨[], gg [3, 4, 5, 6, 7, 8, 9, 10, 11, 12, 13, 14, 15, 16, 1017] [1010, 1016], []⟩)] [true, false] [0, 7, 8] [] ((True ∧ True) ∧ (((ty b1) ∧ True) ∧ ((True ∧ True ∧ True) ∧ (True ∧ True ∧ (0 ≤ (i : Int) ∧ (i : Int) < s.size) ∧ True ∧ True ∧ True) ∧ (tr 3 (rp 3 b2 (rp 2 b3 ((ty b3) ∧ (0 ≤ (i : Int) ∧ (i : Int) < s.size) ∧ (rp 2 b3 True))))) ∧ (tr 3 (rp 3 (ng0 b4) (rp 2 b5 ((ty b5) ∧ (0 ≤ (i : Int) ∧ (i : Int) < s.size) ∧ (ty b5) ∧ True ∧ (ty (ng0 b4)) ∧ (ty b5) ∧ (ty (ng0 b4)) ∧ True ∧ (rp 2 b6 ((ty b6) ∧ (0 ≤ (i : Int) ∧ (i : Int) < s.size) ∧ (ty b6) ∧ True ∧ (ty (ng0 b4)) ∧ (ty b6) ∧ (ty (ng0 b4)) ∧ True)))))) ∧ (ty b7) ∧ True) ∧ (InR .i64 ((i : Int) + 1)) ∧ True ∧ True)) .norm [(0, vs s), (7, vi (s.size : Int)), (8, vi ((i : Int) + 1))] [] ⟨tv, ⟨tv, tv⟩⟩ (by kernel_rfl) ⟨⟨tv, tv⟩, ⟨b1, tv⟩, ⟨⟨tv, tv, tv⟩, ⟨tv, tv, (by omega), tv, tv, tv⟩, tr_mk (rp_mk (rp_mk (⟨b3, (by omega), rp_mk (tv) 2⟩) 2) 3) 3, tr_mk (rp_mk (rp_mk (⟨b5, (by omega), b5, tv, (ng0 b4), b5, (ng0 b4), tv, rp_mk (⟨b6, (by omega), b6, tv, (ng0 b4), b6, (ng0 b4), tv⟩) 2⟩) 2) 3) 3, b7, tv⟩, (inR64 (by omega) (by omega)), tv, tv⟩ (fun a w hs => ?_)
        refine then_norm ⟨i + 1, ⟨by omega, fun j hj => by rcases Nat.lt_succ_iff_lt_or_eq.1 hj with h | rfl; exact hall j h; simp only [nameOk, b1, b2, b3, b4, b5, b6, b7]; rfl⟩, by omega, ?_⟩
        (have e0_ : ((i : Int) + 1) = ((((i + 1) : Nat) : Int)) := (by first | rfl | (omega)); exact (hs.cst [(0, vs s), (7, vi (s.size : Int)), (8, vi (((i + 1) : Nat) : Int))] [] (by first | rfl | (rw [e0_]; done) | (simp only [e0_]; done) | (simp only [e0_]; rfl))).rm [] (by kernel_rfl))
  ·skip
   have n2 := of_decide_eq_false b2
   rcases bt ((byteAt s (i : Int)) == 95) with b8 | b8
   ·skip
    have n8 := eq_of_beq b8
    refine wL hs hI [(5, ⟨[], gg [7, 8, 9, 10] [3, 4, 1005, 1011], []⟩), (6, ⟨[], gg [] [3, 4, 5, 10, 11, 16, 1017], []⟩)] [true, false] [0, 7, 8] [] ((True ∧ True) ∧ (((ty b1) ∧ True) ∧ ((True ∧ True ∧ True) ∧ (True ∧ True ∧ (0 ≤ (i : Int) ∧ (i : Int) < s.size) ∧ True ∧ True ∧ True) ∧ (tr 3 ((ty b2) ∧ (ty b2) ∧ (ty b2) ∧ True ∧ (false = false) ∧ True ∧ (false = false) ∧ True ∧ (false = false) ∧ (0 ≤ (i : Int) ∧ (i : Int) < s.size) ∧ (false = false) ∧ True ∧ (false = false) ∧ True ∧ True)) ∧ (tr 3 ((ty (ng1 b8)) ∧ (ty (ng1 b8)) ∧ (ty (ng1 b8)) ∧ (tr 4 ((ty (ng1 b8)) ∧ (ty (ng1 b8)) ∧ (tr 4 ((ty (ng1 b8)) ∧ (ty (ng1 b8)) ∧ True)))))) ∧ (false = false) ∧ True) ∧ (InR .i64 ((i : Int) + 1)) ∧ True ∧ True)) .norm [(0, vs s), (7, vi (s.size : Int)), (8, vi ((i : Int) + 1))] [] ⟨tv, ⟨tv, tv⟩⟩ (by kernel_rfl) ⟨⟨tv, tv⟩, ⟨b1, tv⟩, ⟨⟨tv, tv, tv⟩, ⟨tv, tv, (by omega), tv, tv, tv⟩, tr_mk (⟨b2, b2, b2, tv, rfl, tv, rfl, tv, rfl, (by omega), rfl, tv, rfl, tv, tv⟩) 3, tr_mk (⟨(ng1 b8), (ng1 b8), (ng1 b8), tr_mk (⟨(ng1 b8), (ng1 b8), tr_mk (⟨(ng1 b8), (ng1 b8), tv⟩) 4⟩) 4⟩) 3, rfl, tv⟩, (inR64 (by omega) (by omega)), tv, tv⟩ (fun a w hs => ?_)
    refine then_norm ⟨i + 1, ⟨by omega, fun j hj => by rcases Nat.lt_succ_iff_lt_or_eq.1 hj with h | rfl; exact hall j h; simp only [nameOk, b1, b2, b8]; rfl⟩, by omega, ?_⟩
    (have e0_ : ((i : Int) + 1) = ((((i + 1) : Nat) : Int)) := (by first | rfl | (omega)); exact (hs.cst [(0, vs s), (7, vi (s.size : Int)), (8, vi (((i + 1) : Nat) : Int))] [] (by first | rfl | (rw [e0_]; done) | (simp only [e0_]; done) | (simp only [e0_]; rfl))).rm [] (by kernel_rfl))
   ·skip
    have n8 := beq_eq_false_iff_ne.1 b8
    rcases bt ((i : Int) == 0) with b9 | b9
    ·skip
     have n9 := eq_of_beq b9
     refine wL hs hI [(5, ⟨[], gg [7, 8, 9, 10] [3, 4, 1005, 1011], []⟩), (6, ⟨[], gg [3, 4, 5, 10, 1010, 11, 16, 1016, 1017] [6, 7, 8, 9, 12, 13, 14, 15], []⟩)] [true, true] [2] [] ((True ∧ True) ∧ (((ty b1) ∧ True) ∧ (True ∧ True ∧ True) ∧ (True ∧ True ∧ (0 ≤ (i : Int) ∧ (i : Int) < s.size) ∧ True ∧ True ∧ True) ∧ (tr 3 ((ty b2) ∧ (ty b2) ∧ (ty b2) ∧ True ∧ (false = false) ∧ True ∧ (false = false) ∧ True ∧ (false = false) ∧ (0 ≤ (i : Int) ∧ (i : Int) < s.size) ∧ (false = false) ∧ True ∧ (false = false) ∧ True ∧ True)) ∧ (tr 3 (rp 3 (ng0 b8) ((ty b9) ∧ (ty b9) ∧ (ty b9) ∧ (ty b9) ∧ (ty (ng0 b8)) ∧ (ty b9) ∧ (ty (ng0 b8)) ∧ True ∧ (true = true) ∧ (true = true) ∧ (true = true) ∧ (true = true) ∧ (ty (ng0 b8)) ∧ (true = true) ∧ (ty (ng0 b8)) ∧ True))) ∧ (true = true) ∧ (True ∧ True) ∧ True)) .ret [(2, vb false)] [] ⟨tv, ⟨tv, tv⟩⟩ (by kernel_rfl) ⟨⟨tv, tv⟩, ⟨b1, tv⟩, ⟨tv, tv, tv⟩, ⟨tv, tv, (by omega), tv, tv, tv⟩, tr_mk (⟨b2, b2, b2, tv, rfl, tv, rfl, tv, rfl, (by omega), rfl, tv, rfl, tv, tv⟩) 3, tr_mk (rp_mk (⟨b9, b9, b9, b9, (ng0 b8), b9, (ng0 b8), tv, rfl, rfl, rfl, rfl, (ng0 b8), rfl, (ng0 b8), tv⟩) 3) 3, rfl, ⟨tv, tv⟩, tv⟩ (fun a w hs => ?_)
     refine then_ret ?_
     refine inb_ret ?_
     refine then_ret ?_
     exact FnQ_cast (out := .val (vb false)) (by rw [nameF_no (s := s) (i := i) (by omega) (by simp only [nameOk, b1, b2, b8, b9]; rfl)]) (ret_ok [] hs ⟨by kernel_rfl, rfl⟩)
    ·skip
     have n9 := beq_eq_false_iff_ne.1 b9
     rcases bt (decide ((byteAt s (i : Int)) < 48)) with b10 | b10
     ·skip
      have n10 := of_decide_eq_true b10
      refine wL hs hI [(5, ⟨[], gg [7, 8, 9, 10] [3, 4, 1005, 1011], []⟩), (6, ⟨[], gg [3, 4, 5, 6, 7, 8, 9, 10, 11, 16, 1016, 1017] [1010, 12, 13, 14, 15], []⟩)] [true, true] [2] [] ((True ∧ True) ∧ (((ty b1) ∧ True) ∧ (True ∧ True ∧ True) ∧ (True ∧ True ∧ (0 ≤ (i : Int) ∧ (i : Int) < s.size) ∧ True ∧ True ∧ True) ∧ (tr 3 ((ty b2) ∧ (ty b2) ∧ (ty b2) ∧ True ∧ (false = false) ∧ True ∧ (false = false) ∧ True ∧ (false = false) ∧ (0 ≤ (i : Int) ∧ (i : Int) < s.size) ∧ (false = false) ∧ True ∧ (false = false) ∧ True ∧ True)) ∧ (tr 3 (rp 3 (ng0 b8) (rp 2 b9 ((ty b9) ∧ (0 ≤ (i : Int) ∧ (i : Int) < s.size) ∧ (ty b9) ∧ True ∧ (ty (ng0 b8)) ∧ (ty b9) ∧ (ty (ng0 b8)) ∧ True ∧ (ty b10) ∧ (ty b10) ∧ (ty b10) ∧ (ty b10) ∧ (ty (ng0 b8)) ∧ (ty b10) ∧ (ty (ng0 b8)) ∧ True)))) ∧ (true = true) ∧ (True ∧ True) ∧ True)) .ret [(2, vb false)] [] ⟨tv, ⟨tv, tv⟩⟩ (by kernel_rfl) ⟨⟨tv, tv⟩, ⟨b1, tv⟩, ⟨tv, tv, tv⟩, ⟨tv, tv, (by omega), tv, tv, tv⟩, tr_mk (⟨b2, b2, b2, tv, rfl, tv, rfl, tv, rfl, (by omega), rfl, tv, rfl, tv, tv⟩) 3, tr_mk (rp_mk (rp_mk (⟨b9, (by omega), b9, tv, (ng0 b8), b9, (ng0 b8), tv, b10, b10, b10, b10, (ng0 b8), b10, (ng0 b8), tv⟩) 2) 3) 3, rfl, ⟨tv, tv⟩, tv⟩ (fun a w hs => ?_)
      refine then_ret ?_
      refine inb_ret ?_
      refine then_ret ?_
      exact FnQ_cast (out := .val (vb false)) (by rw [nameF_no (s := s) (i := i) (by omega) (by simp only [nameOk, b1, b2, b8, b9, b10]; rfl)]) (ret_ok [] hs ⟨by kernel_rfl, rfl⟩)
     ·skip
      have n10 := of_decide_eq_false b10
      rcases bt (decide ((byteAt s (i : Int)) > 57)) with b11 | b11
      ·skip
       have n11 := of_decide_eq_true b11
       refine wL hs hI [(5, ⟨[], gg [7, 8, 9, 10] [3, 4, 1005, 1011], []⟩), (6, ⟨[], gg [3, 4, 5, 6, 7, 8, 9, 10, 11, 12, 13, 14, 15, 16, 1017] [1010, 1016], []⟩)] [true, true] [2] [] ((True ∧ True) ∧ (((ty b1) ∧ True) ∧ (True ∧ True ∧ True) ∧ (True ∧ True ∧ (0 ≤ (i : Int) ∧ (i : Int) < s.size) ∧ True ∧ True ∧ True) ∧ (tr 3 ((ty b2) ∧ (ty b2) ∧ (ty b2) ∧ True ∧ (false = false) ∧ True ∧ (false = false) ∧ True ∧ (false = false) ∧ (0 ≤ (i : Int) ∧ (i : Int) < s.size) ∧ (false = false) ∧ True ∧ (false = false) ∧ True ∧ True)) ∧ (tr 3 (rp 3 (ng0 b8) (rp 2 b9 ((ty b9) ∧ (0 ≤ (i : Int) ∧ (i : Int) < s.size) ∧ (ty b9) ∧ True ∧ (ty (ng0 b8)) ∧ (ty b9) ∧ (ty (ng0 b8)) ∧ True ∧ (rp 2 b10 ((ty b10) ∧ (0 ≤ (i : Int) ∧ (i : Int) < s.size) ∧ (ty b10) ∧ True ∧ (ty (ng0 b8)) ∧ (ty b10) ∧ (ty (ng0 b8)) ∧ True)))))) ∧ (ty b11) ∧ (True ∧ True) ∧ True)) .ret [(2, vb false)] [] ⟨tv, ⟨tv, tv⟩⟩ (by kernel_rfl) ⟨⟨tv, tv⟩, ⟨b1, tv⟩, ⟨tv, tv, tv⟩, ⟨tv, tv, (by omega), tv, tv, tv⟩, tr_mk (⟨b2, b2, b2, tv, rfl, tv, rfl, tv, rfl, (by omega), rfl, tv, rfl, tv, tv⟩) 3, tr_mk (rp_mk (rp_mk (⟨b9, (by omega), b9, tv, (ng0 b8), b9, (ng0 b8), tv, rp_mk (⟨b10, (by omega), b10, tv, (ng0 b8), b10, (ng0 b8), tv⟩) 2⟩) 2) 3) 3, b11, ⟨tv, tv⟩, tv⟩ (fun a w hs => ?_)
       refine then_ret ?_
       refine inb_ret ?_
       refine then_ret ?_
       exact FnQ_cast (out := .val (vb false)) (by rw [nameF_no (s := s) (i := i) (by omega) (by simp only [nameOk, b1, b2, b8, b9, b10, b11]; rfl)]) (ret_ok [] hs ⟨by kernel_rfl, rfl⟩)
      ·skip
       have n11 := of_decide_eq_false b11
       refine wL hs hI [(5, ⟨[], gg [7, 8, 9, 10] [3, 4, 1005, 1011], []⟩), (6, ⟨[], gg [3, 4, 5, 6, 7, 8, 9, 10, 11, 12, 13, 14, 15, 16, 1017] [1010, 1016], []⟩)] [true, false] [0, 7, 8] [] ((True ∧ True) ∧ (((ty b1) ∧ True) ∧ ((True ∧ True ∧ True) ∧ (True ∧ True ∧ (0 ≤ (i : Int) ∧ (i : Int) < s.size) ∧ True ∧ True ∧ True) ∧ (tr 3 ((ty b2) ∧ (ty b2) ∧ (ty b2) ∧ True ∧ (false = false) ∧ True ∧ (false = false) ∧ True ∧ (false = false) ∧ (0 ≤ (i : Int) ∧ (i : Int) < s.size) ∧ (false = false) ∧ True ∧ (false = false) ∧ True ∧ True)) ∧ (tr 3 (rp 3 (ng0 b8) (rp 2 b9 ((ty b9) ∧ (0 ≤ (i : Int) ∧ (i : Int) < s.size) ∧ (ty b9) ∧ True ∧ (ty (ng0 b8)) ∧ (ty b9) ∧ (ty (ng0 b8)) ∧ True ∧ (rp 2 b10 ((ty b10) ∧ (0 ≤ (i : Int) ∧ (i : Int) < s.size) ∧ (ty b10) ∧ True ∧ (ty (ng0 b8)) ∧ (ty b10) ∧ (ty (ng0 b8)) ∧ True)))))) ∧ (ty b11) ∧ True) ∧ (InR .i64 ((i : Int) + 1)) ∧ True ∧ True)) .norm [(0, vs s), (7, vi (s.size : Int)), (8, vi ((i : Int) + 1))] [] ⟨tv, ⟨tv, tv⟩⟩ (by kernel_rfl) ⟨⟨tv, tv⟩, ⟨b1, tv⟩, ⟨⟨tv, tv, tv⟩, ⟨tv, tv, (by omega), tv, tv, tv⟩, tr_mk (⟨b2, b2, b2, tv, rfl, tv, rfl, tv, rfl, (by omega), rfl, tv, rfl, tv, tv⟩) 3, tr_mk (rp_mk (rp_mk (⟨b9, (by omega), b9, tv, (ng0 b8), b9, (ng0 b8), tv, rp_mk (⟨b10, (by omega), b10, tv, (ng0 b8), b10, (ng0 b8), tv⟩) 2⟩) 2) 3) 3, b11, tv⟩, (inR64 (by omega) (by omega)), tv, tv⟩ (fun a w hs => ?_)
       refine then_norm ⟨i + 1, ⟨by omega, fun j hj => by rcases Nat.lt_succ_iff_lt_or_eq.1 hj with h | rfl; exact hall j h; simp only [nameOk, b1, b2, b8, b9, b10, b11]; rfl⟩, by omega, ?_⟩
       (have e0_ : ((i : Int) + 1) = ((((i + 1) : Nat) : Int)) := (by first | rfl | (omega)); exact (hs.cst [(0, vs s), (7, vi (s.size : Int)), (8, vi (((i + 1) : Nat) : Int))] [] (by first | rfl | (rw [e0_]; done) | (simp only [e0_]; done) | (simp only [e0_]; rfl))).rm [] (by kernel_rfl))
 ·skip
  have n1 := of_decide_eq_false b1
  refine wN hs hI [false] [0] [] ((True ∧ True) ∧ ((ty b1) ∧ True)) (.exit 0) [(0, vs s)] [] (by kernel_rfl) ⟨⟨tv, tv⟩, b1, tv⟩ (fun a w hs => ?_)
  refine then_exit ?_
  refine inb_hit ?_
  refine then_norm ?_
  rcases bt (s.toList == (ba []).toList) with b12 | b12
  ·skip
   have n12 := eq_of_beq b12
   refine wL hs hI [(9, ⟨[], gg [] [3, 4, 5, 1006], []⟩)] [] [2] [] ((tr 3 ((ty (ng1 b12)) ∧ (ty (ng1 b12)) ∧ (ty (ng1 b12)) ∧ (ty (ng1 b12)) ∧ True ∧ True)) ∧ True) .ret [(2, vb false)] [] ⟨tv, tv⟩ (by kernel_rfl) ⟨tr_mk (⟨(ng1 b12), (ng1 b12), (ng1 b12), (ng1 b12), tv, tv⟩) 3, tv⟩ (fun a w hs => ?_)
   exact FnQ_cast (out := .val (vb false)) (by rw [nameF_yes (s := s) (fun j hj => hall j (by omega)), ← ba_nil_ne]; simp only [b1, b12]; try rfl) (ret_ok [] hs ⟨by kernel_rfl, rfl⟩)
  ·skip
   have n12 := beq_eq_false_iff_ne.1 b12
   refine wL hs hI [(9, ⟨[], gg [3, 4, 5, 1006] [], []⟩)] [] [2] [] ((tr 3 (rp 4 (ng0 b12) True)) ∧ True) .ret [(2, vb (decide ((s.size : Int) ≤ 2000)))] [] ⟨tv, tv⟩ (by kernel_rfl) ⟨tr_mk (rp_mk (tv) 4) 3, tv⟩ (fun a w hs => ?_)
   exact FnQ_cast (out := .val (vb (decide ((s.size : Int) ≤ 2000)))) (by rw [nameF_yes (s := s) (fun j hj => hall j (by omega)), ← ba_nil_ne]; simp only [b1, b12]; try rfl) (ret_ok [] hs ⟨by kernel_rfl, rfl⟩)
def idxF {α : Type} (q : α → Bool) : List α → Int
 | [] => -1
 | x :: l => if q x = true then 0 else if idxF q l < 0 then -1 else idxF q l + 1
theorem idxF_no {α : Type} {q : α → Bool} : ∀ {l : List α}, (∀ j, j < l.length → ∀ d, q (l.getD j d) = false) → idxF q l = -1
 | [], _ => rfl
 | x :: l, h => by
  have h0 : q x = false := h 0 (by simp) x
  have h1 := idxF_no (l := l) (fun j hj d => h (j + 1) (by simpa using hj) d)
  simp [idxF, h0, h1]
theorem idxF_at {α : Type} {q : α → Bool} : ∀ {l : List α} {i : Nat} (d : α), i < l.length → q (l.getD i d) = true → (∀ j, j < i → ∀ d, q (l.getD j d) = false) → idxF q l = (i : Int)
 | [], _, _, h, _, _ => by simp at h
 | x :: l, 0, d, h, hq, _ => by
  have hq' : q x = true := hq
  simp [idxF, hq']
 | x :: l, i + 1, d, h, hq, hn => by
  have h0 : q x = false := hn 0 (by omega) x
  have h1 := idxF_at (l := l) (i := i) d (by simpa using h) hq (fun j hj d => hn (j + 1) (by omega) d)
  simp only [idxF, h0, h1]
  rw [if_neg (by decide), if_neg (by omega)]
  omega
theorem idxF_any {α : Type} (q : α → Bool) : ∀ l : List α, decide (idxF q l ≥ 0) = l.any q
 | [] => rfl
 | x :: l => by
  have h1 := idxF_any q l
  by_cases hq : q x = true
  ·have e : idxF q (x :: l) = 0 := by simp [idxF, hq]
   rw [decide_eq_true (by omega), List.any_cons, hq]; rfl
  ·have hq' : q x = false := by simpa using hq
   by_cases hn : idxF q l < 0
   ·have e : idxF q (x :: l) = -1 := by simp [idxF, hq', hn]
    rw [List.any_cons, ← h1, hq', decide_eq_false (by omega), decide_eq_false (by omega)]; rfl
   ·have e : idxF q (x :: l) = idxF q l + 1 := by simp [idxF, hq', hn]
    rw [List.any_cons, ← h1, hq', decide_eq_true (by omega), decide_eq_true (by omega)]; rfl
theorem getD_mem {α : Type} {l : List α} {i : Nat} (h : i < l.length) (d : α) : l.getD i d ∈ l := by
 rw [List.getD_eq_getElem?_getD, List.getElem?_eq_getElem h]; exact List.getElem_mem h
theorem getD_any {α : Type} {l : List α} {i : Nat} (h : i < l.length) (d d' : α) : l.getD i d = l.getD i d' := by
 rw [List.getD_eq_getElem?_getD, List.getD_eq_getElem?_getD, List.getElem?_eq_getElem h]; rfl
def small (s : ByteArray) : Prop := s.size < 4294967281
def badPath (p : List ByteArray) : Bool := ((p.length : Int) == 0) || (decide ((p.length : Int) > 63) || p.any fun n => !nameF n)
def checkF (l : List (List ByteArray)) : Bool := decide ((l.length : Int) ≤ 60) && !(l.any badPath)
theorem con84 (s : ByteArray) (hs0 : s.size < 4294967281) : Con Tryz.prog I0 84 [vs s] (.val (vb (!nameF s))) := by
 refine con_of Tryz.func84 rfl (Nat.le_of_ble_eq_true rfl) stab (fun w0 fz a hI hs => ?_)
 refine wL hs hI [(1, ⟨[(1, ciA 37 [vs s] [] [] (.val (vb (nameF s))))], [], []⟩)] [] [2] [] ((True ∧ True) ∧ ((True ∧ (okArgs [vs s]) ∧ True ∧ True ∧ True) ∧ True)) .ret [(2, vb (!(nameF s)))] [] ⟨⟨⟨ent37, con37 _ (by assumption)⟩, tv⟩, tv⟩ (by kernel_rfl) ⟨⟨tv, tv⟩, ⟨tv, rfl, tv, tv, tv⟩, tv⟩ (fun a w hs => ?_)
 exact FnQ_cast (out := .val (vb (!(nameF s)))) (rfl) (ret_ok [] hs ⟨by kernel_rfl, rfl⟩)
theorem con91 (s : ByteArray) (hs0 : s.size < 4294967281) : Con Tryz.prog I0 91 [vs s] (.val (vb (!nameF s))) := by
 refine con_of Tryz.func91 rfl (Nat.le_of_ble_eq_true rfl) stab (fun w0 fz a hI hs => ?_)
 refine wL hs hI [(1, ⟨[(1, ciA 37 [vs s] [] [] (.val (vb (nameF s))))], [], []⟩)] [] [2] [] ((True ∧ True) ∧ ((True ∧ (okArgs [vs s]) ∧ True ∧ True ∧ True) ∧ True)) .ret [(2, vb (!(nameF s)))] [] ⟨⟨⟨ent37, con37 _ (by assumption)⟩, tv⟩, tv⟩ (by kernel_rfl) ⟨⟨tv, tv⟩, ⟨tv, rfl, tv, tv, tv⟩, tv⟩ (fun a w hs => ?_)
 exact FnQ_cast (out := .val (vb (!(nameF s)))) (rfl) (ret_ok [] hs ⟨by kernel_rfl, rfl⟩)
theorem con140_84 (xs : List ByteArray) (hxs : ∀ x ∈ xs, small x) (hlen : xs.length < 4294967281) : Con Tryz.prog I0 140 [.row .str xs, .lit (.func (.func 84) #[] #[])] (.val (vi (idxF (fun n => !nameF n) xs))) := by
 refine con_of Tryz.func140 rfl (Nat.le_of_ble_eq_true rfl) stab (fun w0 fz a hI hs => ?_)
 refine wp_seq ?_
 refine wN hs hI [] [0, 1] [] (True ∧ True) .norm [(0, .row .str xs), (1, .lit (.func (.func 84) #[] #[]))] [] (by kernel_rfl) ⟨tv, tv⟩ (fun a w hs => ?_)
 refine then_norm ?_
 refine wp_seq ?_
 refine wp_seq ?_
 refine wN hs hI [] [0, 1, 7, 8] [] (tr 3 True) .norm [(0, .row .str xs), (1, .lit (.func (.func 84) #[] #[])), (7, vi (xs.length : Int)), (8, vi 0)] [] (by kernel_rfl) (tr_mk tv 3) (fun a w hs => ?_)
 refine then_norm ?_
 refine wp_block ?_
 refine loop_L (N := Tryz.f140.ntmps) (w0 := w0) (ow := noO fz) (α := Nat) (fun p => [(0, .row .str xs), (1, .lit (.func (.func 84) #[] #[])), (7, vi (xs.length : Int)), (8, vi (p : Int))]) (fun p => []) (fun p => p ≤ xs.length ∧ ∀ j, j < p → ∀ d, (fun n => !nameF n) (xs.getD j d) = false) (fun p => xs.length - p) 0 ?_ ?_ ?_
 ·exact ⟨Nat.zero_le _, fun j hj => absurd hj (Nat.not_lt_zero _)⟩
 ·(have e0_ : (0) = (((0 : Nat) : Int)) := (by first | rfl | (rfl)); exact (hs.cst [(0, .row .str xs), (1, .lit (.func (.func 84) #[] #[])), (7, vi (xs.length : Int)), (8, vi ((0 : Nat) : Int))] [] (by first | rfl | (rw [e0_]; done) | (simp only [e0_]; done) | (simp only [e0_]; rfl))).rm [] (by kernel_rfl))
 rintro i hJ a w hs
 obtain ⟨hi, hall⟩ := hJ
 rcases bt (decide ((i : Int) < (xs.length : Int))) with b1 | b1
 ·skip
  have n1 := of_decide_eq_true b1
  rcases bt (!nameF (xs.getD i (dflt .str))) with b2 | b2
  ·skip
   refine wL hs hI [(4, ⟨[(5, ciA 84 [vs (xs.getD i (dflt .str))] [] [] (.val (vb (!nameF (xs.getD i (dflt .str))))))], [], []⟩)] [true, true] [4] [] ((True ∧ True) ∧ (((ty b1) ∧ True) ∧ (True ∧ True ∧ True) ∧ (tr 3 ((0 ≤ (i : Int) ∧ (i : Int) < xs.length) ∧ True ∧ (okArgs [vs (xs.getD i (dflt .str))]) ∧ True)) ∧ (ty b2) ∧ (True ∧ True ∧ True) ∧ True)) .ret [(4, vi (i : Int))] [] ⟨⟨⟨ent84, con84 _ (hxs _ (getD_mem (by omega) _))⟩, tv⟩, tv⟩ (by kernel_rfl) ⟨⟨tv, tv⟩, ⟨b1, tv⟩, ⟨tv, tv, tv⟩, tr_mk (⟨(by omega), tv, rfl, tv⟩) 3, b2, ⟨tv, tv, tv⟩, tv⟩ (fun a w hs => ?_)
   refine then_ret ?_
   refine inb_ret ?_
   refine then_ret ?_
   exact FnQ_cast (out := .val (vi (i : Int))) (by rw [idxF_at (q := (fun n => !nameF n)) (i := i) (dflt .str) (by omega) (by first | exact b2 | (simp only [b2]; rfl)) (fun j hj d => hall j hj d)]) (ret_ok [] hs ⟨by kernel_rfl, rfl⟩)
  ·skip
   refine wL hs hI [(4, ⟨[(5, ciA 84 [vs (xs.getD i (dflt .str))] [] [] (.val (vb (!nameF (xs.getD i (dflt .str))))))], [], []⟩)] [true, false] [0, 1, 7, 8] [] ((True ∧ True) ∧ (((ty b1) ∧ True) ∧ ((True ∧ True ∧ True) ∧ (tr 3 ((0 ≤ (i : Int) ∧ (i : Int) < xs.length) ∧ True ∧ (okArgs [vs (xs.getD i (dflt .str))]) ∧ True)) ∧ (ty b2) ∧ True) ∧ (InR .i64 ((i : Int) + 1)) ∧ True ∧ True)) .norm [(0, .row .str xs), (1, .lit (.func (.func 84) #[] #[])), (7, vi (xs.length : Int)), (8, vi ((i : Int) + 1))] [] ⟨⟨⟨ent84, con84 _ (hxs _ (getD_mem (by omega) _))⟩, tv⟩, tv⟩ (by kernel_rfl) ⟨⟨tv, tv⟩, ⟨b1, tv⟩, ⟨⟨tv, tv, tv⟩, tr_mk (⟨(by omega), tv, rfl, tv⟩) 3, b2, tv⟩, (inR64 (by omega) (by omega)), tv, tv⟩ (fun a w hs => ?_)
   refine then_norm ⟨i + 1, ⟨by omega, fun j hj d => by rcases Nat.lt_succ_iff_lt_or_eq.1 hj with h | h; exact hall j h d; subst h; rw [getD_any (by omega) d (dflt .str)]; exact b2⟩, by omega, ?_⟩
   (have e0_ : ((i : Int) + 1) = ((((i + 1) : Nat) : Int)) := (by first | rfl | (omega)); exact (hs.cst [(0, .row .str xs), (1, .lit (.func (.func 84) #[] #[])), (7, vi (xs.length : Int)), (8, vi (((i + 1) : Nat) : Int))] [] (by first | rfl | (rw [e0_]; done) | (simp only [e0_]; done) | (simp only [e0_]; rfl))).rm [] (by kernel_rfl))
 ·skip
  have n1 := of_decide_eq_false b1
  refine wN hs hI [false] [] [] ((True ∧ True) ∧ ((ty b1) ∧ True)) (.exit 0) [] [] (by kernel_rfl) ⟨⟨tv, tv⟩, b1, tv⟩ (fun a w hs => ?_)
  refine then_exit ?_
  refine inb_hit ?_
  refine then_norm ?_
  refine wN hs hI [] [4] [] ((True ∧ True) ∧ True) .ret [(4, vi (-1))] [] (by kernel_rfl) ⟨⟨tv, tv⟩, tv⟩ (fun a w hs => ?_)
  exact FnQ_cast (out := .val (vi (-1))) (by rw [idxF_no (q := (fun n => !nameF n)) (fun j hj d => hall j (by omega) d)]) (ret_ok [] hs ⟨by kernel_rfl, rfl⟩)
theorem con83_84 (xs : List ByteArray) (hxs : ∀ x ∈ xs, small x) (hlen : xs.length < 4294967281) : Con Tryz.prog I0 83 [.row .str xs, .lit (.func (.func 84) #[] #[])] (.val (vb (xs.any (fun n => !nameF n)))) := by
 refine con_of Tryz.func83 rfl (Nat.le_of_ble_eq_true rfl) stab (fun w0 fz a hI hs => ?_)
 refine wL hs hI [(1, ⟨[(2, ciA 140 [.row .str xs, .lit (.func (.func 84) #[] #[])] [] [] (.val (vi (idxF (fun n => !nameF n) xs))))], [], []⟩)] [] [4] [] ((True ∧ True) ∧ ((True ∧ True ∧ (okArgs [.row .str xs, .lit (.func (.func 84) #[] #[])]) ∧ True ∧ True ∧ True) ∧ True)) .ret [(4, vb (decide ((idxF (fun n => !nameF n) xs) ≥ 0)))] [] ⟨⟨⟨ent140, con140_84 _ hxs hlen⟩, tv⟩, tv⟩ (by kernel_rfl) ⟨⟨tv, tv⟩, ⟨tv, tv, rfl, tv, tv, tv⟩, tv⟩ (fun a w hs => ?_)
 exact FnQ_cast (out := .val (vb (decide ((idxF (fun n => !nameF n) xs) ≥ 0)))) (by rw [← idxF_any]) (ret_ok [] hs ⟨by kernel_rfl, rfl⟩)
theorem con140_91 (xs : List ByteArray) (hxs : ∀ x ∈ xs, small x) (hlen : xs.length < 4294967281) : Con Tryz.prog I0 140 [.row .str xs, .lit (.func (.func 91) #[] #[])] (.val (vi (idxF (fun n => !nameF n) xs))) := by
 refine con_of Tryz.func140 rfl (Nat.le_of_ble_eq_true rfl) stab (fun w0 fz a hI hs => ?_)
 refine wp_seq ?_
 refine wN hs hI [] [0, 1] [] (True ∧ True) .norm [(0, .row .str xs), (1, .lit (.func (.func 91) #[] #[]))] [] (by kernel_rfl) ⟨tv, tv⟩ (fun a w hs => ?_)
 refine then_norm ?_
 refine wp_seq ?_
 refine wp_seq ?_
 refine wN hs hI [] [0, 1, 7, 8] [] (tr 3 True) .norm [(0, .row .str xs), (1, .lit (.func (.func 91) #[] #[])), (7, vi (xs.length : Int)), (8, vi 0)] [] (by kernel_rfl) (tr_mk tv 3) (fun a w hs => ?_)
 refine then_norm ?_
 refine wp_block ?_
 refine loop_L (N := Tryz.f140.ntmps) (w0 := w0) (ow := noO fz) (α := Nat) (fun p => [(0, .row .str xs), (1, .lit (.func (.func 91) #[] #[])), (7, vi (xs.length : Int)), (8, vi (p : Int))]) (fun p => []) (fun p => p ≤ xs.length ∧ ∀ j, j < p → ∀ d, (fun n => !nameF n) (xs.getD j d) = false) (fun p => xs.length - p) 0 ?_ ?_ ?_
 ·exact ⟨Nat.zero_le _, fun j hj => absurd hj (Nat.not_lt_zero _)⟩
 ·(have e0_ : (0) = (((0 : Nat) : Int)) := (by first | rfl | (rfl)); exact (hs.cst [(0, .row .str xs), (1, .lit (.func (.func 91) #[] #[])), (7, vi (xs.length : Int)), (8, vi ((0 : Nat) : Int))] [] (by first | rfl | (rw [e0_]; done) | (simp only [e0_]; done) | (simp only [e0_]; rfl))).rm [] (by kernel_rfl))
 rintro i hJ a w hs
 obtain ⟨hi, hall⟩ := hJ
 rcases bt (decide ((i : Int) < (xs.length : Int))) with b1 | b1
 ·skip
  have n1 := of_decide_eq_true b1
  rcases bt (!nameF (xs.getD i (dflt .str))) with b2 | b2
  ·skip
   refine wL hs hI [(4, ⟨[(5, ciA 91 [vs (xs.getD i (dflt .str))] [] [] (.val (vb (!nameF (xs.getD i (dflt .str))))))], [], []⟩)] [true, true] [4] [] ((True ∧ True) ∧ (((ty b1) ∧ True) ∧ (True ∧ True ∧ True) ∧ (tr 3 ((0 ≤ (i : Int) ∧ (i : Int) < xs.length) ∧ True ∧ (okArgs [vs (xs.getD i (dflt .str))]) ∧ True)) ∧ (ty b2) ∧ (True ∧ True ∧ True) ∧ True)) .ret [(4, vi (i : Int))] [] ⟨⟨⟨ent91, con91 _ (hxs _ (getD_mem (by omega) _))⟩, tv⟩, tv⟩ (by kernel_rfl) ⟨⟨tv, tv⟩, ⟨b1, tv⟩, ⟨tv, tv, tv⟩, tr_mk (⟨(by omega), tv, rfl, tv⟩) 3, b2, ⟨tv, tv, tv⟩, tv⟩ (fun a w hs => ?_)
   refine then_ret ?_
   refine inb_ret ?_
   refine then_ret ?_
   exact FnQ_cast (out := .val (vi (i : Int))) (by rw [idxF_at (q := (fun n => !nameF n)) (i := i) (dflt .str) (by omega) (by first | exact b2 | (simp only [b2]; rfl)) (fun j hj d => hall j hj d)]) (ret_ok [] hs ⟨by kernel_rfl, rfl⟩)
  ·skip
   refine wL hs hI [(4, ⟨[(5, ciA 91 [vs (xs.getD i (dflt .str))] [] [] (.val (vb (!nameF (xs.getD i (dflt .str))))))], [], []⟩)] [true, false] [0, 1, 7, 8] [] ((True ∧ True) ∧ (((ty b1) ∧ True) ∧ ((True ∧ True ∧ True) ∧ (tr 3 ((0 ≤ (i : Int) ∧ (i : Int) < xs.length) ∧ True ∧ (okArgs [vs (xs.getD i (dflt .str))]) ∧ True)) ∧ (ty b2) ∧ True) ∧ (InR .i64 ((i : Int) + 1)) ∧ True ∧ True)) .norm [(0, .row .str xs), (1, .lit (.func (.func 91) #[] #[])), (7, vi (xs.length : Int)), (8, vi ((i : Int) + 1))] [] ⟨⟨⟨ent91, con91 _ (hxs _ (getD_mem (by omega) _))⟩, tv⟩, tv⟩ (by kernel_rfl) ⟨⟨tv, tv⟩, ⟨b1, tv⟩, ⟨⟨tv, tv, tv⟩, tr_mk (⟨(by omega), tv, rfl, tv⟩) 3, b2, tv⟩, (inR64 (by omega) (by omega)), tv, tv⟩ (fun a w hs => ?_)
   refine then_norm ⟨i + 1, ⟨by omega, fun j hj d => by rcases Nat.lt_succ_iff_lt_or_eq.1 hj with h | h; exact hall j h d; subst h; rw [getD_any (by omega) d (dflt .str)]; exact b2⟩, by omega, ?_⟩
   (have e0_ : ((i : Int) + 1) = ((((i + 1) : Nat) : Int)) := (by first | rfl | (omega)); exact (hs.cst [(0, .row .str xs), (1, .lit (.func (.func 91) #[] #[])), (7, vi (xs.length : Int)), (8, vi (((i + 1) : Nat) : Int))] [] (by first | rfl | (rw [e0_]; done) | (simp only [e0_]; done) | (simp only [e0_]; rfl))).rm [] (by kernel_rfl))
 ·skip
  have n1 := of_decide_eq_false b1
  refine wN hs hI [false] [] [] ((True ∧ True) ∧ ((ty b1) ∧ True)) (.exit 0) [] [] (by kernel_rfl) ⟨⟨tv, tv⟩, b1, tv⟩ (fun a w hs => ?_)
  refine then_exit ?_
  refine inb_hit ?_
  refine then_norm ?_
  refine wN hs hI [] [4] [] ((True ∧ True) ∧ True) .ret [(4, vi (-1))] [] (by kernel_rfl) ⟨⟨tv, tv⟩, tv⟩ (fun a w hs => ?_)
  exact FnQ_cast (out := .val (vi (-1))) (by rw [idxF_no (q := (fun n => !nameF n)) (fun j hj d => hall j (by omega) d)]) (ret_ok [] hs ⟨by kernel_rfl, rfl⟩)
theorem con83_91 (xs : List ByteArray) (hxs : ∀ x ∈ xs, small x) (hlen : xs.length < 4294967281) : Con Tryz.prog I0 83 [.row .str xs, .lit (.func (.func 91) #[] #[])] (.val (vb (xs.any (fun n => !nameF n)))) := by
 refine con_of Tryz.func83 rfl (Nat.le_of_ble_eq_true rfl) stab (fun w0 fz a hI hs => ?_)
 refine wL hs hI [(1, ⟨[(2, ciA 140 [.row .str xs, .lit (.func (.func 91) #[] #[])] [] [] (.val (vi (idxF (fun n => !nameF n) xs))))], [], []⟩)] [] [4] [] ((True ∧ True) ∧ ((True ∧ True ∧ (okArgs [.row .str xs, .lit (.func (.func 91) #[] #[])]) ∧ True ∧ True ∧ True) ∧ True)) .ret [(4, vb (decide ((idxF (fun n => !nameF n) xs) ≥ 0)))] [] ⟨⟨⟨ent140, con140_91 _ hxs hlen⟩, tv⟩, tv⟩ (by kernel_rfl) ⟨⟨tv, tv⟩, ⟨tv, tv, rfl, tv, tv, tv⟩, tv⟩ (fun a w hs => ?_)
 exact FnQ_cast (out := .val (vb (decide ((idxF (fun n => !nameF n) xs) ≥ 0)))) (by rw [← idxF_any]) (ret_ok [] hs ⟨by kernel_rfl, rfl⟩)
theorem con90 (xs : List ByteArray) (hxs : ∀ x ∈ xs, small x) (hlen : xs.length < 4294967281) : Con Tryz.prog I0 90 [.row .str xs] (.val (vb (badPath xs))) := by
 refine con_of Tryz.func90 rfl (Nat.le_of_ble_eq_true rfl) stab (fun w0 fz a hI hs => ?_)
 rcases bt ((xs.length : Int) == 0) with b1 | b1
 ·skip
  have n1 := eq_of_beq b1
  refine wL hs hI [(1, ⟨[], gg [1007, 1011] [4, 5, 6, 9, 10], []⟩)] [] [2] [] ((True ∧ True) ∧ ((tr 4 ((ty b1) ∧ (ty b1) ∧ (ty b1) ∧ (ty b1) ∧ True ∧ (true = true) ∧ (true = true) ∧ (true = true) ∧ True ∧ True)) ∧ True)) .ret [(2, vb true)] [] ⟨tv, tv⟩ (by kernel_rfl) ⟨⟨tv, tv⟩, tr_mk (⟨b1, b1, b1, b1, tv, rfl, rfl, rfl, tv, tv⟩) 4, tv⟩ (fun a w hs => ?_)
  exact FnQ_cast (out := .val (vb true)) (by simp only [badPath, b1]; try rfl) (ret_ok [] hs ⟨by kernel_rfl, rfl⟩)
 ·skip
  have n1 := beq_eq_false_iff_ne.1 b1
  rcases bt (decide ((xs.length : Int) > 63)) with b2 | b2
  ·skip
   have n2 := of_decide_eq_true b2
   refine wL hs hI [(1, ⟨[], gg [4, 5, 6, 1011] [1007, 9, 10], []⟩)] [] [2] [] ((True ∧ True) ∧ ((tr 4 (rp 4 b1 ((ty b2) ∧ (ty b2) ∧ (ty b2) ∧ True ∧ True))) ∧ True)) .ret [(2, vb true)] [] ⟨tv, tv⟩ (by kernel_rfl) ⟨⟨tv, tv⟩, tr_mk (rp_mk (⟨b2, b2, b2, tv, tv⟩) 4) 4, tv⟩ (fun a w hs => ?_)
   exact FnQ_cast (out := .val (vb true)) (by simp only [badPath, b1, b2]; try rfl) (ret_ok [] hs ⟨by kernel_rfl, rfl⟩)
  ·skip
   have n2 := of_decide_eq_false b2
   refine wL hs hI [(1, ⟨[(10, ciA 83 [.row .str xs, .lit (.func (.func 91) #[] #[])] [] [] (.val (vb (xs.any (fun n => !nameF n)))))], gg [4, 5, 6, 9, 10] [1007, 1011], []⟩)] [] [2] [] ((True ∧ True) ∧ ((tr 4 (rp 4 b1 ((ty b2) ∧ True ∧ (ty b2) ∧ (okArgs [.row .str xs, .lit (.func (.func 91) #[] #[])]) ∧ (ty b2) ∧ True ∧ True))) ∧ True)) .ret [(2, vb (xs.any (fun n => !nameF n)))] [] ⟨⟨⟨ent83, con83_91 _ hxs hlen⟩, tv⟩, tv⟩ (by kernel_rfl) ⟨⟨tv, tv⟩, tr_mk (rp_mk (⟨b2, tv, b2, rfl, b2, tv, tv⟩) 4) 4, tv⟩ (fun a w hs => ?_)
   exact FnQ_cast (out := .val (vb (xs.any (fun n => !nameF n)))) (by simp only [badPath, b1, b2]; try rfl) (ret_ok [] hs ⟨by kernel_rfl, rfl⟩)
def smalls (p : List ByteArray) : Prop := (∀ x ∈ p, small x) ∧ p.length < 4294967281
theorem con146 (xs : List (List ByteArray)) (hxs : ∀ x ∈ xs, smalls x) (hlen : xs.length < 4294967281) : Con Tryz.prog I0 146 [.row .strs xs, .lit (.func (.func 90) #[] #[])] (.val (vi (idxF badPath xs))) := by
 refine con_of Tryz.func146 rfl (Nat.le_of_ble_eq_true rfl) stab (fun w0 fz a hI hs => ?_)
 refine wp_seq ?_
 refine wN hs hI [] [0, 1] [] (True ∧ True) .norm [(0, .row .strs xs), (1, .lit (.func (.func 90) #[] #[]))] [] (by kernel_rfl) ⟨tv, tv⟩ (fun a w hs => ?_)
 refine then_norm ?_
 refine wp_seq ?_
 refine wp_seq ?_
 refine wN hs hI [] [0, 1, 7, 8] [] (tr 3 True) .norm [(0, .row .strs xs), (1, .lit (.func (.func 90) #[] #[])), (7, vi (xs.length : Int)), (8, vi 0)] [] (by kernel_rfl) (tr_mk tv 3) (fun a w hs => ?_)
 refine then_norm ?_
 refine wp_block ?_
 refine loop_L (N := Tryz.f146.ntmps) (w0 := w0) (ow := noO fz) (α := Nat) (fun p => [(0, .row .strs xs), (1, .lit (.func (.func 90) #[] #[])), (7, vi (xs.length : Int)), (8, vi (p : Int))]) (fun p => []) (fun p => p ≤ xs.length ∧ ∀ j, j < p → ∀ d, badPath (xs.getD j d) = false) (fun p => xs.length - p) 0 ?_ ?_ ?_
 ·exact ⟨Nat.zero_le _, fun j hj => absurd hj (Nat.not_lt_zero _)⟩
 ·(have e0_ : (0) = (((0 : Nat) : Int)) := (by first | rfl | (rfl)); exact (hs.cst [(0, .row .strs xs), (1, .lit (.func (.func 90) #[] #[])), (7, vi (xs.length : Int)), (8, vi ((0 : Nat) : Int))] [] (by first | rfl | (rw [e0_]; done) | (simp only [e0_]; done) | (simp only [e0_]; rfl))).rm [] (by kernel_rfl))
 rintro i hJ a w hs
 obtain ⟨hi, hall⟩ := hJ
 rcases bt (decide ((i : Int) < (xs.length : Int))) with b1 | b1
 ·skip
  have n1 := of_decide_eq_true b1
  rcases bt (badPath (xs.getD i (dflt .strs))) with b2 | b2
  ·skip
   refine wL hs hI [(4, ⟨[(5, ciA 90 [.row .str (xs.getD i (dflt .strs))] [] [] (.val (vb (badPath (xs.getD i (dflt .strs))))))], [], []⟩)] [true, true] [4] [] ((True ∧ True) ∧ (((ty b1) ∧ True) ∧ (True ∧ True ∧ True) ∧ (tr 3 ((0 ≤ (i : Int) ∧ (i : Int) < xs.length) ∧ True ∧ (okArgs [.row .str (xs.getD i (dflt .strs))]) ∧ True)) ∧ (ty b2) ∧ (True ∧ True ∧ True) ∧ True)) .ret [(4, vi (i : Int))] [] ⟨⟨⟨ent90, con90 _ (hxs _ (getD_mem (by omega) _)).1 (hxs _ (getD_mem (by omega) _)).2⟩, tv⟩, tv⟩ (by kernel_rfl) ⟨⟨tv, tv⟩, ⟨b1, tv⟩, ⟨tv, tv, tv⟩, tr_mk (⟨(by omega), tv, rfl, tv⟩) 3, b2, ⟨tv, tv, tv⟩, tv⟩ (fun a w hs => ?_)
   refine then_ret ?_
   refine inb_ret ?_
   refine then_ret ?_
   exact FnQ_cast (out := .val (vi (i : Int))) (by rw [idxF_at (q := badPath) (i := i) (dflt .strs) (by omega) b2 (fun j hj d => hall j hj d)]) (ret_ok [] hs ⟨by kernel_rfl, rfl⟩)
  ·skip
   refine wL hs hI [(4, ⟨[(5, ciA 90 [.row .str (xs.getD i (dflt .strs))] [] [] (.val (vb (badPath (xs.getD i (dflt .strs))))))], [], []⟩)] [true, false] [0, 1, 7, 8] [] ((True ∧ True) ∧ (((ty b1) ∧ True) ∧ ((True ∧ True ∧ True) ∧ (tr 3 ((0 ≤ (i : Int) ∧ (i : Int) < xs.length) ∧ True ∧ (okArgs [.row .str (xs.getD i (dflt .strs))]) ∧ True)) ∧ (ty b2) ∧ True) ∧ (InR .i64 ((i : Int) + 1)) ∧ True ∧ True)) .norm [(0, .row .strs xs), (1, .lit (.func (.func 90) #[] #[])), (7, vi (xs.length : Int)), (8, vi ((i : Int) + 1))] [] ⟨⟨⟨ent90, con90 _ (hxs _ (getD_mem (by omega) _)).1 (hxs _ (getD_mem (by omega) _)).2⟩, tv⟩, tv⟩ (by kernel_rfl) ⟨⟨tv, tv⟩, ⟨b1, tv⟩, ⟨⟨tv, tv, tv⟩, tr_mk (⟨(by omega), tv, rfl, tv⟩) 3, b2, tv⟩, (inR64 (by omega) (by omega)), tv, tv⟩ (fun a w hs => ?_)
   refine then_norm ⟨i + 1, ⟨by omega, fun j hj d => by rcases Nat.lt_succ_iff_lt_or_eq.1 hj with h | h; exact hall j h d; subst h; rw [getD_any (by omega) d (dflt .strs)]; exact b2⟩, by omega, ?_⟩
   (have e0_ : ((i : Int) + 1) = ((((i + 1) : Nat) : Int)) := (by first | rfl | (omega)); exact (hs.cst [(0, .row .strs xs), (1, .lit (.func (.func 90) #[] #[])), (7, vi (xs.length : Int)), (8, vi (((i + 1) : Nat) : Int))] [] (by first | rfl | (rw [e0_]; done) | (simp only [e0_]; done) | (simp only [e0_]; rfl))).rm [] (by kernel_rfl))
 ·skip
  have n1 := of_decide_eq_false b1
  refine wN hs hI [false] [] [] ((True ∧ True) ∧ ((ty b1) ∧ True)) (.exit 0) [] [] (by kernel_rfl) ⟨⟨tv, tv⟩, b1, tv⟩ (fun a w hs => ?_)
  refine then_exit ?_
  refine inb_hit ?_
  refine then_norm ?_
  refine wN hs hI [] [4] [] ((True ∧ True) ∧ True) .ret [(4, vi (-1))] [] (by kernel_rfl) ⟨⟨tv, tv⟩, tv⟩ (fun a w hs => ?_)
  exact FnQ_cast (out := .val (vi (-1))) (by rw [idxF_no (q := badPath) (fun j hj d => hall j (by omega) d)]) (ret_ok [] hs ⟨by kernel_rfl, rfl⟩)
theorem con89 (xs : List (List ByteArray)) (hxs : ∀ x ∈ xs, smalls x) (hlen : xs.length < 4294967281) : Con Tryz.prog I0 89 [.row .strs xs, .lit (.func (.func 90) #[] #[])] (.val (vb (xs.any badPath))) := by
 refine con_of Tryz.func89 rfl (Nat.le_of_ble_eq_true rfl) stab (fun w0 fz a hI hs => ?_)
 refine wL hs hI [(1, ⟨[(2, ciA 146 [.row .strs xs, .lit (.func (.func 90) #[] #[])] [] [] (.val (vi (idxF badPath xs))))], [], []⟩)] [] [4] [] ((True ∧ True) ∧ ((True ∧ True ∧ (okArgs [.row .strs xs, .lit (.func (.func 90) #[] #[])]) ∧ True ∧ True ∧ True) ∧ True)) .ret [(4, vb (decide ((idxF badPath xs) ≥ 0)))] [] ⟨⟨⟨ent146, con146 _ hxs hlen⟩, tv⟩, tv⟩ (by kernel_rfl) ⟨⟨tv, tv⟩, ⟨tv, tv, rfl, tv, tv, tv⟩, tv⟩ (fun a w hs => ?_)
 exact FnQ_cast (out := .val (vb (decide ((idxF badPath xs) ≥ 0)))) (by rw [← idxF_any]) (ret_ok [] hs ⟨by kernel_rfl, rfl⟩)
theorem con39 (xs : List (List ByteArray)) (hxs : ∀ x ∈ xs, smalls x) (hlen : xs.length < 4294967281) : Con Tryz.prog I0 39 [.row .strs xs] (.val (vb (checkF xs))) := by
 refine con_of Tryz.func39 rfl (Nat.le_of_ble_eq_true rfl) stab (fun w0 fz a hI hs => ?_)
 rcases bt (decide ((xs.length : Int) ≤ 60)) with b1 | b1
 ·skip
  have n1 := of_decide_eq_true b1
  refine wL hs hI [(1, ⟨[(5, ciA 89 [.row .strs xs, .lit (.func (.func 90) #[] #[])] [] [] (.val (vb (xs.any badPath))))], gg [4, 5, 6, 1007] [], []⟩)] [] [2] [] ((True ∧ True) ∧ ((tr 4 ((ty b1) ∧ True ∧ (ty b1) ∧ (okArgs [.row .strs xs, .lit (.func (.func 90) #[] #[])]) ∧ (rp 2 b1 True))) ∧ True)) .ret [(2, vb (!(xs.any badPath)))] [] ⟨⟨⟨ent89, con89 _ hxs hlen⟩, tv⟩, tv⟩ (by kernel_rfl) ⟨⟨tv, tv⟩, tr_mk (⟨b1, tv, b1, rfl, rp_mk (tv) 2⟩) 4, tv⟩ (fun a w hs => ?_)
  exact FnQ_cast (out := .val (vb (!(xs.any badPath)))) (by simp only [checkF, b1]; try rfl) (ret_ok [] hs ⟨by kernel_rfl, rfl⟩)
 ·skip
  have n1 := of_decide_eq_false b1
  refine wL hs hI [(1, ⟨[], gg [] [4, 5, 6, 1007], []⟩)] [] [2] [] ((True ∧ True) ∧ ((tr 4 ((ty b1) ∧ (ty b1) ∧ (ty b1) ∧ (ty b1) ∧ True ∧ True)) ∧ True)) .ret [(2, vb false)] [] ⟨tv, tv⟩ (by kernel_rfl) ⟨⟨tv, tv⟩, tr_mk (⟨b1, b1, b1, b1, tv, tv⟩) 4, tv⟩ (fun a w hs => ?_)
  exact FnQ_cast (out := .val (vb false)) (by simp only [checkF, b1]; try rfl) (ret_ok [] hs ⟨by kernel_rfl, rfl⟩)
theorem Tree.eta' (t : Tree) : Tree.mk t.kind t.b ⟨t.n.neg, t.n.m, t.n.e⟩ t.s t.k t.v = t := by cases t; rfl
theorem copied {α : Type} (xs : List α) (d : α) {n : Nat} (h : n = xs.length) : xs.take (List.replicate n d).length ++ (List.replicate n d).drop xs.length = xs := by
 subst h
 rw [List.length_replicate, List.take_length, List.drop_of_length_le (by rw [List.length_replicate]; exact Nat.le_refl _), List.append_nil]
theorem rep_k (x : ByteArray) (v : Tree) : ∀ l : Mem, (repA x v l).map (·.1) = l.map (·.1)
 | [] => rfl
 | (y, u) :: l => by simp only [repA]; split <;> simp [rep_k x v l]
theorem rep_v (x : ByteArray) (v : Tree) : ∀ l : Mem, idxT x (l.map (·.1)) ≥ 0 → (repA x v l).map (·.2) = (l.map (·.2)).set (idxT x (l.map (·.1))).toNat v
 | [], h => by simp [idxT] at h
 | (y, u) :: l, h => by
  simp only [repA, List.map_cons, idxT] at h ⊢
  by_cases h0 : eqT x y = true
  ·simp [h0]
  ·simp only [h0, Bool.false_eq_true, if_false] at h ⊢
   by_cases h1 : idxT x (l.map (·.1)) < 0
   ·simp only [h1, if_true] at h; omega
   ·simp only [h1, if_false] at h ⊢
    rw [List.map_cons, rep_v x v l (by omega), show (idxT x (l.map (·.1)) + 1).toNat = (idxT x (l.map (·.1))).toNat + 1 by omega, List.set_cons_succ]
def atF (x : ByteArray) (k : List ByteArray) : Nat := if idxF (fun s => gtB s x) k < 0 then k.length else (idxF (fun s => gtB s x) k).toNat
theorem atF_cons (x y : ByteArray) (k : List ByteArray) : atF x (y :: k) = if gtB y x = true then 0 else atF x k + 1 := by
 unfold atF
 simp only [idxF, List.length_cons]
 by_cases h : gtB y x = true
 ·simp [h]
 ·simp only [h, Bool.false_eq_true, if_false]
  by_cases h1 : idxF (fun s => gtB s x) k < 0
  ·simp [h1]
  ·simp only [h1, if_false]
   rw [if_neg (by omega)]; omega
theorem atF_le (x : ByteArray) : ∀ k : List ByteArray, atF x k ≤ k.length
 | [] => by simp [atF, idxF]
 | y :: k => by
  have ih := atF_le x k
  rw [atF_cons, List.length_cons]
  split <;> omega
theorem put_k (x : ByteArray) (v : Tree) : ∀ l : Mem, (putA x v l).map (·.1) = insL (l.map (·.1)) (atF x (l.map (·.1))) x
 | [] => by simp [putA, insL]
 | (y, u) :: l => by
  simp only [putA, List.map_cons, atF_cons]
  split
  ·simp [insL]
  ·rw [List.map_cons, put_k x v l]; simp [insL]
theorem put_v (x : ByteArray) (v : Tree) : ∀ l : Mem, (putA x v l).map (·.2) = insL (l.map (·.2)) (atF x (l.map (·.1))) v
 | [] => by simp [putA, insL]
 | (y, u) :: l => by
  simp only [putA, List.map_cons, atF_cons]
  split
  ·simp [insL]
  ·rw [List.map_cons, put_v x v l]; simp [insL]
theorem del_k (x : ByteArray) : ∀ l : Mem, idxT x (l.map (·.1)) ≥ 0 → (delA x l).map (·.1) = (l.map (·.1)).take (idxT x (l.map (·.1))).toNat ++ (l.map (·.1)).drop ((idxT x (l.map (·.1))).toNat + 1)
 | [], h => by simp [idxT] at h
 | (y, u) :: l, h => by
  simp only [delA, List.map_cons, idxT] at h ⊢
  by_cases h0 : eqT x y = true
  ·simp [h0]
  ·simp only [h0, Bool.false_eq_true, if_false] at h ⊢
   by_cases h1 : idxT x (l.map (·.1)) < 0
   ·simp only [h1, if_true] at h; omega
   ·simp only [h1, if_false] at h ⊢
    rw [List.map_cons, del_k x l (by omega), show (idxT x (l.map (·.1)) + 1).toNat = (idxT x (l.map (·.1))).toNat + 1 by omega]; simp
theorem del_v (x : ByteArray) : ∀ l : Mem, idxT x (l.map (·.1)) ≥ 0 → (delA x l).map (·.2) = (l.map (·.2)).take (idxT x (l.map (·.1))).toNat ++ (l.map (·.2)).drop ((idxT x (l.map (·.1))).toNat + 1)
 | [], h => by simp [idxT] at h
 | (y, u) :: l, h => by
  simp only [delA, List.map_cons, idxT] at h ⊢
  by_cases h0 : eqT x y = true
  ·simp [h0]
  ·simp only [h0, Bool.false_eq_true, if_false] at h ⊢
   by_cases h1 : idxT x (l.map (·.1)) < 0
   ·simp only [h1, if_true] at h; omega
   ·simp only [h1, if_false] at h ⊢
    rw [List.map_cons, del_v x l (by omega), show (idxT x (l.map (·.1)) + 1).toNat = (idxT x (l.map (·.1))).toNat + 1 by omega]; simp
theorem set_found {t : Tree} {x : ByteArray} {v : Tree} (h : idxT x (cutK t) ≥ 0) : setT t x v = .mk 7 false ⟨false, [], 0⟩ (ba []) (cutK t) ((cutV t).set (idxT x (cutK t)).toNat v) := by
 have hk := mems_k t
 have hs := (idxT_look x (mems t)).1.1 (by rw [hk]; exact h)
 unfold setT insA objM
 rw [if_pos hs, rep_k, rep_v x v _ (by rw [hk]; exact h), hk, mems_v]
theorem set_new {t : Tree} {x : ByteArray} {v : Tree} (h : ¬ idxT x (cutK t) ≥ 0) : setT t x v = .mk 7 false ⟨false, [], 0⟩ (ba []) (insL (cutK t) (atF x (cutK t)) x) (insL (cutV t) (atF x (cutK t)) v) := by
 have hk := mems_k t
 have hs : ¬ (lookA x (mems t)).isSome = true := fun hh => h (by have := (idxT_look x (mems t)).1.2 hh; rwa [hk] at this)
 unfold setT insA objM
 rw [if_neg hs, put_k, put_v, hk, mems_v]
theorem unset_found {t : Tree} {x : ByteArray} (h : idxT x (cutK t) ≥ 0) : unsetT t x = .mk 7 false ⟨false, [], 0⟩ (ba []) ((cutK t).take (idxT x (cutK t)).toNat ++ (cutK t).drop ((idxT x (cutK t)).toNat + 1)) ((cutV t).take (idxT x (cutK t)).toNat ++ (cutV t).drop ((idxT x (cutK t)).toNat + 1)) := by
 have hk := mems_k t
 unfold unsetT objM
 rw [if_pos (memV_pos h).2, del_k x _ (by rw [hk]; exact h), del_v x _ (by rw [hk]; exact h), hk, mems_v]
theorem unset_none {t : Tree} {x : ByteArray} (h : ¬ idxT x (cutK t) ≥ 0) : unsetT t x = t := by
 unfold unsetT
 rw [if_neg (by rw [(memV_neg h).2]; decide)]
theorem con188 (s x : ByteArray) : ConB Tryz.prog I0 188 [vs s, .ptr 0 0] [(0, .var [vs x])] (.val (vb (gtB s x))) [(0, .var [vs x])] := by
 refine con_ofB Tryz.func188 rfl (Nat.le_of_ble_eq_true rfl) (by kernel_rfl) (fun w0 fz η a hI hs => ?_)
 refine wN hs hI [] [3] [0] ((True ∧ True) ∧ ((tr 4 True) ∧ True)) .ret [(3, vb (!(Op.bytesLess s.toList x.toList || s.toList == x.toList)))] [(0, .var [vs x])] (by kernel_rfl) ⟨⟨tv, tv⟩, tr_mk tv 4, tv⟩ (fun a w hs => ?_)
 exact FnQB_cast (out := .val (vb (!(Op.bytesLess s.toList x.toList || s.toList == x.toList)))) (bo := [(0, .var [vs x])]) (rfl) (rfl) (ret_okB _ hs (by kernel_rfl) (by kernel_rfl))
theorem con140_188 (xs : List ByteArray) (x : ByteArray) (hlen : xs.length < 4611686018427387904) : ConB Tryz.prog I0 140 [.own 1, .clo (.func 188) [.ptr 0 0]] [(0, .var [vs x]), (1, .full 9 .str xs)] (.val (vi (idxF (fun s => gtB s x) xs))) [(0, .var [vs x]), (1, .full 9 .str xs)] := by
 refine con_ofB Tryz.func140 rfl (Nat.le_of_ble_eq_true rfl) (by kernel_rfl) (fun w0 fz η a hI hs => ?_)
 refine wp_seq ?_
 refine wN hs hI [] [0, 1] [0, 1] (True ∧ True) .norm [(0, .own 1), (1, .clo (.func 188) [.ptr 0 0])] [(0, .var [vs x]), (1, .full 9 .str xs)] (by kernel_rfl) ⟨tv, tv⟩ (fun a w hs => ?_)
 refine then_norm ?_
 refine wp_seq ?_
 refine wp_seq ?_
 refine wN hs hI [] [0, 1, 7, 8] [0, 1] (tr 3 True) .norm [(0, .own 1), (1, .clo (.func 188) [.ptr 0 0]), (7, vi (xs.length : Int)), (8, vi 0)] [(0, .var [vs x]), (1, .full 9 .str xs)] (by kernel_rfl) (tr_mk tv 3) (fun a w hs => ?_)
 refine then_norm ?_
 refine wp_block ?_
 refine loop_L (N := Tryz.f140.ntmps) (w0 := w0) (ow := ownB fz η) (α := Nat) (fun p => [(0, .own 1), (1, .clo (.func 188) [.ptr 0 0]), (7, vi (xs.length : Int)), (8, vi (p : Int))]) (fun p => [(0, .var [vs x]), (1, .full 9 .str xs)]) (fun p => p ≤ xs.length ∧ ∀ j, j < p → ∀ d, (fun s => gtB s x) (xs.getD j d) = false) (fun p => xs.length - p) 0 ?_ ?_ ?_
 ·exact ⟨Nat.zero_le _, fun j hj => absurd hj (Nat.not_lt_zero _)⟩
 ·(have e0_ : (0) = (((0 : Nat) : Int)) := (by first | rfl | (rfl)); exact (hs.cst [(0, .own 1), (1, .clo (.func 188) [.ptr 0 0]), (7, vi (xs.length : Int)), (8, vi ((0 : Nat) : Int))] [(0, .var [vs x]), (1, .full 9 .str xs)] (by first | rfl | (rw [e0_]; done) | (simp only [e0_]; done) | (simp only [e0_]; rfl))).rm [(0, 0), (1, 1)] (by kernel_rfl))
 rintro i hJ a w hs
 obtain ⟨hi, hall⟩ := hJ
 rcases bt (decide ((i : Int) < (xs.length : Int))) with b1 | b1
 ·skip
  have n1 := of_decide_eq_true b1
  rcases bt (gtB (xs.getD i (dflt .str)) x) with b2 | b2
  ·skip
   refine wL hs hI [(4, ⟨[(5, ciB 188 [vs (xs.getD i (dflt .str)), .ptr 0 0] [] (.val (vb (gtB (xs.getD i (dflt .str)) x))) [(0, .var [vs x])] [(0, .var [vs x])] [(0, 0)])], [], []⟩)] [true, true] [4] [0, 1] ((True ∧ True) ∧ (((ty b1) ∧ True) ∧ (True ∧ True ∧ True) ∧ (tr 3 ((0 ≤ (i : Int) ∧ (i : Int) < xs.length) ∧ (i < xs.length) ∧ (okArgs [vs (xs.getD i (dflt .str)), .ptr 0 0] ∧ okBxs [some (.var [vs x])]) ∧ True)) ∧ (ty b2) ∧ (True ∧ True ∧ True) ∧ True)) .ret [(4, vi (i : Int))] [(0, .var [vs x]), (1, .full 9 .str xs)] ⟨⟨⟨ent188, con188 _ _⟩, tv⟩, tv⟩ (by kernel_rfl) ⟨⟨tv, tv⟩, ⟨b1, tv⟩, ⟨tv, tv, tv⟩, tr_mk (⟨(by omega), (by omega), ⟨rfl, rfl⟩, tv⟩) 3, b2, ⟨tv, tv, tv⟩, tv⟩ (fun a w hs => ?_)
   refine then_ret ?_
   refine inb_ret ?_
   refine then_ret ?_
   exact FnQB_cast (out := .val (vi (i : Int))) (bo := [(0, .var [vs x]), (1, .full 9 .str xs)]) (by rw [idxF_at (q := (fun s => gtB s x)) (i := i) (dflt .str) (by omega) b2 (fun j hj d => hall j hj d)]) (rfl) (ret_okB _ hs (by kernel_rfl) (by kernel_rfl))
  ·skip
   refine wL hs hI [(4, ⟨[(5, ciB 188 [vs (xs.getD i (dflt .str)), .ptr 0 0] [] (.val (vb (gtB (xs.getD i (dflt .str)) x))) [(0, .var [vs x])] [(0, .var [vs x])] [(0, 0)])], [], []⟩)] [true, false] [0, 1, 7, 8] [0, 1] ((True ∧ True) ∧ (((ty b1) ∧ True) ∧ ((True ∧ True ∧ True) ∧ (tr 3 ((0 ≤ (i : Int) ∧ (i : Int) < xs.length) ∧ (i < xs.length) ∧ (okArgs [vs (xs.getD i (dflt .str)), .ptr 0 0] ∧ okBxs [some (.var [vs x])]) ∧ True)) ∧ (ty b2) ∧ True) ∧ (InR .i64 ((i : Int) + 1)) ∧ True ∧ True)) .norm [(0, .own 1), (1, .clo (.func 188) [.ptr 0 0]), (7, vi (xs.length : Int)), (8, vi ((i : Int) + 1))] [(0, .var [vs x]), (1, .full 9 .str xs)] ⟨⟨⟨ent188, con188 _ _⟩, tv⟩, tv⟩ (by kernel_rfl) ⟨⟨tv, tv⟩, ⟨b1, tv⟩, ⟨⟨tv, tv, tv⟩, tr_mk (⟨(by omega), (by omega), ⟨rfl, rfl⟩, tv⟩) 3, b2, tv⟩, (inR64 (by omega) (by omega)), tv, tv⟩ (fun a w hs => ?_)
   refine then_norm ⟨i + 1, ⟨by omega, fun j hj d => by rcases Nat.lt_succ_iff_lt_or_eq.1 hj with h | h; exact hall j h d; subst h; rw [getD_any (by omega) d (dflt .str)]; exact b2⟩, by omega, ?_⟩
   (have e0_ : ((i : Int) + 1) = ((((i + 1) : Nat) : Int)) := (by first | rfl | (omega)); exact (hs.cst [(0, .own 1), (1, .clo (.func 188) [.ptr 0 0]), (7, vi (xs.length : Int)), (8, vi (((i + 1) : Nat) : Int))] [(0, .var [vs x]), (1, .full 9 .str xs)] (by first | rfl | (rw [e0_]; done) | (simp only [e0_]; done) | (simp only [e0_]; rfl))).rm [(0, 0), (1, 1)] (by kernel_rfl))
 ·skip
  have n1 := of_decide_eq_false b1
  refine wN hs hI [false] [] [0, 1] ((True ∧ True) ∧ ((ty b1) ∧ True)) (.exit 0) [] [(0, .var [vs x]), (1, .full 9 .str xs)] (by kernel_rfl) ⟨⟨tv, tv⟩, b1, tv⟩ (fun a w hs => ?_)
  refine then_exit ?_
  refine inb_hit ?_
  refine then_norm ?_
  refine wN hs hI [] [4] [0, 1] ((True ∧ True) ∧ True) .ret [(4, vi (-1))] [(0, .var [vs x]), (1, .full 9 .str xs)] (by kernel_rfl) ⟨⟨tv, tv⟩, tv⟩ (fun a w hs => ?_)
  exact FnQB_cast (out := .val (vi (-1))) (bo := [(0, .var [vs x]), (1, .full 9 .str xs)]) (by rw [idxF_no (q := (fun s => gtB s x)) (fun j hj d => hall j (by omega) d)]) (rfl) (ret_okB _ hs (by kernel_rfl) (by kernel_rfl))
theorem at_neg {x : ByteArray} {k : List ByteArray} (h : idxF (fun s => gtB s x) k < 0) : ((k.length : Nat) : Int) = ((atF x k : Nat) : Int) := by unfold atF; rw [if_pos h]
theorem at_pos {x : ByteArray} {k : List ByteArray} (h : ¬ idxF (fun s => gtB s x) k < 0) : idxF (fun s => gtB s x) k = ((atF x k : Nat) : Int) := by unfold atF; rw [if_neg h]; omega
theorem gtI_in (x : ByteArray) : ∀ k : List ByteArray, -1 ≤ idxF (fun s => gtB s x) k ∧ idxF (fun s => gtB s x) k < k.length
 | [] => by simp [idxF]
 | y :: k => by
  have := gtI_in x k
  simp only [idxF, List.length_cons]
  split
  ·omega
  ·split <;> omega
theorem con135 (t : Tree) (x : ByteArray) (v : Tree) (hk : (cutK t).length < 1000000) : Con Tryz.prog I0 135 [.agg (encTree t), vs x, .agg (encTree v)] (.val (.agg (encTree (setT t x v)))) := by
 have hcl := cut_len t
 have hx1 := idxT_in x (cutK t)
 have hal := atF_le x (cutK t)
 have hgi := gtI_in x (cutK t)
 refine con_of Tryz.func135 rfl (Nat.le_of_ble_eq_true rfl) stab (fun w0 fz a hI hs => ?_)
 rcases bt (decide ((idxT x (cutK t)) ≥ 0)) with b1 | b1
 ·skip
  have n1 := of_decide_eq_true b1
  refine wL hs hI [(1, ⟨[(1, ciA 173 [.agg (encTree t)] [] [] (.val (.tup [.row .str (cutK t), .row .tree (cutV t)])))], [], []⟩), (5, ⟨[(2, ciA 171 [.row .str (cutK t), vs x] [3002] [] (.val (vi (idxT x (cutK t)))))], [], []⟩)] [true] [6] [1003, 3002, 3005] ((tr 4 True) ∧ ((True ∧ (okArgs [.agg (encTree t)]) ∧ (tr 5 True)) ∧ (True ∧ True ∧ (((cutK t).length : Int) = ((cutK t).length : Int) ∧ 0 ≤ ((cutK t).length : Int) ∧ (16 : Nat) * ((cutK t).length : Int) ≤ 281474976710656 ∧ ((cutK t).length : Int) ≤ 9223372036854775807) ∧ True ∧ True ∧ (((cutV t).length : Int) = ((cutV t).length : Int) ∧ 0 ≤ ((cutV t).length : Int) ∧ (120 : Nat) * ((cutV t).length : Int) ≤ 281474976710656 ∧ ((cutV t).length : Int) ≤ 9223372036854775807) ∧ True ∧ True ∧ True) ∧ (tr 3 True) ∧ (tr 3 True) ∧ (True ∧ True ∧ (([.row .str ((cutK t).take (List.replicate ((cutK t).length) (dflt .str)).length ++ (List.replicate ((cutK t).length) (dflt .str)).drop (cutK t).length), vs x] : List AV) = [.row .str (cutK t), vs x]) ∧ True ∧ True) ∧ (True ∧ True ∧ True) ∧ (ty b1) ∧ (tr 3 ((0 ≤ (idxT x (cutK t)) ∧ (idxT x (cutK t)) < ((cutV t).take (List.replicate ((cutV t).length) (dflt .tree)).length ++ (List.replicate ((cutV t).length) (dflt .tree)).drop (cutV t).length).length) ∧ ((idxT x (cutK t)).toNat < ((cutV t).take (List.replicate ((cutV t).length) (dflt .tree)).length ++ (List.replicate ((cutV t).length) (dflt .tree)).drop (cutV t).length).length) ∧ True)) ∧ (tr 4 True) ∧ True)) .ret [(6, .ptr 1003 0)] [(1003, .var [vi 7, vb false, vb false, nilv, vi 0, vs (ba []), .own 3002, .own 3005]), (3002, .sl 9 .str ((cutK t).take (List.replicate ((cutK t).length) (dflt .str)).length ++ (List.replicate ((cutK t).length) (dflt .str)).drop (cutK t).length)), (3005, .sl 29 .tree (((cutV t).take (List.replicate ((cutV t).length) (dflt .tree)).length ++ (List.replicate ((cutV t).length) (dflt .tree)).drop (cutV t).length).set ((idxT x (cutK t)).toNat) (Tree.mk v.kind v.b ⟨v.n.neg, v.n.m, v.n.e⟩ v.s v.k v.v)))] ⟨⟨⟨ent173, con173 _⟩, tv⟩, ⟨⟨⟨ent171, con171 _ _ (by omega)⟩, tv⟩, tv⟩⟩ (by kernel_rfl) ⟨tr_mk tv 4, ⟨tv, rfl, tr_mk tv 5⟩, ⟨tv, tv, (by omega), tv, tv, (by omega), tv, tv, tv⟩, tr_mk tv 3, tr_mk tv 3, ⟨tv, tv, (by simp only [copied (cutK t) (dflt .str) rfl, copied (cutV t) (dflt .tree) rfl]), tv, tv⟩, ⟨tv, tv, tv⟩, b1, tr_mk (⟨(by first | (refine ⟨by rfl, ?_⟩; omega) | (simp only [copied (cutK t) (dflt .str) rfl, copied (cutV t) (dflt .tree) rfl]; omega) | omega), (by first | (refine ⟨by rfl, ?_⟩; omega) | (simp only [copied (cutK t) (dflt .str) rfl, copied (cutV t) (dflt .tree) rfl]; omega) | omega), tv⟩) 3, tr_mk tv 4, tv⟩ (fun a w hs => ?_)
  exact FnQ_cast (out := .val (.agg [vi 7, vb false, vb false, .row (.int .u32) ([]), vi 0, vs (ba []), .row .str ((cutK t).take (List.replicate ((cutK t).length) (dflt .str)).length ++ (List.replicate ((cutK t).length) (dflt .str)).drop (cutK t).length), .row .tree (((cutV t).take (List.replicate ((cutV t).length) (dflt .tree)).length ++ (List.replicate ((cutV t).length) (dflt .tree)).drop (cutV t).length).set ((idxT x (cutK t)).toNat) (Tree.mk v.kind v.b ⟨v.n.neg, v.n.m, v.n.e⟩ v.s v.k v.v))])) (by simp only [copied (cutK t) (dflt .str) rfl, copied (cutV t) (dflt .tree) rfl]; rw [Tree.eta', set_found (by assumption)]; rfl) (ret_ok [3002, 3005] hs ⟨by kernel_rfl, rfl⟩)
 ·skip
  have n1 := of_decide_eq_false b1
  rcases bt (decide ((idxF (fun s => gtB s x) (cutK t)) < 0)) with b2 | b2
  ·skip
   have n2 := of_decide_eq_true b2
   refine wL hs hI [(1, ⟨[(1, ciA 173 [.agg (encTree t)] [] [] (.val (.tup [.row .str (cutK t), .row .tree (cutV t)])))], [], []⟩), (2, ⟨[], gg [2002, 2005] [], []⟩), (5, ⟨[(2, ciA 171 [.row .str (cutK t), vs x] [3002] [] (.val (vi (idxT x (cutK t)))))], [], []⟩), (9, ⟨[(2, ciB 140 [.own 1, .clo (.func 188) [.ptr 0 0]] [] (.val (vi (idxF (fun s => gtB s x) (cutK t)))) [(0, .var [vs x]), (1, .full 9 .str (cutK t))] [(0, .var [vs x]), (1, .full 9 .str (cutK t))] [(0, 1001), (1, 3002)])], [], []⟩), (12, ⟨[(4, ciA 189 [.rowc .str (cutK t) (cutK t).length, vi ((atF x (cutK t) : Nat) : Int), .row .str [x]] [] [3002, 13003] (.own 9 .str (insL (cutK t) (atF x (cutK t)) x))), (9, ciA 190 [.rowc .tree (cutV t) (cutV t).length, vi ((atF x (cutK t) : Nat) : Int), .row .tree [v]] [] [3005, 13008] (.own 29 .tree (insL (cutV t) (atF x (cutK t)) v)))], [], []⟩)] [false, true] [6] [1003, 13004, 13009] ((tr 4 True) ∧ ((True ∧ (okArgs [.agg (encTree t)]) ∧ (tr 5 True)) ∧ (True ∧ True ∧ (((cutK t).length : Int) = ((cutK t).length : Int) ∧ 0 ≤ ((cutK t).length : Int) ∧ (16 : Nat) * ((cutK t).length : Int) ≤ 281474976710656 ∧ ((cutK t).length : Int) ≤ 9223372036854775807) ∧ True ∧ True ∧ (((cutV t).length : Int) = ((cutV t).length : Int) ∧ 0 ≤ ((cutV t).length : Int) ∧ (120 : Nat) * ((cutV t).length : Int) ≤ 281474976710656 ∧ ((cutV t).length : Int) ≤ 9223372036854775807) ∧ True ∧ True ∧ True) ∧ (tr 3 True) ∧ (tr 3 True) ∧ ((True ∧ True ∧ (([.row .str ((cutK t).take (List.replicate ((cutK t).length) (dflt .str)).length ++ (List.replicate ((cutK t).length) (dflt .str)).drop (cutK t).length), vs x] : List AV) = [.row .str (cutK t), vs x]) ∧ True ∧ True) ∧ (True ∧ True ∧ True) ∧ (ty b1) ∧ True) ∧ (True ∧ True ∧ (([.own 3002, .clo (.func 188) [.ptr 1001 0]] : List AV) = [.own 3002, .clo (.func 188) [.ptr 1001 0]] ∧ ([some (.var [vs x]), some (.full 9 .str ((cutK t).take (List.replicate ((cutK t).length) (dflt .str)).length ++ (List.replicate ((cutK t).length) (dflt .str)).drop (cutK t).length))] : List (Option Box)) = [some (.var [vs x]), some (.full 9 .str (cutK t))]) ∧ True ∧ True) ∧ ((True ∧ True ∧ True) ∧ (ty b2) ∧ (tr 3 True)) ∧ (tr 4 ((([.rowc .str (cutK t) ((cutK t).length), vi ((cutK t).length : Int), .row .str ([x])] : List AV) = [.rowc .str (cutK t) (cutK t).length, vi ((atF x (cutK t) : Nat) : Int), .row .str [x]]) ∧ (tr 4 ((([.rowc .tree ((cutV t).take (List.replicate ((cutV t).length) (dflt .tree)).length ++ (List.replicate ((cutV t).length) (dflt .tree)).drop (cutV t).length) (((cutV t).take (List.replicate ((cutV t).length) (dflt .tree)).length ++ (List.replicate ((cutV t).length) (dflt .tree)).drop (cutV t).length).length), vi ((cutK t).length : Int), .row .tree ([(Tree.mk v.kind v.b ⟨v.n.neg, v.n.m, v.n.e⟩ v.s v.k v.v)])] : List AV) = [.rowc .tree (cutV t) (cutV t).length, vi ((atF x (cutK t) : Nat) : Int), .row .tree [v]]) ∧ True ∧ True ∧ True)))) ∧ True)) .ret [(6, .ptr 1003 0)] [(1003, .var [vi 7, vb false, vb false, nilv, vi 0, vs (ba []), .own 13004, .own 13009]), (13004, .sl 9 .str (insL (cutK t) (atF x (cutK t)) x)), (13009, .sl 29 .tree (insL (cutV t) (atF x (cutK t)) v))] ⟨⟨⟨ent173, con173 _⟩, tv⟩, ⟨tv, ⟨⟨⟨ent171, con171 _ _ (by omega)⟩, tv⟩, ⟨⟨⟨ent140, con140_188 _ _ (by omega)⟩, tv⟩, ⟨⟨⟨ent189, con_ins_str _ _ _ (by omega) (by omega)⟩, ⟨⟨ent190, con_ins_tree _ _ _ (by omega) (by omega)⟩, tv⟩⟩, tv⟩⟩⟩⟩⟩ (by kernel_rfl) ⟨tr_mk tv 4, ⟨tv, rfl, tr_mk tv 5⟩, ⟨tv, tv, (by omega), tv, tv, (by omega), tv, tv, tv⟩, tr_mk tv 3, tr_mk tv 3, ⟨⟨tv, tv, (by simp only [copied (cutK t) (dflt .str) rfl, copied (cutV t) (dflt .tree) rfl]), tv, tv⟩, ⟨tv, tv, tv⟩, b1, tv⟩, ⟨tv, tv, (by refine ⟨rfl, ?_⟩; simp only [copied (cutK t) (dflt .str) rfl, copied (cutV t) (dflt .tree) rfl]), tv, tv⟩, ⟨⟨tv, tv, tv⟩, b2, tr_mk tv 3⟩, tr_mk (⟨(by rw [← at_neg (by assumption)]), tr_mk (⟨(by rw [← at_neg (by assumption)]; simp only [copied (cutK t) (dflt .str) rfl, copied (cutV t) (dflt .tree) rfl]; rw [Tree.eta']), tv, tv, tv⟩) 4⟩) 4, tv⟩ (fun a w hs => ?_)
   exact FnQ_cast (out := .val (.agg [vi 7, vb false, vb false, .row (.int .u32) ([]), vi 0, vs (ba []), .row .str (insL (cutK t) (atF x (cutK t)) x), .row .tree (insL (cutV t) (atF x (cutK t)) v)])) (by rw [set_new (by assumption)]; rfl) (ret_ok [13004, 13009] hs ⟨by kernel_rfl, rfl⟩)
  ·skip
   have n2 := of_decide_eq_false b2
   refine wL hs hI [(1, ⟨[(1, ciA 173 [.agg (encTree t)] [] [] (.val (.tup [.row .str (cutK t), .row .tree (cutV t)])))], [], []⟩), (2, ⟨[], gg [2002, 2005] [], []⟩), (5, ⟨[(2, ciA 171 [.row .str (cutK t), vs x] [3002] [] (.val (vi (idxT x (cutK t)))))], [], []⟩), (9, ⟨[(2, ciB 140 [.own 1, .clo (.func 188) [.ptr 0 0]] [] (.val (vi (idxF (fun s => gtB s x) (cutK t)))) [(0, .var [vs x]), (1, .full 9 .str (cutK t))] [(0, .var [vs x]), (1, .full 9 .str (cutK t))] [(0, 1001), (1, 3002)])], [], []⟩), (12, ⟨[(4, ciA 189 [.rowc .str (cutK t) (cutK t).length, vi ((atF x (cutK t) : Nat) : Int), .row .str [x]] [] [3002, 13003] (.own 9 .str (insL (cutK t) (atF x (cutK t)) x))), (9, ciA 190 [.rowc .tree (cutV t) (cutV t).length, vi ((atF x (cutK t) : Nat) : Int), .row .tree [v]] [] [3005, 13008] (.own 29 .tree (insL (cutV t) (atF x (cutK t)) v)))], [], []⟩)] [false, false] [6] [1003, 13004, 13009] ((tr 4 True) ∧ ((True ∧ (okArgs [.agg (encTree t)]) ∧ (tr 5 True)) ∧ (True ∧ True ∧ (((cutK t).length : Int) = ((cutK t).length : Int) ∧ 0 ≤ ((cutK t).length : Int) ∧ (16 : Nat) * ((cutK t).length : Int) ≤ 281474976710656 ∧ ((cutK t).length : Int) ≤ 9223372036854775807) ∧ True ∧ True ∧ (((cutV t).length : Int) = ((cutV t).length : Int) ∧ 0 ≤ ((cutV t).length : Int) ∧ (120 : Nat) * ((cutV t).length : Int) ≤ 281474976710656 ∧ ((cutV t).length : Int) ≤ 9223372036854775807) ∧ True ∧ True ∧ True) ∧ (tr 3 True) ∧ (tr 3 True) ∧ ((True ∧ True ∧ (([.row .str ((cutK t).take (List.replicate ((cutK t).length) (dflt .str)).length ++ (List.replicate ((cutK t).length) (dflt .str)).drop (cutK t).length), vs x] : List AV) = [.row .str (cutK t), vs x]) ∧ True ∧ True) ∧ (True ∧ True ∧ True) ∧ (ty b1) ∧ True) ∧ (True ∧ True ∧ (([.own 3002, .clo (.func 188) [.ptr 1001 0]] : List AV) = [.own 3002, .clo (.func 188) [.ptr 1001 0]] ∧ ([some (.var [vs x]), some (.full 9 .str ((cutK t).take (List.replicate ((cutK t).length) (dflt .str)).length ++ (List.replicate ((cutK t).length) (dflt .str)).drop (cutK t).length))] : List (Option Box)) = [some (.var [vs x]), some (.full 9 .str (cutK t))]) ∧ True ∧ True) ∧ ((True ∧ True ∧ True) ∧ (ty b2) ∧ True) ∧ (tr 4 ((([.rowc .str (cutK t) ((cutK t).length), vi (idxF (fun s => gtB s x) (cutK t)), .row .str ([x])] : List AV) = [.rowc .str (cutK t) (cutK t).length, vi ((atF x (cutK t) : Nat) : Int), .row .str [x]]) ∧ (tr 4 ((([.rowc .tree ((cutV t).take (List.replicate ((cutV t).length) (dflt .tree)).length ++ (List.replicate ((cutV t).length) (dflt .tree)).drop (cutV t).length) (((cutV t).take (List.replicate ((cutV t).length) (dflt .tree)).length ++ (List.replicate ((cutV t).length) (dflt .tree)).drop (cutV t).length).length), vi (idxF (fun s => gtB s x) (cutK t)), .row .tree ([(Tree.mk v.kind v.b ⟨v.n.neg, v.n.m, v.n.e⟩ v.s v.k v.v)])] : List AV) = [.rowc .tree (cutV t) (cutV t).length, vi ((atF x (cutK t) : Nat) : Int), .row .tree [v]]) ∧ True ∧ True ∧ True)))) ∧ True)) .ret [(6, .ptr 1003 0)] [(1003, .var [vi 7, vb false, vb false, nilv, vi 0, vs (ba []), .own 13004, .own 13009]), (13004, .sl 9 .str (insL (cutK t) (atF x (cutK t)) x)), (13009, .sl 29 .tree (insL (cutV t) (atF x (cutK t)) v))] ⟨⟨⟨ent173, con173 _⟩, tv⟩, ⟨tv, ⟨⟨⟨ent171, con171 _ _ (by omega)⟩, tv⟩, ⟨⟨⟨ent140, con140_188 _ _ (by omega)⟩, tv⟩, ⟨⟨⟨ent189, con_ins_str _ _ _ (by omega) (by omega)⟩, ⟨⟨ent190, con_ins_tree _ _ _ (by omega) (by omega)⟩, tv⟩⟩, tv⟩⟩⟩⟩⟩ (by kernel_rfl) ⟨tr_mk tv 4, ⟨tv, rfl, tr_mk tv 5⟩, ⟨tv, tv, (by omega), tv, tv, (by omega), tv, tv, tv⟩, tr_mk tv 3, tr_mk tv 3, ⟨⟨tv, tv, (by simp only [copied (cutK t) (dflt .str) rfl, copied (cutV t) (dflt .tree) rfl]), tv, tv⟩, ⟨tv, tv, tv⟩, b1, tv⟩, ⟨tv, tv, (by refine ⟨rfl, ?_⟩; simp only [copied (cutK t) (dflt .str) rfl, copied (cutV t) (dflt .tree) rfl]), tv, tv⟩, ⟨⟨tv, tv, tv⟩, b2, tv⟩, tr_mk (⟨(by rw [← at_pos (by assumption)]), tr_mk (⟨(by rw [← at_pos (by assumption)]; simp only [copied (cutK t) (dflt .str) rfl, copied (cutV t) (dflt .tree) rfl]; rw [Tree.eta']), tv, tv, tv⟩) 4⟩) 4, tv⟩ (fun a w hs => ?_)
   exact FnQ_cast (out := .val (.agg [vi 7, vb false, vb false, .row (.int .u32) ([]), vi 0, vs (ba []), .row .str (insL (cutK t) (atF x (cutK t)) x), .row .tree (insL (cutV t) (atF x (cutK t)) v)])) (by rw [set_new (by assumption)]; rfl) (ret_ok [13004, 13009] hs ⟨by kernel_rfl, rfl⟩)
theorem con_grow_str (n : Int) (h0 : 0 ≤ n) (hn : n < 1000000000) : Con Tryz.prog I0 228 [nilv, vi n] (.own 9 .str ([])) := by
 refine con_of Tryz.func228 rfl (Nat.le_of_ble_eq_true rfl) stab (fun w0 fz a hI hs => ?_)
 have b1 : (decide (n < 0)) = false := by exact decide_eq_false (by omega)
 rcases bt (decide ((n - 0) > 0)) with b2 | b2
 ·skip
  have n2 := of_decide_eq_true b2
  refine wN hs hI [false, true] [4] [6008] ((True ∧ True) ∧ (((True ∧ True ∧ True) ∧ (ty b1) ∧ True) ∧ ((tr 5 ((InR .i64 0) ∧ (InR .i64 (n - 0)) ∧ True ∧ True)) ∧ (True ∧ True ∧ True) ∧ (ty b2) ∧ (tr 5 ((0 ≤ (n - 0) ∧ (((n - 0).toNat) * 16 : Nat) ≤ 140737488355328) ∧ True ∧ True ∧ (0 ≤ (0 : Int) ∧ (0 : Int) ≤ (List.replicate (n - 0).toNat (dflt .str)).length) ∧ True ∧ True))) ∧ (True ∧ True ∧ True) ∧ True)) .ret [(4, .own 6008)] [(6008, .sl 9 .str ((List.replicate (n - 0).toNat (dflt .str)).take 0))] (by kernel_rfl) ⟨⟨tv, tv⟩, ⟨⟨tv, tv, tv⟩, b1, tv⟩, ⟨tr_mk (⟨(inR64 (by omega) (by omega)), (inR64 (by omega) (by omega)), tv, tv⟩) 5, ⟨tv, tv, tv⟩, b2, tr_mk (⟨(by omega), tv, tv, (by omega), tv, tv⟩) 5⟩, ⟨tv, tv, tv⟩, tv⟩ (fun a w hs => ?_)
  exact FnQ_cast (out := .own 9 .str ((List.replicate (n - 0).toNat (dflt .str)).take 0)) (by rw [List.take_zero]) (ret_ok [] hs (.inl ⟨6008, by kernel_rfl, rfl⟩))
 ·skip
  have n2 := of_decide_eq_false b2
  refine wN hs hI [false, false] [4] [] ((True ∧ True) ∧ (((True ∧ True ∧ True) ∧ (ty b1) ∧ True) ∧ ((tr 5 ((InR .i64 0) ∧ (InR .i64 (n - 0)) ∧ True ∧ True)) ∧ (True ∧ True ∧ True) ∧ (ty b2) ∧ True) ∧ (True ∧ True ∧ True) ∧ True)) .ret [(4, nilv)] [] (by kernel_rfl) ⟨⟨tv, tv⟩, ⟨⟨tv, tv, tv⟩, b1, tv⟩, ⟨tr_mk (⟨(inR64 (by omega) (by omega)), (inR64 (by omega) (by omega)), tv, tv⟩) 5, ⟨tv, tv, tv⟩, b2, tv⟩, ⟨tv, tv, tv⟩, tv⟩ (fun a w hs => ?_)
  exact FnQ_cast (out := .own 9 .str ([])) (rfl) (ret_ok [] hs (.inr ⟨by kernel_rfl, rfl⟩))
theorem con_grow_tree (n : Int) (h0 : 0 ≤ n) (hn : n < 1000000000) : Con Tryz.prog I0 229 [nilv, vi n] (.own 29 .tree ([])) := by
 refine con_of Tryz.func229 rfl (Nat.le_of_ble_eq_true rfl) stab (fun w0 fz a hI hs => ?_)
 have b1 : (decide (n < 0)) = false := by exact decide_eq_false (by omega)
 rcases bt (decide ((n - 0) > 0)) with b2 | b2
 ·skip
  have n2 := of_decide_eq_true b2
  refine wN hs hI [false, true] [4] [6008] ((True ∧ True) ∧ (((True ∧ True ∧ True) ∧ (ty b1) ∧ True) ∧ ((tr 5 ((InR .i64 0) ∧ (InR .i64 (n - 0)) ∧ True ∧ True)) ∧ (True ∧ True ∧ True) ∧ (ty b2) ∧ (tr 5 ((0 ≤ (n - 0) ∧ (((n - 0).toNat) * 120 : Nat) ≤ 140737488355328) ∧ True ∧ True ∧ (0 ≤ (0 : Int) ∧ (0 : Int) ≤ (List.replicate (n - 0).toNat (dflt .tree)).length) ∧ True ∧ True))) ∧ (True ∧ True ∧ True) ∧ True)) .ret [(4, .own 6008)] [(6008, .sl 29 .tree ((List.replicate (n - 0).toNat (dflt .tree)).take 0))] (by kernel_rfl) ⟨⟨tv, tv⟩, ⟨⟨tv, tv, tv⟩, b1, tv⟩, ⟨tr_mk (⟨(inR64 (by omega) (by omega)), (inR64 (by omega) (by omega)), tv, tv⟩) 5, ⟨tv, tv, tv⟩, b2, tr_mk (⟨(by omega), tv, tv, (by omega), tv, tv⟩) 5⟩, ⟨tv, tv, tv⟩, tv⟩ (fun a w hs => ?_)
  exact FnQ_cast (out := .own 29 .tree ((List.replicate (n - 0).toNat (dflt .tree)).take 0)) (by rw [List.take_zero]) (ret_ok [] hs (.inl ⟨6008, by kernel_rfl, rfl⟩))
 ·skip
  have n2 := of_decide_eq_false b2
  refine wN hs hI [false, false] [4] [] ((True ∧ True) ∧ (((True ∧ True ∧ True) ∧ (ty b1) ∧ True) ∧ ((tr 5 ((InR .i64 0) ∧ (InR .i64 (n - 0)) ∧ True ∧ True)) ∧ (True ∧ True ∧ True) ∧ (ty b2) ∧ True) ∧ (True ∧ True ∧ True) ∧ True)) .ret [(4, nilv)] [] (by kernel_rfl) ⟨⟨tv, tv⟩, ⟨⟨tv, tv, tv⟩, b1, tv⟩, ⟨tr_mk (⟨(inR64 (by omega) (by omega)), (inR64 (by omega) (by omega)), tv, tv⟩) 5, ⟨tv, tv, tv⟩, b2, tv⟩, ⟨tv, tv, tv⟩, tv⟩ (fun a w hs => ?_)
  exact FnQ_cast (out := .own 29 .tree ([])) (rfl) (ret_ok [] hs (.inr ⟨by kernel_rfl, rfl⟩))
theorem con_cat_str (xs ys : List (El .str)) (h : xs.length + ys.length < 1000000000) : Con Tryz.prog I0 191 [.row .strs ([xs, ys])] (.own 9 .str (xs ++ ys)) := by
 refine con_of Tryz.func191 rfl (Nat.le_of_ble_eq_true rfl) stab (fun w0 fz a hI hs => ?_)
 refine wp_seq ?_
 refine wN hs hI [] [0] [] (True ∧ True) .norm [(0, .row .strs ([xs, ys]))] [] (by kernel_rfl) ⟨tv, tv⟩ (fun a w hs => ?_)
 refine then_norm ?_
 refine wp_seq ?_
 refine wN hs hI [] [0, 3] [] (True ∧ True) .norm [(0, .row .strs ([xs, ys])), (3, vi 0)] [] (by kernel_rfl) ⟨tv, tv⟩ (fun a w hs => ?_)
 refine then_norm ?_
 refine wp_seq ?_
 refine wp_seq ?_
 refine wN hs hI [] [0, 3, 9, 10, 11] [] (tr 3 True) .norm [(0, .row .strs ([xs, ys])), (3, vi 0), (9, .row .strs ([xs, ys])), (10, vi 2), (11, vi 0)] [] (by kernel_rfl) (tr_mk tv 3) (fun a w hs => ?_)
 refine then_norm ?_
 refine wp_block ?_
 refine wp_loop_rounds 3 ?_
 refine rounds_step ?_
 have b1 : (decide ((0 + (xs.length : Int)) < 0)) = false := by exact decide_eq_false (by omega)
 refine wN hs hI [true, false] [0, 3, 9, 10, 11] [] ((True ∧ True) ∧ (((true = true) ∧ True) ∧ ((((0 : Int) ≤ 0 ∧ (0 : Int) < ((2 : Nat) : Int)) ∧ True ∧ True ∧ True) ∧ (tr 3 ((InR .i64 (0 + (xs.length : Int))) ∧ True ∧ True)) ∧ (True ∧ True ∧ True) ∧ (ty b1) ∧ True) ∧ (InR .i64 1) ∧ True ∧ True)) .norm [(0, .row .strs ([xs, ys])), (3, vi (0 + (xs.length : Int))), (9, .row .strs ([xs, ys])), (10, vi 2), (11, vi 1)] [] (by kernel_rfl) ⟨⟨tv, tv⟩, ⟨rfl, tv⟩, ⟨⟨(by decide), tv, tv, tv⟩, tr_mk (⟨(inR64 (by omega) (by omega)), tv, tv⟩) 3, ⟨tv, tv, tv⟩, b1, tv⟩, (inR64 (by omega) (by omega)), tv, tv⟩ (fun a w hs => ?_)
 refine then_norm ?_
 refine rounds_step ?_
 have b2 : (decide (((0 + (xs.length : Int)) + (ys.length : Int)) < 0)) = false := by exact decide_eq_false (by omega)
 refine wN hs hI [true, false] [0, 3, 9, 10, 11] [] ((True ∧ True) ∧ (((true = true) ∧ True) ∧ ((((0 : Int) ≤ 1 ∧ (1 : Int) < ((2 : Nat) : Int)) ∧ True ∧ True ∧ True) ∧ (tr 3 ((InR .i64 ((0 + (xs.length : Int)) + (ys.length : Int))) ∧ True ∧ True)) ∧ (True ∧ True ∧ True) ∧ (ty b2) ∧ True) ∧ (InR .i64 2) ∧ True ∧ True)) .norm [(0, .row .strs ([xs, ys])), (3, vi ((0 + (xs.length : Int)) + (ys.length : Int))), (9, .row .strs ([xs, ys])), (10, vi 2), (11, vi 2)] [] (by kernel_rfl) ⟨⟨tv, tv⟩, ⟨rfl, tv⟩, ⟨⟨(by decide), tv, tv, tv⟩, tr_mk (⟨(inR64 (by omega) (by omega)), tv, tv⟩) 3, ⟨tv, tv, tv⟩, b2, tv⟩, (inR64 (by omega) (by omega)), tv, tv⟩ (fun a w hs => ?_)
 refine then_norm ?_
 refine rounds_step ?_
 refine wN hs hI [false] [0, 3] [] ((True ∧ True) ∧ ((false = false) ∧ True)) (.exit 0) [(0, .row .strs ([xs, ys])), (3, vi ((0 + (xs.length : Int)) + (ys.length : Int)))] [] (by kernel_rfl) ⟨⟨tv, tv⟩, rfl, tv⟩ (fun a w hs => ?_)
 refine then_exit ?_
 refine inb_hit ?_
 refine then_norm ?_
 refine wp_seq ?_
 refine wL hs hI [(9, ⟨[(1, ciA 228 [nilv, vi ((0 + (xs.length : Int)) + (ys.length : Int))] [] [] (.own 9 .str ([])))], [], []⟩)] [] [0, 6] [10001] (True ∧ ((okArgs [nilv, vi ((0 + (xs.length : Int)) + (ys.length : Int))]) ∧ True ∧ True)) .norm [(0, .row .strs ([xs, ys])), (6, .own 10001)] [(10001, .sl 9 .str ([]))] ⟨⟨⟨ent228, con_grow_str _ (by omega) (by omega)⟩, tv⟩, tv⟩ (by kernel_rfl) ⟨tv, rfl, tv, tv⟩ (fun a w hs => ?_)
 refine then_norm ?_
 refine wp_seq ?_
 refine wp_seq ?_
 refine wN hs hI [] [6, 25, 26, 27] [10001] (tr 3 True) .norm [(6, .own 10001), (25, .row .strs ([xs, ys])), (26, vi 2), (27, vi 0)] [(10001, .sl 9 .str ([]))] (by kernel_rfl) (tr_mk tv 3) (fun a w hs => ?_)
 refine then_norm ?_
 refine wp_block ?_
 refine wp_loop_rounds 3 ?_
 refine rounds_step ?_
 refine wN hs hI [true] [6, 25, 26, 27] [14002] ((True ∧ True) ∧ (((true = true) ∧ True) ∧ ((((0 : Int) ≤ 0 ∧ (0 : Int) < ((2 : Nat) : Int)) ∧ True ∧ True ∧ True) ∧ True ∧ True ∧ (((0 + xs.length) * 16 : Nat) ≤ 140737488355328 ∧ 0 + xs.length ≤ 140737488355328) ∧ True ∧ True) ∧ (InR .i64 1) ∧ True ∧ True)) .norm [(6, .own 14002), (25, .row .strs ([xs, ys])), (26, vi 2), (27, vi 1)] [(14002, .sl 9 .str (([]) ++ xs))] (by kernel_rfl) ⟨⟨tv, tv⟩, ⟨rfl, tv⟩, ⟨⟨(by decide), tv, tv, tv⟩, tv, tv, (by omega), tv, tv⟩, (inR64 (by omega) (by omega)), tv, tv⟩ (fun a w hs => ?_)
 refine then_norm ?_
 have hs := hs.rmT [(6, .own 10000001), (25, .row .strs ([xs, ys])), (26, vi 2), (27, vi 1)] [(10000001, .sl 9 .str (([]) ++ xs))] [(10000001, 14002)] (by kernel_rfl)
 refine rounds_step ?_
 refine wN hs hI [true] [6, 25, 26, 27] [14002] ((True ∧ True) ∧ (((true = true) ∧ True) ∧ ((((0 : Int) ≤ 1 ∧ (1 : Int) < ((2 : Nat) : Int)) ∧ True ∧ True ∧ True) ∧ True ∧ True ∧ ((((([]) ++ xs).length + ys.length) * 16 : Nat) ≤ 140737488355328 ∧ (([]) ++ xs).length + ys.length ≤ 140737488355328) ∧ True ∧ True) ∧ (InR .i64 2) ∧ True ∧ True)) .norm [(6, .own 14002), (25, .row .strs ([xs, ys])), (26, vi 2), (27, vi 2)] [(14002, .sl 9 .str ((([]) ++ xs) ++ ys))] (by kernel_rfl) ⟨⟨tv, tv⟩, ⟨rfl, tv⟩, ⟨⟨(by decide), tv, tv, tv⟩, tv, tv, (by simp only [List.nil_append]; omega), tv, tv⟩, (inR64 (by omega) (by omega)), tv, tv⟩ (fun a w hs => ?_)
 refine then_norm ?_
 have hs := hs.rmT [(6, .own 10000002), (25, .row .strs ([xs, ys])), (26, vi 2), (27, vi 2)] [(10000002, .sl 9 .str ((([]) ++ xs) ++ ys))] [(10000002, 14002)] (by kernel_rfl)
 refine rounds_step ?_
 refine wN hs hI [false] [6] [10000002] ((True ∧ True) ∧ ((false = false) ∧ True)) (.exit 2) [(6, .own 10000002)] [(10000002, .sl 9 .str ((([]) ++ xs) ++ ys))] (by kernel_rfl) ⟨⟨tv, tv⟩, rfl, tv⟩ (fun a w hs => ?_)
 refine then_exit ?_
 refine inb_hit ?_
 refine then_norm ?_
 refine wN hs hI [] [2] [10000002] ((True ∧ True ∧ True) ∧ True) .ret [(2, .own 10000002)] [(10000002, .sl 9 .str ((([]) ++ xs) ++ ys))] (by kernel_rfl) ⟨⟨tv, tv, tv⟩, tv⟩ (fun a w hs => ?_)
 exact FnQ_cast (out := .own 9 .str ((([]) ++ xs) ++ ys)) (by simp) (ret_ok [] hs (.inl ⟨10000002, by kernel_rfl, rfl⟩))
theorem con_cat_tree (xs ys : List (El .tree)) (h : xs.length + ys.length < 1000000000) : Con Tryz.prog I0 192 [.row .trees ([xs, ys])] (.own 29 .tree (xs ++ ys)) := by
 refine con_of Tryz.func192 rfl (Nat.le_of_ble_eq_true rfl) stab (fun w0 fz a hI hs => ?_)
 refine wp_seq ?_
 refine wN hs hI [] [0] [] (True ∧ True) .norm [(0, .row .trees ([xs, ys]))] [] (by kernel_rfl) ⟨tv, tv⟩ (fun a w hs => ?_)
 refine then_norm ?_
 refine wp_seq ?_
 refine wN hs hI [] [0, 3] [] (True ∧ True) .norm [(0, .row .trees ([xs, ys])), (3, vi 0)] [] (by kernel_rfl) ⟨tv, tv⟩ (fun a w hs => ?_)
 refine then_norm ?_
 refine wp_seq ?_
 refine wp_seq ?_
 refine wN hs hI [] [0, 3, 9, 10, 11] [] (tr 3 True) .norm [(0, .row .trees ([xs, ys])), (3, vi 0), (9, .row .trees ([xs, ys])), (10, vi 2), (11, vi 0)] [] (by kernel_rfl) (tr_mk tv 3) (fun a w hs => ?_)
 refine then_norm ?_
 refine wp_block ?_
 refine wp_loop_rounds 3 ?_
 refine rounds_step ?_
 have b1 : (decide ((0 + (xs.length : Int)) < 0)) = false := by exact decide_eq_false (by omega)
 refine wN hs hI [true, false] [0, 3, 9, 10, 11] [] ((True ∧ True) ∧ (((true = true) ∧ True) ∧ ((((0 : Int) ≤ 0 ∧ (0 : Int) < ((2 : Nat) : Int)) ∧ True ∧ True ∧ True) ∧ (tr 3 ((InR .i64 (0 + (xs.length : Int))) ∧ True ∧ True)) ∧ (True ∧ True ∧ True) ∧ (ty b1) ∧ True) ∧ (InR .i64 1) ∧ True ∧ True)) .norm [(0, .row .trees ([xs, ys])), (3, vi (0 + (xs.length : Int))), (9, .row .trees ([xs, ys])), (10, vi 2), (11, vi 1)] [] (by kernel_rfl) ⟨⟨tv, tv⟩, ⟨rfl, tv⟩, ⟨⟨(by decide), tv, tv, tv⟩, tr_mk (⟨(inR64 (by omega) (by omega)), tv, tv⟩) 3, ⟨tv, tv, tv⟩, b1, tv⟩, (inR64 (by omega) (by omega)), tv, tv⟩ (fun a w hs => ?_)
 refine then_norm ?_
 refine rounds_step ?_
 have b2 : (decide (((0 + (xs.length : Int)) + (ys.length : Int)) < 0)) = false := by exact decide_eq_false (by omega)
 refine wN hs hI [true, false] [0, 3, 9, 10, 11] [] ((True ∧ True) ∧ (((true = true) ∧ True) ∧ ((((0 : Int) ≤ 1 ∧ (1 : Int) < ((2 : Nat) : Int)) ∧ True ∧ True ∧ True) ∧ (tr 3 ((InR .i64 ((0 + (xs.length : Int)) + (ys.length : Int))) ∧ True ∧ True)) ∧ (True ∧ True ∧ True) ∧ (ty b2) ∧ True) ∧ (InR .i64 2) ∧ True ∧ True)) .norm [(0, .row .trees ([xs, ys])), (3, vi ((0 + (xs.length : Int)) + (ys.length : Int))), (9, .row .trees ([xs, ys])), (10, vi 2), (11, vi 2)] [] (by kernel_rfl) ⟨⟨tv, tv⟩, ⟨rfl, tv⟩, ⟨⟨(by decide), tv, tv, tv⟩, tr_mk (⟨(inR64 (by omega) (by omega)), tv, tv⟩) 3, ⟨tv, tv, tv⟩, b2, tv⟩, (inR64 (by omega) (by omega)), tv, tv⟩ (fun a w hs => ?_)
 refine then_norm ?_
 refine rounds_step ?_
 refine wN hs hI [false] [0, 3] [] ((True ∧ True) ∧ ((false = false) ∧ True)) (.exit 0) [(0, .row .trees ([xs, ys])), (3, vi ((0 + (xs.length : Int)) + (ys.length : Int)))] [] (by kernel_rfl) ⟨⟨tv, tv⟩, rfl, tv⟩ (fun a w hs => ?_)
 refine then_exit ?_
 refine inb_hit ?_
 refine then_norm ?_
 refine wp_seq ?_
 refine wL hs hI [(9, ⟨[(1, ciA 229 [nilv, vi ((0 + (xs.length : Int)) + (ys.length : Int))] [] [] (.own 29 .tree ([])))], [], []⟩)] [] [0, 6] [10001] (True ∧ ((okArgs [nilv, vi ((0 + (xs.length : Int)) + (ys.length : Int))]) ∧ True ∧ True)) .norm [(0, .row .trees ([xs, ys])), (6, .own 10001)] [(10001, .sl 29 .tree ([]))] ⟨⟨⟨ent229, con_grow_tree _ (by omega) (by omega)⟩, tv⟩, tv⟩ (by kernel_rfl) ⟨tv, rfl, tv, tv⟩ (fun a w hs => ?_)
 refine then_norm ?_
 refine wp_seq ?_
 refine wp_seq ?_
 refine wN hs hI [] [6, 25, 26, 27] [10001] (tr 3 True) .norm [(6, .own 10001), (25, .row .trees ([xs, ys])), (26, vi 2), (27, vi 0)] [(10001, .sl 29 .tree ([]))] (by kernel_rfl) (tr_mk tv 3) (fun a w hs => ?_)
 refine then_norm ?_
 refine wp_block ?_
 refine wp_loop_rounds 3 ?_
 refine rounds_step ?_
 refine wN hs hI [true] [6, 25, 26, 27] [14002] ((True ∧ True) ∧ (((true = true) ∧ True) ∧ ((((0 : Int) ≤ 0 ∧ (0 : Int) < ((2 : Nat) : Int)) ∧ True ∧ True ∧ True) ∧ True ∧ True ∧ (((0 + xs.length) * 120 : Nat) ≤ 140737488355328 ∧ 0 + xs.length ≤ 140737488355328) ∧ True ∧ True) ∧ (InR .i64 1) ∧ True ∧ True)) .norm [(6, .own 14002), (25, .row .trees ([xs, ys])), (26, vi 2), (27, vi 1)] [(14002, .sl 29 .tree (([]) ++ xs))] (by kernel_rfl) ⟨⟨tv, tv⟩, ⟨rfl, tv⟩, ⟨⟨(by decide), tv, tv, tv⟩, tv, tv, (by omega), tv, tv⟩, (inR64 (by omega) (by omega)), tv, tv⟩ (fun a w hs => ?_)
 refine then_norm ?_
 have hs := hs.rmT [(6, .own 10000003), (25, .row .trees ([xs, ys])), (26, vi 2), (27, vi 1)] [(10000003, .sl 29 .tree (([]) ++ xs))] [(10000003, 14002)] (by kernel_rfl)
 refine rounds_step ?_
 refine wN hs hI [true] [6, 25, 26, 27] [14002] ((True ∧ True) ∧ (((true = true) ∧ True) ∧ ((((0 : Int) ≤ 1 ∧ (1 : Int) < ((2 : Nat) : Int)) ∧ True ∧ True ∧ True) ∧ True ∧ True ∧ ((((([]) ++ xs).length + ys.length) * 120 : Nat) ≤ 140737488355328 ∧ (([]) ++ xs).length + ys.length ≤ 140737488355328) ∧ True ∧ True) ∧ (InR .i64 2) ∧ True ∧ True)) .norm [(6, .own 14002), (25, .row .trees ([xs, ys])), (26, vi 2), (27, vi 2)] [(14002, .sl 29 .tree ((([]) ++ xs) ++ ys))] (by kernel_rfl) ⟨⟨tv, tv⟩, ⟨rfl, tv⟩, ⟨⟨(by decide), tv, tv, tv⟩, tv, tv, (by simp only [List.nil_append]; omega), tv, tv⟩, (inR64 (by omega) (by omega)), tv, tv⟩ (fun a w hs => ?_)
 refine then_norm ?_
 have hs := hs.rmT [(6, .own 10000004), (25, .row .trees ([xs, ys])), (26, vi 2), (27, vi 2)] [(10000004, .sl 29 .tree ((([]) ++ xs) ++ ys))] [(10000004, 14002)] (by kernel_rfl)
 refine rounds_step ?_
 refine wN hs hI [false] [6] [10000004] ((True ∧ True) ∧ ((false = false) ∧ True)) (.exit 2) [(6, .own 10000004)] [(10000004, .sl 29 .tree ((([]) ++ xs) ++ ys))] (by kernel_rfl) ⟨⟨tv, tv⟩, rfl, tv⟩ (fun a w hs => ?_)
 refine then_exit ?_
 refine inb_hit ?_
 refine then_norm ?_
 refine wN hs hI [] [2] [10000004] ((True ∧ True ∧ True) ∧ True) .ret [(2, .own 10000004)] [(10000004, .sl 29 .tree ((([]) ++ xs) ++ ys))] (by kernel_rfl) ⟨⟨tv, tv, tv⟩, tv⟩ (fun a w hs => ?_)
 exact FnQ_cast (out := .own 29 .tree ((([]) ++ xs) ++ ys)) (by simp) (ret_ok [] hs (.inl ⟨10000004, by kernel_rfl, rfl⟩))
theorem con136 (t : Tree) (x : ByteArray) (hk : (cutK t).length < 1000000) : Con Tryz.prog I0 136 [.agg (encTree t), vs x] (.val (.agg (encTree (unsetT t x)))) := by
 have hcl := cut_len t
 have hx1 := idxT_in x (cutK t)
 refine con_of Tryz.func136 rfl (Nat.le_of_ble_eq_true rfl) stab (fun w0 fz a hI hs => ?_)
 rcases bt (decide ((idxT x (cutK t)) < 0)) with b1 | b1
 ·skip
  have n1 := of_decide_eq_true b1
  refine wL hs hI [(1, ⟨[(1, ciA 173 [.agg (encTree t)] [] [] (.val (.tup [.row .str (cutK t), .row .tree (cutV t)])))], [], []⟩), (2, ⟨[(2, ciA 171 [.row .str (cutK t), vs x] [] [] (.val (vi (idxT x (cutK t)))))], [], []⟩)] [true] [4] [1001] ((True ∧ True ∧ True) ∧ ((True ∧ (okArgs [.agg (encTree t)]) ∧ (tr 5 True)) ∧ (True ∧ True ∧ (okArgs [.row .str (cutK t), vs x]) ∧ True ∧ True) ∧ (True ∧ True ∧ True) ∧ (ty b1) ∧ (True ∧ True ∧ True) ∧ True)) .ret [(4, .ptr 1001 0)] [(1001, .var (encTree t))] ⟨⟨⟨ent173, con173 _⟩, tv⟩, ⟨⟨⟨ent171, con171 _ _ (by omega)⟩, tv⟩, tv⟩⟩ (by kernel_rfl) ⟨⟨tv, tv, tv⟩, ⟨tv, rfl, tr_mk tv 5⟩, ⟨tv, tv, rfl, tv, tv⟩, ⟨tv, tv, tv⟩, b1, ⟨tv, tv, tv⟩, tv⟩ (fun a w hs => ?_)
  exact FnQ_cast (out := .val (.agg (encTree t))) (by rw [unset_none (by omega)]) (ret_ok [] hs ⟨by kernel_rfl, rfl⟩)
 ·skip
  have n1 := of_decide_eq_false b1
  refine wL hs hI [(1, ⟨[(1, ciA 173 [.agg (encTree t)] [] [] (.val (.tup [.row .str (cutK t), .row .tree (cutV t)])))], [], []⟩), (2, ⟨[(2, ciA 171 [.row .str (cutK t), vs x] [] [] (.val (vi (idxT x (cutK t)))))], [], []⟩), (5, ⟨[(8, ciA 191 [.row .strs ([(cutK t).take (idxT x (cutK t)).toNat, (cutK t).drop ((idxT x (cutK t)) + 1).toNat])] [] [6007] (.own 9 .str (((cutK t).take (idxT x (cutK t)).toNat) ++ ((cutK t).drop ((idxT x (cutK t)) + 1).toNat)))), (17, ciA 192 [.row .trees ([(cutV t).take (idxT x (cutK t)).toNat, (cutV t).drop ((idxT x (cutK t)) + 1).toNat])] [] [6016] (.own 29 .tree (((cutV t).take (idxT x (cutK t)).toNat) ++ ((cutV t).drop ((idxT x (cutK t)) + 1).toNat))))], [], []⟩)] [false] [4] [1001, 6008, 6017] ((True ∧ True ∧ True) ∧ ((True ∧ (okArgs [.agg (encTree t)]) ∧ (tr 5 True)) ∧ (True ∧ True ∧ (okArgs [.row .str (cutK t), vs x]) ∧ True ∧ True) ∧ ((True ∧ True ∧ True) ∧ (ty b1) ∧ True) ∧ (True ∧ True ∧ (0 ≤ (0 : Int) ∧ (0 : Int) ≤ (idxT x (cutK t)) ∧ (idxT x (cutK t)) ≤ ((cutK t).length : Int) ∧ ((cutK t).length : Int) ≤ ((cutK t).length : Int)) ∧ True ∧ True ∧ (InR .i64 ((idxT x (cutK t)) + 1)) ∧ (0 ≤ ((idxT x (cutK t)) + 1) ∧ ((idxT x (cutK t)) + 1) ≤ ((cutK t).length : Int) ∧ ((cutK t).length : Int) ≤ ((cutK t).length : Int) ∧ ((cutK t).length : Int) ≤ ((cutK t).length : Int)) ∧ True ∧ (okArgs [.row .strs ([(cutK t).take (idxT x (cutK t)).toNat, (cutK t).drop ((idxT x (cutK t)) + 1).toNat])]) ∧ True ∧ True ∧ (0 ≤ (0 : Int) ∧ (0 : Int) ≤ (idxT x (cutK t)) ∧ (idxT x (cutK t)) ≤ ((cutV t).length : Int) ∧ ((cutV t).length : Int) ≤ ((cutV t).length : Int)) ∧ True ∧ True ∧ (InR .i64 ((idxT x (cutK t)) + 1)) ∧ (0 ≤ ((idxT x (cutK t)) + 1) ∧ ((idxT x (cutK t)) + 1) ≤ ((cutV t).length : Int) ∧ ((cutV t).length : Int) ≤ ((cutV t).length : Int) ∧ ((cutV t).length : Int) ≤ ((cutV t).length : Int)) ∧ True ∧ (okArgs [.row .trees ([(cutV t).take (idxT x (cutK t)).toNat, (cutV t).drop ((idxT x (cutK t)) + 1).toNat])]) ∧ True ∧ True ∧ True) ∧ True)) .ret [(4, .ptr 1001 0)] [(1001, .var [vi 7, vb false, vb false, nilv, vi 0, vs (ba []), .own 6008, .own 6017]), (6008, .sl 9 .str (((cutK t).take (idxT x (cutK t)).toNat) ++ ((cutK t).drop ((idxT x (cutK t)) + 1).toNat))), (6017, .sl 29 .tree (((cutV t).take (idxT x (cutK t)).toNat) ++ ((cutV t).drop ((idxT x (cutK t)) + 1).toNat)))] ⟨⟨⟨ent173, con173 _⟩, tv⟩, ⟨⟨⟨ent171, con171 _ _ (by omega)⟩, tv⟩, ⟨⟨⟨ent191, con_cat_str _ _ (by simp only [List.length_take, List.length_drop]; omega)⟩, ⟨⟨ent192, con_cat_tree _ _ (by simp only [List.length_take, List.length_drop]; omega)⟩, tv⟩⟩, tv⟩⟩⟩ (by kernel_rfl) ⟨⟨tv, tv, tv⟩, ⟨tv, rfl, tr_mk tv 5⟩, ⟨tv, tv, rfl, tv, tv⟩, ⟨⟨tv, tv, tv⟩, b1, tv⟩, ⟨tv, tv, (by (repeat' apply And.intro) <;> (try split) <;> omega), tv, tv, (inR64 (by omega) (by omega)), (by (repeat' apply And.intro) <;> (try split) <;> omega), tv, rfl, tv, tv, (by (repeat' apply And.intro) <;> (try split) <;> omega), tv, tv, (inR64 (by omega) (by omega)), (by (repeat' apply And.intro) <;> (try split) <;> omega), tv, rfl, tv, tv, tv⟩, tv⟩ (fun a w hs => ?_)
  exact FnQ_cast (out := .val (.agg [vi 7, vb false, vb false, .row (.int .u32) ([]), vi 0, vs (ba []), .row .str (((cutK t).take (idxT x (cutK t)).toNat) ++ ((cutK t).drop ((idxT x (cutK t)) + 1).toNat)), .row .tree (((cutV t).take (idxT x (cutK t)).toNat) ++ ((cutV t).drop ((idxT x (cutK t)) + 1).toNat))])) (by rw [unset_found (by omega), show (idxT x (cutK t) + 1).toNat = (idxT x (cutK t)).toNat + 1 by omega]; rfl) (ret_ok [6008, 6017] hs ⟨by kernel_rfl, rfl⟩)
def setP : List ByteArray → Tree → Tree → Tree
 | [], _, v => v
 | n :: p, t, v => setT t n (setP p (memV t n) v)
def unsetP : List ByteArray → Tree → Tree
 | [], t => t
 | [n], t => unsetT t n
 | n :: m :: p, t => if memB t n = true then setT t n (unsetP (m :: p) (memV t n)) else t
theorem setP_at {q : List ByteArray} {t v : Tree} (h : 0 < q.length) : setP q t v = setT t (q.getD 0 (dflt .str)) (setP (q.drop 1) (memV t (q.getD 0 (dflt .str))) v) := by
 cases q with
 | nil => simp at h
 | cons n q => rfl
theorem unsetP_one {q : List ByteArray} {t : Tree} (h : q.length = 1) : unsetP q t = unsetT t (q.getD 0 (dflt .str)) := by
 match q, h with
 | [n], _ => rfl
theorem unsetP_yes {q : List ByteArray} {t : Tree} (h : 1 < q.length) (hb : memB t (q.getD 0 (dflt .str)) = true) : unsetP q t = setT t (q.getD 0 (dflt .str)) (unsetP (q.drop 1) (memV t (q.getD 0 (dflt .str)))) := by
 match q, h with
 | n :: m :: q, _ => show (if memB t n = true then _ else t) = _; rw [if_pos (show memB t n = true from hb)]; rfl
theorem unsetP_no {q : List ByteArray} {t : Tree} (h : 1 < q.length) (hb : memB t (q.getD 0 (dflt .str)) = false) : unsetP q t = t := by
 match q, h with
 | n :: m :: q, _ => show (if memB t n = true then _ else t) = _; rw [if_neg (by rw [show memB t n = false from hb]; decide)]
theorem memV_nodes' (t : Tree) (x : ByteArray) : nodes (memV t x) ≤ nodes t := by
 cases h : memB t x with
 | true => exact memV_nodes h
 | false =>
  have h0 : ¬ idxT x (cutK t) ≥ 0 := of_decide_eq_false h
  rw [(memV_neg h0).1, show nodes Tree.zero = 1 from by simp [Tree.zero, nodes, nodesL]]
  have := nodes_eq t; omega
theorem con76_ (v : Tree) : ∀ (n : Nat) (q : List ByteArray) (t : Tree), q.length < n → q.length < 1000000 → nodes t < 1000000 → Con Tryz.prog I0 76 [.agg (encTree t), .row .str q, .agg (encTree v)] (.val (.agg (encTree (setP q t v)))) := by
 intro n
 induction n
 case zero => intro q t hn hq ht; omega
 rename_i n ih
 intro q t hn hq ht
 refine con_of Tryz.func76 rfl (Nat.le_of_ble_eq_true rfl) stab (fun w0 fz a hI hs => ?_)
 rcases bt ((q.length : Int) == 0) with b1 | b1
 ·skip
  have n1 := eq_of_beq b1
  refine wN hs hI [true] [6] [1002] ((tr 3 True) ∧ ((tr 3 True) ∧ (ty b1) ∧ (True ∧ True ∧ True) ∧ True)) .ret [(6, .ptr 1002 0)] [(1002, .var (encTree v))] (by kernel_rfl) ⟨tr_mk tv 3, tr_mk tv 3, b1, ⟨tv, tv, tv⟩, tv⟩ (fun a w hs => ?_)
  exact FnQ_cast (out := .val (.agg (encTree v))) (by have h0 : q = [] := List.eq_nil_of_length_eq_zero (by omega); rw [h0]; rfl) (ret_ok [] hs ⟨by kernel_rfl, rfl⟩)
 ·skip
  have n1 := beq_eq_false_iff_ne.1 b1
  refine wL hs hI [(3, ⟨[(4, ciA 122 [.agg (encTree t), vs (q.getD 0 (dflt .str))] [] [] (.val (.tup [.agg (encTree (memV t (q.getD 0 (dflt .str)))), vb (memB t (q.getD 0 (dflt .str)))])))], [], []⟩), (4, ⟨[(8, ciA 76 [.agg (encTree (memV t (q.getD 0 (dflt .str)))), .row .str (q.drop 1), .agg (encTree v)] [] [] (.val (.agg (encTree (setP (q.drop 1) (memV t (q.getD 0 (dflt .str))) v))))), (9, ciA 135 [.agg (encTree t), vs (q.getD 0 (dflt .str)), .agg (encTree (setP (q.drop 1) (memV t (q.getD 0 (dflt .str))) v))] [] [] (.val (.agg (encTree (setT t (q.getD 0 (dflt .str)) (setP (q.drop 1) (memV t (q.getD 0 (dflt .str))) v))))))], [], []⟩)] [false] [6] [1002] ((tr 3 True) ∧ (((tr 3 True) ∧ (ty b1) ∧ True) ∧ (True ∧ True ∧ (0 ≤ (0 : Int) ∧ (0 : Int) < q.length) ∧ True ∧ (okArgs [.agg (encTree t), vs (q.getD 0 (dflt .str))]) ∧ (tr 6 True)) ∧ (True ∧ True ∧ (0 ≤ (0 : Int) ∧ (0 : Int) < q.length) ∧ (tr 3 ((0 ≤ (1 : Int) ∧ (1 : Int) ≤ (q.length : Int) ∧ (q.length : Int) ≤ (q.length : Int) ∧ (q.length : Int) ≤ (q.length : Int)) ∧ True ∧ (okArgs [.agg (encTree (memV t (q.getD 0 (dflt .str)))), .row .str (q.drop 1), .agg (encTree v)]) ∧ (okArgs [.agg (encTree t), vs (q.getD 0 (dflt .str)), .agg (encTree (setP (q.drop 1) (memV t (q.getD 0 (dflt .str))) v))]) ∧ True ∧ True))) ∧ True)) .ret [(6, .ptr 1002 0)] [(1002, .var (encTree (setT t (q.getD 0 (dflt .str)) (setP (q.drop 1) (memV t (q.getD 0 (dflt .str))) v))))] ⟨⟨⟨ent122, con122 _ _ (by have := cutK_nodes t; omega)⟩, tv⟩, ⟨⟨⟨ent76, ih _ _ (by rw [List.length_drop]; omega) (by rw [List.length_drop]; omega) (by have := memV_nodes' t (q.getD 0 (dflt .str)); omega)⟩, ⟨⟨ent135, con135 _ _ _ (by have := cutK_nodes t; omega)⟩, tv⟩⟩, tv⟩⟩ (by kernel_rfl) ⟨tr_mk tv 3, ⟨tr_mk tv 3, b1, tv⟩, ⟨tv, tv, (by omega), tv, rfl, tr_mk tv 6⟩, ⟨tv, tv, (by omega), tr_mk (⟨(by (repeat' apply And.intro) <;> (try split) <;> omega), tv, rfl, rfl, tv, tv⟩) 3⟩, tv⟩ (fun a w hs => ?_)
  exact FnQ_cast (out := .val (.agg (encTree (setT t (q.getD 0 (dflt .str)) (setP (q.drop 1) (memV t (q.getD 0 (dflt .str))) v))))) (by rw [setP_at (q := q) (by omega)]) (ret_ok [] hs ⟨by kernel_rfl, rfl⟩)
theorem con76 (q : List ByteArray) (t : Tree) (v : Tree) (hq : q.length < 1000000) (ht : nodes t < 1000000) : Con Tryz.prog I0 76 [.agg (encTree t), .row .str q, .agg (encTree v)] (.val (.agg (encTree (setP q t v)))) := con76_ v (q.length + 1) q t (Nat.lt_succ_self _) hq ht
theorem con77_ : ∀ (n : Nat) (q : List ByteArray) (t : Tree), q.length < n → 0 < q.length → q.length < 1000000 → nodes t < 1000000 → Con Tryz.prog I0 77 [.agg (encTree t), .row .str q] (.val (.agg (encTree (unsetP q t)))) := by
 intro n
 induction n
 case zero => intro q t hn hp hq ht; omega
 rename_i n ih
 intro q t hn hp hq ht
 refine con_of Tryz.func77 rfl (Nat.le_of_ble_eq_true rfl) stab (fun w0 fz a hI hs => ?_)
 rcases bt ((q.length : Int) == 1) with b1 | b1
 ·skip
  have n1 := eq_of_beq b1
  refine wL hs hI [(2, ⟨[(4, ciA 136 [.agg (encTree t), vs (q.getD 0 (dflt .str))] [] [] (.val (.agg (encTree (unsetT t (q.getD 0 (dflt .str)))))))], [], []⟩)] [true] [4] [1001] ((True ∧ True ∧ True) ∧ ((tr 3 True) ∧ (ty b1) ∧ (True ∧ True ∧ (0 ≤ (0 : Int) ∧ (0 : Int) < q.length) ∧ True ∧ (okArgs [.agg (encTree t), vs (q.getD 0 (dflt .str))]) ∧ True ∧ True) ∧ True)) .ret [(4, .ptr 1001 0)] [(1001, .var (encTree (unsetT t (q.getD 0 (dflt .str)))))] ⟨⟨⟨ent136, con136 _ _ (by have := cutK_nodes t; omega)⟩, tv⟩, tv⟩ (by kernel_rfl) ⟨⟨tv, tv, tv⟩, tr_mk tv 3, b1, ⟨tv, tv, (by omega), tv, rfl, tv, tv⟩, tv⟩ (fun a w hs => ?_)
  exact FnQ_cast (out := .val (.agg (encTree (unsetT t (q.getD 0 (dflt .str)))))) (by rw [unsetP_one (q := q) (by omega)]) (ret_ok [] hs ⟨by kernel_rfl, rfl⟩)
 ·skip
  have n1 := beq_eq_false_iff_ne.1 b1
  rcases bt (memB t (q.getD 0 (dflt .str))) with b2 | b2
  ·skip
   refine wL hs hI [(3, ⟨[(4, ciA 122 [.agg (encTree t), vs (q.getD 0 (dflt .str))] [] [] (.val (.tup [.agg (encTree (memV t (q.getD 0 (dflt .str)))), vb (memB t (q.getD 0 (dflt .str)))])))], [], []⟩), (6, ⟨[(7, ciA 77 [.agg (encTree (memV t (q.getD 0 (dflt .str)))), .row .str (q.drop 1)] [] [] (.val (.agg (encTree (unsetP (q.drop 1) (memV t (q.getD 0 (dflt .str)))))))), (8, ciA 135 [.agg (encTree t), vs (q.getD 0 (dflt .str)), .agg (encTree (unsetP (q.drop 1) (memV t (q.getD 0 (dflt .str)))))] [] [] (.val (.agg (encTree (setT t (q.getD 0 (dflt .str)) (unsetP (q.drop 1) (memV t (q.getD 0 (dflt .str)))))))))], [], []⟩)] [false, false] [4] [1001] ((True ∧ True ∧ True) ∧ (((tr 3 True) ∧ (ty b1) ∧ True) ∧ (True ∧ True ∧ (0 ≤ (0 : Int) ∧ (0 : Int) < q.length) ∧ True ∧ (okArgs [.agg (encTree t), vs (q.getD 0 (dflt .str))]) ∧ (tr 6 True)) ∧ ((True ∧ True ∧ True) ∧ (ty (ng1 b2)) ∧ True) ∧ (True ∧ True ∧ (0 ≤ (0 : Int) ∧ (0 : Int) < q.length) ∧ (tr 3 ((0 ≤ (1 : Int) ∧ (1 : Int) ≤ (q.length : Int) ∧ (q.length : Int) ≤ (q.length : Int) ∧ (q.length : Int) ≤ (q.length : Int)) ∧ (okArgs [.agg (encTree (memV t (q.getD 0 (dflt .str)))), .row .str (q.drop 1)]) ∧ (okArgs [.agg (encTree t), vs (q.getD 0 (dflt .str)), .agg (encTree (unsetP (q.drop 1) (memV t (q.getD 0 (dflt .str)))))]) ∧ True ∧ True))) ∧ True)) .ret [(4, .ptr 1001 0)] [(1001, .var (encTree (setT t (q.getD 0 (dflt .str)) (unsetP (q.drop 1) (memV t (q.getD 0 (dflt .str)))))))] ⟨⟨⟨ent122, con122 _ _ (by have := cutK_nodes t; omega)⟩, tv⟩, ⟨⟨⟨ent77, ih _ _ (by rw [List.length_drop]; omega) (by rw [List.length_drop]; omega) (by rw [List.length_drop]; omega) (by have := memV_nodes' t (q.getD 0 (dflt .str)); omega)⟩, ⟨⟨ent135, con135 _ _ _ (by have := cutK_nodes t; omega)⟩, tv⟩⟩, tv⟩⟩ (by kernel_rfl) ⟨⟨tv, tv, tv⟩, ⟨tr_mk tv 3, b1, tv⟩, ⟨tv, tv, (by omega), tv, rfl, tr_mk tv 6⟩, ⟨⟨tv, tv, tv⟩, (ng1 b2), tv⟩, ⟨tv, tv, (by omega), tr_mk (⟨(by (repeat' apply And.intro) <;> (try split) <;> omega), rfl, rfl, tv, tv⟩) 3⟩, tv⟩ (fun a w hs => ?_)
   exact FnQ_cast (out := .val (.agg (encTree (setT t (q.getD 0 (dflt .str)) (unsetP (q.drop 1) (memV t (q.getD 0 (dflt .str)))))))) (by rw [unsetP_yes (q := q) (by omega) b2]) (ret_ok [] hs ⟨by kernel_rfl, rfl⟩)
  ·skip
   refine wL hs hI [(3, ⟨[(4, ciA 122 [.agg (encTree t), vs (q.getD 0 (dflt .str))] [] [] (.val (.tup [.agg (encTree (memV t (q.getD 0 (dflt .str)))), vb (memB t (q.getD 0 (dflt .str)))])))], [], []⟩)] [false, true] [4] [1001] ((True ∧ True ∧ True) ∧ (((tr 3 True) ∧ (ty b1) ∧ True) ∧ (True ∧ True ∧ (0 ≤ (0 : Int) ∧ (0 : Int) < q.length) ∧ True ∧ (okArgs [.agg (encTree t), vs (q.getD 0 (dflt .str))]) ∧ (tr 6 True)) ∧ (True ∧ True ∧ True) ∧ (ty (ng0 b2)) ∧ (True ∧ True ∧ True) ∧ True)) .ret [(4, .ptr 1001 0)] [(1001, .var (encTree t))] ⟨⟨⟨ent122, con122 _ _ (by have := cutK_nodes t; omega)⟩, tv⟩, tv⟩ (by kernel_rfl) ⟨⟨tv, tv, tv⟩, ⟨tr_mk tv 3, b1, tv⟩, ⟨tv, tv, (by omega), tv, rfl, tr_mk tv 6⟩, ⟨tv, tv, tv⟩, (ng0 b2), ⟨tv, tv, tv⟩, tv⟩ (fun a w hs => ?_)
   exact FnQ_cast (out := .val (.agg (encTree t))) (by rw [unsetP_no (q := q) (by omega) b2]) (ret_ok [] hs ⟨by kernel_rfl, rfl⟩)
theorem con77 (q : List ByteArray) (t : Tree) (hp : 0 < q.length) (hq : q.length < 1000000) (ht : nodes t < 1000000) : Con Tryz.prog I0 77 [.agg (encTree t), .row .str q] (.val (.agg (encTree (unsetP q t)))) := con77_ (q.length + 1) q t (Nat.lt_succ_self _) hp hq ht
def cmpB (a b : ByteArray) : Int := if Op.bytesLess a.toList b.toList = true then -1 else if gtB a b = true then 1 else 0
def cmpS : List ByteArray → List ByteArray → Int
 | [], [] => 0
 | [], _ :: _ => -1
 | _ :: _, [] => 1
 | x :: xs, y :: ys => if cmpB x y = 0 then cmpS xs ys else cmpB x y
theorem cmpS_go {xs ys : List ByteArray} {i : Nat} (hi : i < xs.length) (hj : i < ys.length) : cmpS (xs.drop i) (ys.drop i) = if cmpB (xs.getD i (dflt .str)) (ys.getD i (dflt .str)) = 0 then cmpS (xs.drop (i + 1)) (ys.drop (i + 1)) else cmpB (xs.getD i (dflt .str)) (ys.getD i (dflt .str)) := by
 rw [List.drop_eq_getElem_cons hi, List.drop_eq_getElem_cons hj, cmpS]
 have e : xs.getD i (dflt .str) = xs[i] := by rw [List.getD_eq_getElem?_getD, List.getElem?_eq_getElem hi]; rfl
 have e' : ys.getD i (dflt .str) = ys[i] := by rw [List.getD_eq_getElem?_getD, List.getElem?_eq_getElem hj]; rfl
 rw [e, e']
theorem cmpS_gt {xs ys : List ByteArray} {i : Nat} (hi : i < xs.length) (hj : ¬ i < ys.length) : cmpS (xs.drop i) (ys.drop i) = 1 := by
 rw [List.drop_eq_getElem_cons hi, List.drop_of_length_le (l := ys) (by omega)]; rfl
theorem cmpS_lt {xs ys : List ByteArray} {i : Nat} (hi : ¬ i < xs.length) (hj : i < ys.length) : cmpS (xs.drop i) (ys.drop i) = -1 := by
 rw [List.drop_of_length_le (l := xs) (by omega), List.drop_eq_getElem_cons hj]; rfl
theorem cmpS_nil {xs ys : List ByteArray} {i : Nat} (hi : ¬ i < xs.length) (hj : ¬ i < ys.length) : cmpS (xs.drop i) (ys.drop i) = 0 := by
 rw [List.drop_of_length_le (l := xs) (by omega), List.drop_of_length_le (l := ys) (by omega)]; rfl
def startsF (a b : List ByteArray) : Bool := decide ((a.length : Int) ≤ (b.length : Int)) && decide (a = b.take a.length)
theorem list_eq {a b : List ByteArray} (hl : a.length = b.length) (h : ∀ j, j < a.length → ∀ d, a.getD j d = b.getD j d) : a = b := by
 refine List.ext_getElem hl (fun i h1 h2 => ?_)
 have := h i h1 (dflt .str)
 rw [List.getD_eq_getElem?_getD, List.getD_eq_getElem?_getD, List.getElem?_eq_getElem h1, List.getElem?_eq_getElem h2] at this
 exact this
theorem con74 (xs : List (El .str)) (h : xs.length < 1000000000) : Con Tryz.prog I0 74 [.row .str xs] (.own 9 .str xs) := by
 refine con_of Tryz.func74 rfl (Nat.le_of_ble_eq_true rfl) stab (fun w0 fz a hI hs => ?_)
 obtain ⟨bn0, hbn0, hs⟩ := hs.isNil 0 .str xs rfl
 rcases bt (bn0) with b1 | b1
 ·skip
  refine wN hs hI [true] [2] [] ((True ∧ True) ∧ ((True ∧ True ∧ True) ∧ (ty b1) ∧ (True ∧ True) ∧ True)) .ret [(2, nilv)] [] (by kernel_rfl) ⟨⟨tv, tv⟩, ⟨tv, tv, tv⟩, b1, ⟨tv, tv⟩, tv⟩ (fun a w hs => ?_)
  exact FnQ_cast (out := .own 9 .str ([])) (by rw [hbn0 b1]) (ret_ok [] hs (.inr ⟨by kernel_rfl, rfl⟩))
 ·skip
  refine wN hs hI [false] [2] [4002] ((True ∧ True) ∧ (((True ∧ True ∧ True) ∧ (ty b1) ∧ True) ∧ (True ∧ True ∧ (((0 + xs.length) * 16 : Nat) ≤ 140737488355328 ∧ 0 + xs.length ≤ 140737488355328) ∧ True ∧ True) ∧ True)) .ret [(2, .own 4002)] [(4002, .sl 9 .str (([]) ++ xs))] (by kernel_rfl) ⟨⟨tv, tv⟩, ⟨⟨tv, tv, tv⟩, b1, tv⟩, ⟨tv, tv, (by omega), tv, tv⟩, tv⟩ (fun a w hs => ?_)
  exact FnQ_cast (out := .own 9 .str (([]) ++ xs)) (by rw [List.nil_append]) (ret_ok [] hs (.inl ⟨4002, by kernel_rfl, rfl⟩))
theorem con70 (xs : List (El .strs)) (h : xs.length < 1000000000) : Con Tryz.prog I0 70 [.row .strs xs] (.own 26 .strs xs) := by
 refine con_of Tryz.func70 rfl (Nat.le_of_ble_eq_true rfl) stab (fun w0 fz a hI hs => ?_)
 obtain ⟨bn0, hbn0, hs⟩ := hs.isNil 0 .strs xs rfl
 rcases bt (bn0) with b1 | b1
 ·skip
  refine wN hs hI [true] [2] [] ((True ∧ True) ∧ ((True ∧ True ∧ True) ∧ (ty b1) ∧ (True ∧ True) ∧ True)) .ret [(2, nilv)] [] (by kernel_rfl) ⟨⟨tv, tv⟩, ⟨tv, tv, tv⟩, b1, ⟨tv, tv⟩, tv⟩ (fun a w hs => ?_)
  exact FnQ_cast (out := .own 26 .strs ([])) (by rw [hbn0 b1]) (ret_ok [] hs (.inr ⟨by kernel_rfl, rfl⟩))
 ·skip
  refine wN hs hI [false] [2] [4002] ((True ∧ True) ∧ (((True ∧ True ∧ True) ∧ (ty b1) ∧ True) ∧ (True ∧ True ∧ (((0 + xs.length) * 24 : Nat) ≤ 140737488355328 ∧ 0 + xs.length ≤ 140737488355328) ∧ True ∧ True) ∧ True)) .ret [(2, .own 4002)] [(4002, .sl 26 .strs (([]) ++ xs))] (by kernel_rfl) ⟨⟨tv, tv⟩, ⟨⟨tv, tv, tv⟩, b1, tv⟩, ⟨tv, tv, (by omega), tv, tv⟩, tv⟩ (fun a w hs => ?_)
  exact FnQ_cast (out := .own 26 .strs (([]) ++ xs)) (by rw [List.nil_append]) (ret_ok [] hs (.inl ⟨4002, by kernel_rfl, rfl⟩))
theorem con134 (xs ys : List ByteArray) (h : xs.length < 1000000000) (h2 : ys.length < 1000000000) : Con Tryz.prog I0 134 [.row .str xs, .row .str ys] (.val (vb (decide (xs = ys)))) := by
 refine con_of Tryz.func134 rfl (Nat.le_of_ble_eq_true rfl) stab (fun w0 fz a hI hs => ?_)
 refine wp_seq ?_
 refine wN hs hI [] [0, 1] [] (True ∧ True) .norm [(0, .row .str xs), (1, .row .str ys)] [] (by kernel_rfl) ⟨tv, tv⟩ (fun a w hs => ?_)
 refine then_norm ?_
 refine wp_seq ?_
 rcases bt ((xs.length : Int) != (ys.length : Int)) with b1 | b1
 ·skip
  have n1 := bne_iff_ne.1 b1
  refine wN hs hI [true] [4] [] ((tr 5 True) ∧ ((ty b1) ∧ (True ∧ True) ∧ True)) .ret [(4, vb false)] [] (by kernel_rfl) ⟨tr_mk tv 5, b1, ⟨tv, tv⟩, tv⟩ (fun a w hs => ?_)
  refine then_ret ?_
  exact FnQ_cast (out := .val (vb false)) (by rw [decide_eq_false (fun e => by subst e; omega)]) (ret_ok [] hs ⟨by kernel_rfl, rfl⟩)
 ·skip
  have n1 := bne_eq_false_iff_eq.1 b1
  refine wN hs hI [false] [0, 1] [] ((tr 5 True) ∧ ((ty b1) ∧ True)) .norm [(0, .row .str xs), (1, .row .str ys)] [] (by kernel_rfl) ⟨tr_mk tv 5, b1, tv⟩ (fun a w hs => ?_)
  refine then_norm ?_
  refine wp_seq ?_
  refine wp_seq ?_
  refine wN hs hI [] [0, 1, 12, 13] [] (tr 3 True) .norm [(0, .row .str xs), (1, .row .str ys), (12, vi (xs.length : Int)), (13, vi 0)] [] (by kernel_rfl) (tr_mk tv 3) (fun a w hs => ?_)
  refine then_norm ?_
  refine wp_block ?_
  refine loop_L (N := Tryz.f134.ntmps) (w0 := w0) (ow := noO fz) (α := Nat) (fun p => [(0, .row .str xs), (1, .row .str ys), (12, vi (xs.length : Int)), (13, vi (p : Int))]) (fun p => []) (fun p => p ≤ xs.length ∧ ∀ j, j < p → ∀ d, xs.getD j d = ys.getD j d) (fun p => xs.length - p) 0 ?_ ?_ ?_
  ·exact ⟨Nat.zero_le _, fun j hj => absurd hj (Nat.not_lt_zero _)⟩
  ·exact (hs.cst [(0, .row .str xs), (1, .row .str ys), (12, vi (xs.length : Int)), (13, vi ((0 : Nat) : Int))] [] rfl).rm [] (by kernel_rfl)
  rintro i hJ a w hs
  obtain ⟨hi, hall⟩ := hJ
  rcases bt (decide ((i : Int) < (xs.length : Int))) with b2 | b2
  ·skip
   have n2 := of_decide_eq_true b2
   rcases bt ((xs.getD i (dflt .str)).toList == (ys.getD i (dflt .str)).toList) with b3 | b3
   ·skip
    have n3 := eq_of_beq b3
    refine wN hs hI [true, false] [0, 1, 12, 13] [] ((True ∧ True) ∧ (((ty b2) ∧ True) ∧ ((True ∧ True ∧ True) ∧ (True ∧ True ∧ (0 ≤ (i : Int) ∧ (i : Int) < xs.length) ∧ (tr 3 ((0 ≤ (i : Int) ∧ (i : Int) < ys.length) ∧ True ∧ True ∧ True))) ∧ (ty (ng1 b3)) ∧ True) ∧ (InR .i64 ((i : Int) + 1)) ∧ True ∧ True)) .norm [(0, .row .str xs), (1, .row .str ys), (12, vi (xs.length : Int)), (13, vi ((i : Int) + 1))] [] (by kernel_rfl) ⟨⟨tv, tv⟩, ⟨b2, tv⟩, ⟨⟨tv, tv, tv⟩, ⟨tv, tv, (by omega), tr_mk (⟨(by omega), tv, tv, tv⟩) 3⟩, (ng1 b3), tv⟩, (inR64 (by omega) (by omega)), tv, tv⟩ (fun a w hs => ?_)
    refine then_norm ⟨i + 1, ⟨by omega, fun j hj d => by rcases Nat.lt_succ_iff_lt_or_eq.1 hj with h | h; exact hall j h d; subst h; rw [getD_any (by omega) d (dflt .str), getD_any (l := ys) (by omega) d (dflt .str)]; exact eqT_iff.1 b3⟩, by omega, ?_⟩
    (have e0_ : ((i : Int) + 1) = ((((i + 1) : Nat) : Int)) := (by first | rfl | (omega)); exact (hs.cst [(0, .row .str xs), (1, .row .str ys), (12, vi (xs.length : Int)), (13, vi (((i + 1) : Nat) : Int))] [] (by first | rfl | (rw [e0_]; done) | (simp only [e0_]; done) | (simp only [e0_]; rfl))).rm [] (by kernel_rfl))
   ·skip
    have n3 := beq_eq_false_iff_ne.1 b3
    refine wN hs hI [true, true] [4] [] ((True ∧ True) ∧ (((ty b2) ∧ True) ∧ (True ∧ True ∧ True) ∧ (True ∧ True ∧ (0 ≤ (i : Int) ∧ (i : Int) < xs.length) ∧ (tr 3 ((0 ≤ (i : Int) ∧ (i : Int) < ys.length) ∧ True ∧ True ∧ True))) ∧ (ty (ng0 b3)) ∧ (True ∧ True) ∧ True)) .ret [(4, vb false)] [] (by kernel_rfl) ⟨⟨tv, tv⟩, ⟨b2, tv⟩, ⟨tv, tv, tv⟩, ⟨tv, tv, (by omega), tr_mk (⟨(by omega), tv, tv, tv⟩) 3⟩, (ng0 b3), ⟨tv, tv⟩, tv⟩ (fun a w hs => ?_)
    refine then_ret ?_
    refine inb_ret ?_
    refine then_ret ?_
    exact FnQ_cast (out := .val (vb false)) (by rw [decide_eq_false (fun e => by subst e; exact absurd (eqT_self _) (by rw [show eqT _ _ = false from b3]; decide))]) (ret_ok [] hs ⟨by kernel_rfl, rfl⟩)
  ·skip
   have n2 := of_decide_eq_false b2
   refine wN hs hI [false] [] [] ((True ∧ True) ∧ ((ty b2) ∧ True)) (.exit 0) [] [] (by kernel_rfl) ⟨⟨tv, tv⟩, b2, tv⟩ (fun a w hs => ?_)
   refine then_exit ?_
   refine inb_hit ?_
   refine then_norm ?_
   refine wN hs hI [] [4] [] ((True ∧ True) ∧ True) .ret [(4, vb true)] [] (by kernel_rfl) ⟨⟨tv, tv⟩, tv⟩ (fun a w hs => ?_)
   exact FnQ_cast (out := .val (vb true)) (by rw [decide_eq_true (list_eq (by omega) (fun j hj d => hall j (by omega) d))]) (ret_ok [] hs ⟨by kernel_rfl, rfl⟩)
theorem con73 (xs ys : List ByteArray) (h : xs.length < 1000000000) (h2 : ys.length < 1000000000) : Con Tryz.prog I0 73 [.row .str xs, .row .str ys] (.val (vb (startsF xs ys))) := by
 refine con_of Tryz.func73 rfl (Nat.le_of_ble_eq_true rfl) stab (fun w0 fz a hI hs => ?_)
 rcases bt (decide ((xs.length : Int) ≤ (ys.length : Int))) with b1 | b1
 ·skip
  have n1 := of_decide_eq_true b1
  refine wL hs hI [(1, ⟨[(11, ciA 134 [.row .str xs, .row .str (ys.take xs.length)] [] [] (.val (vb (decide (xs = ys.take xs.length)))))], gg [6, 7, 8, 9, 10, 11, 1012] [], []⟩)] [] [4] [] ((True ∧ True) ∧ ((tr 6 (rp 4 b1 ((ty b1) ∧ (0 ≤ (0 : Int) ∧ (0 : Int) ≤ (xs.length : Int) ∧ (xs.length : Int) ≤ (ys.length : Int) ∧ (ys.length : Int) ≤ (ys.length : Int)) ∧ (ty b1) ∧ (okArgs [.row .str xs, .row .str (ys.take xs.length)]) ∧ (ty b1) ∧ True ∧ True))) ∧ True)) .ret [(4, vb (decide (xs = ys.take xs.length)))] [] ⟨⟨⟨ent134, con134 _ _ (by omega) (by simp only [List.length_take]; omega)⟩, tv⟩, tv⟩ (by kernel_rfl) ⟨⟨tv, tv⟩, tr_mk (rp_mk (⟨b1, (by (repeat' apply And.intro) <;> (try split) <;> omega), b1, rfl, b1, tv, tv⟩) 4) 6, tv⟩ (fun a w hs => ?_)
  exact FnQ_cast (out := .val (vb (decide (xs = ys.take xs.length)))) (by simp only [startsF]; rw [b1]; rfl) (ret_ok [] hs ⟨by kernel_rfl, rfl⟩)
 ·skip
  have n1 := of_decide_eq_false b1
  refine wL hs hI [(1, ⟨[], gg [] [6, 7, 8, 9, 10, 11, 1012], []⟩)] [] [4] [] ((True ∧ True) ∧ ((tr 6 ((ty b1) ∧ (ty b1) ∧ (ty b1) ∧ (ty b1) ∧ (ty b1) ∧ (ty b1) ∧ (ty b1) ∧ True ∧ True)) ∧ True)) .ret [(4, vb false)] [] ⟨tv, tv⟩ (by kernel_rfl) ⟨⟨tv, tv⟩, tr_mk (⟨b1, b1, b1, b1, b1, b1, b1, tv, tv⟩) 6, tv⟩ (fun a w hs => ?_)
  exact FnQ_cast (out := .val (vb false)) (by simp only [startsF]; rw [b1]; rfl) (ret_ok [] hs ⟨by kernel_rfl, rfl⟩)
end Go.Proofs.YtondpnipoogoiaaGreatDoor.F
namespace Go.Proofs
open Go.Shelf
def Tryz.sortL_ren : Go.Shelf.Ren := ⟨fun | 6 => 71 | 15 => 132 | 14 => 131 | 28 => 185 | 29 => 186 | 20 => 177 | 21 => 178 | 22 => 179 | 23 => 180 | 24 => 181 | 25 => 182 | 26 => 183 | 27 => 184 | 46 => 219 | 47 => 220 | 48 => 221 | 49 => 222 | 50 => 223 | 57 => 253 | n => n, fun | 22 => 33 | 24 => 26 | 25 => 93 | 3 => 3 | 39 => 132 | 0 => 0 | 53 => 160 | 55 => 168 | 4 => 4 | 46 => 174 | 45 => 173 | 50 => 170 | 5 => 5 | 9 => 9 | 66 => 201 | 70 => 120 | 76 => 226 | 77 => 227 | n => n, fun | n => n⟩
theorem Tryz.sortL : Go.Proofs.SlLaysF.n6 Tryz.prog Tryz.sortL_ren := {
 mixed := by kernel_rfl
 f6 := ⟨Tryz.f71.name, by decide, Tryz.func71.trans (congrArg some (by kernel_rfl))⟩
 f14 := ⟨Tryz.f131.name, by decide, Tryz.func131.trans (congrArg some (by kernel_rfl))⟩
 f15 := Tryz.func132.trans (congrArg some (by kernel_rfl))
 f20 := ⟨Tryz.f177.name, by decide, Tryz.func177.trans (congrArg some (by kernel_rfl))⟩
 f21 := ⟨Tryz.f178.name, by decide, Tryz.func178.trans (congrArg some (by kernel_rfl))⟩
 f22 := ⟨Tryz.f179.name, by decide, Tryz.func179.trans (congrArg some (by kernel_rfl))⟩
 f23 := ⟨Tryz.f180.name, by decide, Tryz.func180.trans (congrArg some (by kernel_rfl))⟩
 f24 := ⟨Tryz.f181.name, by decide, Tryz.func181.trans (congrArg some (by kernel_rfl))⟩
 f25 := ⟨Tryz.f182.name, by decide, Tryz.func182.trans (congrArg some (by kernel_rfl))⟩
 f26 := ⟨Tryz.f183.name, by decide, Tryz.func183.trans (congrArg some (by kernel_rfl))⟩
 f27 := ⟨Tryz.f184.name, by decide, Tryz.func184.trans (congrArg some (by kernel_rfl))⟩
 f28 := Tryz.func185.trans (congrArg some (by kernel_rfl))
 f29 := Tryz.func186.trans (congrArg some (by kernel_rfl))
 f46 := ⟨Tryz.f219.name, by decide, Tryz.func219.trans (congrArg some (by kernel_rfl))⟩
 f47 := Tryz.func220.trans (congrArg some (by kernel_rfl))
 f48 := Tryz.func221.trans (congrArg some (by kernel_rfl))
 f49 := ⟨Tryz.f222.name, by decide, Tryz.func222.trans (congrArg some (by kernel_rfl))⟩
 f50 := ⟨Tryz.f223.name, by decide, Tryz.func223.trans (congrArg some (by kernel_rfl))⟩
 f57 := ⟨Tryz.f253.name, by decide, Tryz.func253.trans (congrArg some (by kernel_rfl))⟩
 t0 := Tryz.underlying0
 a0 := Tryz.isAgg0
 z0 := Tryz.sizeOf0
 v0 := Tryz.zeroValue0
 t3 := Tryz.underlying3
 a3 := Tryz.isAgg3
 z3 := Tryz.sizeOf3
 v3 := Tryz.zeroValue3
 t4 := Tryz.underlying4
 a4 := Tryz.isAgg4
 z4 := Tryz.sizeOf4
 v4 := Tryz.zeroValue4
 t5 := Tryz.underlying5
 a5 := Tryz.isAgg5
 z5 := Tryz.sizeOf5
 v5 := Tryz.zeroValue5
 t9 := Tryz.underlying9
 a9 := Tryz.isAgg9
 z9 := Tryz.sizeOf9
 v9 := Tryz.zeroValue9
 t22 := Tryz.underlying33
 a22 := Tryz.isAgg33
 z22 := Tryz.sizeOf33
 v22 := Tryz.zeroValue33
 a24 := Tryz.isAgg26
 z24 := Tryz.sizeOf26
 t25 := Tryz.underlying93
 a25 := Tryz.isAgg93
 z25 := Tryz.sizeOf93
 v25 := Tryz.zeroValue93
 t39 := Tryz.underlying132
 a39 := Tryz.isAgg132
 z39 := Tryz.sizeOf132
 v39 := Tryz.zeroValue132
 t45 := Tryz.underlying173
 a45 := Tryz.isAgg173
 z45 := Tryz.sizeOf173
 v45 := Tryz.zeroValue173
 t46 := Tryz.underlying174
 a46 := Tryz.isAgg174
 z46 := Tryz.sizeOf174
 v46 := Tryz.zeroValue174
 t50 := Tryz.underlying170
 a50 := Tryz.isAgg170
 z50 := Tryz.sizeOf170
 v50 := Tryz.zeroValue170
 t53 := Tryz.underlying160
 a53 := Tryz.isAgg160
 z53 := Tryz.sizeOf160
 v53 := Tryz.zeroValue160
 t55 := Tryz.underlying168
 a55 := Tryz.isAgg168
 z55 := Tryz.sizeOf168
 v55 := Tryz.zeroValue168
 t66 := Tryz.underlying201
 a66 := Tryz.isAgg201
 z66 := Tryz.sizeOf201
 v66 := Tryz.zeroValue201
 t70 := Tryz.underlying120
 a70 := Tryz.isAgg120
 z70 := Tryz.sizeOf120
 v70 := Tryz.zeroValue120
 t76 := Tryz.underlying226
 a76 := Tryz.isAgg226
 z76 := Tryz.sizeOf226
 v76 := Tryz.zeroValue226
 t77 := Tryz.underlying227
 a77 := Tryz.isAgg227
 z77 := Tryz.sizeOf227
 v77 := Tryz.zeroValue227 }
end Go.Proofs
namespace Go.Proofs.YtondpnipoogoiaaGreatDoor.F
open Go Go.RowKit Go.Proofs
theorem walk187 (x : ByteArray) (w : World) : Calls Tryz.prog 187 #[.string x] w fun e w' => e = .returned (.bool false) ∧ w' = w := by
 go_enter Tryz.func187, Tryz.ntmps187
 go_wp2
 go_ret
 exact ⟨by simp, rfl⟩
set_option maxHeartbeats 1000000 in
theorem walk133 (x y : ByteArray) (w : World) : Calls Tryz.prog 133 #[.string x, .string y] w fun e w' => e = .returned (.int .i64 (cmpB x y)) ∧ w' = w := by
 go_enter Tryz.func133, Tryz.ntmps133
 go_wp2_with (go_at_call 187; refine (walk187 _ _).mono ?_; rintro e w' ⟨rfl, rfl⟩)
 all_goals (go_ret; refine ⟨?_, rfl⟩; unfold cmpB gtB; simp_all)
def RowS (W : World) (A : Option Addr) (xs : List ByteArray) : Prop := ∀ i, i < xs.length → ∃ ad, A = some ad ∧ W.cell? (ad.add i) = some (.string (xs.getD i (dflt .str)))
set_option maxHeartbeats 4000000 in
theorem walk72 (xs ys : List ByteArray) (A B : Option Addr) (c d : Nat) (w : World) (hx : RowS w A xs) (hy : RowS w B ys) (h : xs.length < 1000000000) (h2 : ys.length < 1000000000) : Calls Tryz.prog 72 #[.slice A xs.length c, .slice B ys.length d] w fun e w' => e = .returned (.int .i64 (cmpS xs ys)) ∧ w' = w := by
 go_enter Tryz.func72, Tryz.ntmps72
 go_wp2
 go_loopw [11] (fun vi wr => ∃ i : Nat, vi = .int .i64 i ∧ wr = w ∧ i ≤ xs.length ∧ i ≤ ys.length ∧ cmpS (xs.drop i) (ys.drop i) = cmpS xs ys) (fun vi _ => xs.length - (intOf vi).toNat)
 case atStart => exact ⟨0, rfl, rfl, Nat.zero_le _, Nat.zero_le _, rfl⟩
 case round =>
  obtain ⟨i, rfl, rfl, hi, hi2, hc⟩ := hrel
  by_cases hlt : i < xs.length
  ·obtain ⟨x, hxe⟩ : ∃ x, xs.getD i (dflt .str) = x := ⟨_, rfl⟩
   by_cases hlj : i < ys.length
   ·obtain ⟨y, hye⟩ : ∃ y, ys.getD i (dflt .str) = y := ⟨_, rfl⟩
    have hgo := cmpS_go hlt hlj
    rw [hxe, hye, hc] at hgo
    obtain ⟨ad, rfl, hcx⟩ := hx i hlt
    obtain ⟨bd, rfl, hcy⟩ := hy i hlj
    rw [hxe] at hcx; rw [hye] at hcy
    clear hxe hye hc hx hy
    go_wp2_with (go_at_call 133; refine (walk133 _ _ _).mono ?_; rintro e w' ⟨rfl, rfl⟩)
    ·go_ret
     rename_i hne
     exact ⟨by rw [hgo, if_neg (by simpa using hne)]; rfl, rfl⟩
    ·rename_i he
     rw [if_pos (by simpa using he)] at hgo
     exact ⟨⟨i + 1, rfl, trivial, by omega, by omega, hgo.symm⟩, by simp only [intOf]; omega⟩
   ·have hgo := cmpS_gt hlt hlj
    rw [hc] at hgo
    obtain ⟨ad, rfl, hcx⟩ := hx i hlt
    rw [hxe] at hcx
    clear hxe hc hx hy
    go_wp2
    go_ret
    exact ⟨by rw [hgo]; rfl, rfl⟩
  ·by_cases hlj : i < ys.length
   ·have hgo := cmpS_lt hlt hlj
    rw [hc] at hgo
    clear hc hx hy
    go_wp2
    go_ret
    exact ⟨by rw [hgo]; rfl, rfl⟩
   ·have hgo := cmpS_nil hlt hlj
    rw [hc] at hgo
    clear hc hx hy
    go_wp2
    go_ret
    exact ⟨by rw [hgo]; rfl, rfl⟩
end Go.Proofs.YtondpnipoogoiaaGreatDoor.F
