import Derived.Test.YtondpnipoogoiaaGreatDoorB4
import Derived.Sort.Walk0
import Derived.Sort.LotA
import Derived.Lib.Walk
import Derived.WalkKit
import Derived.Laws.Cover1
import Derived.Shelf.SlSortCmp.NoneTotal
import Derived.Shelf.SlGeneric
import Derived.Ground.SlsfProg
import Derived.Test.YtondpnipoogoiaaGreatDoorProg
set_option maxRecDepth 100000
set_option linter.unusedVariables false
set_option linter.unusedSimpArgs false
namespace Go.Proofs.YtondpnipoogoiaaGreatDoor.F
open Go Go.RowKit Go.Proofs.Tryz
theorem con_lits {P : Program} {I : World → Prop} {f : FuncId} {args : List Value} {r : Value} (h : ∀ w, I w → Calls P f args.toArray w fun e w' => e = .returned r ∧ Below w.heap.size w w') : Con P I f (args.map .lit) (.val (.lit r)) := by
 intro w fz vs hI hfz hR
 have hv : vs = args.toArray := by
  refine Array.ext (by simpa using hR.1) (fun i h1 h2 => ?_)
  have h3 : i < args.length := by simpa using h2
  have := (hR.2 i vs[i] (.lit args[i]) (Array.getElem?_eq_getElem h1) (by rw [List.getElem?_map, List.getElem?_eq_getElem h3]; rfl)).lit_inv
  simpa using this
 subst hv
 exact (h w hI).mono fun e w' hh => ⟨⟨_, hh.1, .lit _⟩, hh.2⟩
theorem conValid (s : ByteArray) {r : Bool} (h : X.validAt s s.size 0 = r) : Con Tryz.prog I0 249 [vs s] (.val (vb r)) :=
 con_lits (args := [.string s]) (fun w hI => X.utf_Valid.calls s r w hI (by rw [← h]; rfl))
def splitF (s : ByteArray) (c : UInt8) : List ByteArray := Lib.splitB (ba [c]) 0 (Lib.countB s (ba [c])) s
def joinF (xs : List ByteArray) (sep : ByteArray) : ByteArray := ⟨(Lib.join (xs.map (·.data.toList)) sep.data.toList).toArray⟩
theorem RL_two {w : World} {fz : Nat → Prop} {η : Nat → Option Value} {vs : Array Value} {a b : AV} (h : RL w fz η vs [a, b]) : ∃ u v, vs = #[u, v] ∧ R w fz η u a ∧ R w fz η v b := by
 obtain ⟨hl, h⟩ := h
 have h0 : 0 < vs.size := by simp at hl; omega
 have h1 : 1 < vs.size := by simp at hl; omega
 refine ⟨vs[0], vs[1], Array.ext (by simpa using hl) (fun i p q => ?_), h 0 _ a (Array.getElem?_eq_getElem h0) rfl, h 1 _ b (Array.getElem?_eq_getElem h1) rfl⟩
 have hi : i < 2 := by simpa using q
 rcases i with _ | _ | i
 ·rfl
 ·rfl
 ·omega
theorem conSplit (s : ByteArray) (c : UInt8) (hs : s.size < 4294967281) : Con Tryz.prog I0 82 [vs s, vs (ba [c])] (.own 9 .str (splitF s c)) := by
 intro w fz vs hI hfz hR
 obtain ⟨u, v, rfl, h1, h2⟩ := RL_two hR
 obtain rfl := h1.lit_inv
 obtain rfl := h2.lit_inv
 obtain ⟨m, hm⟩ := X.Laid.long hI
 have h1 : 1 ≤ (ba [c]).size := Nat.le_refl _
 refine (Tryz.strings_Split s (ba [c]) m w hs hm h1).mono ?_
 rintro e w' ⟨rfl, rfl⟩
 have hlen := Lib.splitB_all (ba [c]) h1 0 (Lib.countB s (ba [c])) s rfl
 have hle : Lib.countB s (ba [c]) ≤ s.size := Lib.countB_le (ba [c]) h1 s.size s (Nat.le_refl _)
 have hmx : Lib.countB s (ba [c]) + 1 ≤ maxLen := by unfold maxLen; omega
 refine ⟨⟨_, rfl, fun k hk => ?_, (splitF s c).map Value.string, ?_, fun i x j y hx hy => ?_⟩, (Below.refl _ _).alloc (Nat.le_refl _) _⟩
 ·simp only [blk, Option.some.injEq] at hk
  subst hk
  exact ⟨Nat.le_refl _, by show _ < (w.heap.push _).size; rw [Array.size_push]; omega⟩
 ·have hl2 : (splitF s c).length = Lib.countB s (ba [c]) + 1 := hlen
  rw [hl2]
  refine ⟨by rw [List.length_map, hl2]; simp [sz], .inr ⟨w.heap.size, _, _, rfl, Nat.zero_le _, heap_alloc_new w _, Nat.le_refl _, hmx, ?_, ?_⟩⟩
  ·rw [List.size_toArray, List.length_map, hlen]; simp [sz]
  ·simp only [sz, Nat.mul_one]
   exact List.take_of_length_le (by rw [List.length_map, hlen]; exact Nat.le_refl _)
 ·rcases j with _ | j
  ·simp only [enc, List.getElem?_cons_zero, Option.some.injEq] at hy
   subst hy
   exact ⟨.string x, by simp [sz, hx], .lit _⟩
  ·simp [enc] at hy
theorem plain_cell {w : World} {ad : Addr} {u : Value} (h : w.cell? ad = some u) : ∃ b o, ad = ⟨b, o, none⟩ := by
 obtain ⟨b, o, s⟩ := ad
 cases s with
 | none => exact ⟨b, o, rfl⟩
 | some s => simp [World.cell?] at h; split at h <;> simp at h
theorem conJoin (xs : List ByteArray) (sep : ByteArray) (hlen : (joinF xs sep).size ≤ 140737488355328) (hl : xs.length ≤ 140737488355328) : Con Tryz.prog I0 92 [.row .str xs, vs sep] (.val (vs (joinF xs sep))) := by
 intro w fz vs hI hfz hR
 obtain ⟨u, v, rfl, h1, h2⟩ := RL_two hR
 obtain ⟨A, c, rfl, hc, hm, hel⟩ := h1.row_inv
 obtain rfl := h2.lit_inv
 have fin : ∀ e w', (e = .returned (.string (joinF xs sep)) ∧ Below w.heap.size w w') → Post w fz w' e (.val (vs (joinF xs sep))) ∧ Below w.heap.size w w' := fun e w' h => ⟨⟨_, h.1, .lit _⟩, h.2⟩
 cases xs with
 | nil =>
  refine (Tryz.strings_Join_none A c sep w).mono ?_
  rintro e w' ⟨rfl, rfl⟩
  exact fin _ _ ⟨by rfl, Below.refl _ _⟩
 | cons y ys =>
  obtain ⟨ad, rfl, _, hlt, hcell⟩ := hel 0 y rfl
  obtain ⟨u, hu, _⟩ := hcell 0 (vs y) rfl
  have e0 : ad.add (0 * sz .str + 0) = ad := by simp [Addr.add]
  rw [e0] at hu
  obtain ⟨b, o, rfl⟩ := plain_cell hu
  refine (Tryz.strings_Join b o c (y :: ys) sep w (fun j x hx => ?_) hlt hl hc (by simpa [joinF, ByteArray.size] using hlen)).mono fin
  obtain ⟨ad, hA, _, _, hcell⟩ := hel j x hx
  injection hA with hA
  subst hA
  obtain ⟨u, hu, hr⟩ := hcell 0 (vs x) rfl
  obtain rfl := hr.lit_inv
  have e1 : (⟨b, o, none⟩ : Addr).add (j * sz .str + 0) = ⟨b, o + j, none⟩ := by
   simp only [sz, Nat.mul_one, Nat.add_zero]
   unfold Addr.add
   split
   ·rename_i hz; subst hz; rfl
   ·rfl
  rw [e1] at hu
  exact hu
def nameOk (s : ByteArray) (i : Nat) : Bool :=
 ((decide (bitsOr .u8 (byteAt s (i : Int)) 32 ≥ 97) && decide (bitsOr .u8 (byteAt s (i : Int)) 32 ≤ 122)) || byteAt s (i : Int) == 95) || (!((i : Int) == 0) && (!decide (byteAt s (i : Int) < 48) && !decide (byteAt s (i : Int) > 57)))
def nameF (s : ByteArray) : Bool := (List.range s.size).all (nameOk s) && (decide (s.size ≠ 0) && decide ((s.size : Int) ≤ 2000))
theorem all_no {n : Nat} {q : Nat → Bool} {i : Nat} (h : i < n) (hn : q i = false) : (List.range n).all q = false := List.all_eq_false.2 ⟨i, by simpa using h, by simp [hn]⟩
theorem nameF_no {s : ByteArray} {i : Nat} (h : i < s.size) (hn : nameOk s i = false) : nameF s = false := by
 have : (List.range s.size).all (nameOk s) = false := List.all_eq_false.2 ⟨i, by simpa using h, by simp [hn]⟩
 simp [nameF, this]
theorem nameF_yes {s : ByteArray} (h : ∀ j, j < s.size → nameOk s j = true) : nameF s = (decide (s.size ≠ 0) && decide ((s.size : Int) ≤ 2000)) := by
 have : (List.range s.size).all (nameOk s) = true := List.all_eq_true.2 (fun j hj => h j (by simpa using hj))
 simp [nameF, this]
theorem ba_nil_ne (s : ByteArray) : (!(s.toList == (ba []).toList)) = decide (s.size ≠ 0) := by
 have h1 : (ba []).toList = [] := by rw [Lib.toList_data]
 have h2 : s.toList = s.data.toList := Lib.toList_data s
 have h3 := Lib.size_eq s
 rw [h1, h2, h3]
 cases s.data.toList with
 | nil => rfl
 | cons x l => rfl
theorem con37 (s : ByteArray) (hs0 : s.size < 4294967281) : Con Tryz.prog I0 37 [vs s] (.val (vb (nameF s))) := by
 refine con_of Tryz.func37 rfl (Nat.le_of_ble_eq_true rfl) stab (fun w0 fz a hI hs => ?_)
 refine wp_seq ?_
 refine wN hs hI [] 25 [] .norm [(0, vs s)] [] tv fun a w hs => ?_
 refine then_norm ?_
 refine wp_seq ?_
 refine wp_seq ?_
 refine wN hs hI [] 19375 [] .norm [(0, vs s), (7, vi (s.size : Int)), (8, vi 0)] [] tv fun a w hs => ?_
 refine then_norm ?_
 refine wp_block ?_
 refine loop_L (N := Tryz.f37.ntmps) (w0 := w0) (ow := noO fz) (α := Nat) (fun p => [(0, vs s), (7, vi (s.size : Int)), (8, vi (p : Int))]) (fun p => []) (fun p => p ≤ s.size ∧ ∀ j, j < p → nameOk s j = true) (fun p => s.size - p) 0 ?_ ?_ ?_
 ·exact ⟨Nat.zero_le _, fun j hj => absurd hj (Nat.not_lt_zero _)⟩
 ·(have e0_ : (0) = (((0 : Nat) : Int)) := (by first | rfl | (rfl)); exact (hs.cst [(0, vs s), (7, vi (s.size : Int)), (8, vi ((0 : Nat) : Int))] [] (by first | (rw [e0_]; done) | (simp only [e0_]; done) | rfl | (simp only [e0_]; rfl))).rm [] (by kernel_rfl))
 rintro i hJ a w hs
 obtain ⟨hi, hall⟩ := hJ
 rcases bt (decide ((i : Int) < (s.size : Int))) with b1 | b1
 ·skip
  have n1 := of_decide_eq_true b1
  rcases bt (decide ((bitsOr .u8 (byteAt s (i : Int)) 32) ≥ 97)) with b2 | b2
  ·skip
   have n2 := of_decide_eq_true b2
   rcases bt (decide ((bitsOr .u8 (byteAt s (i : Int)) 32) ≤ 122)) with b3 | b3
   ·skip
    have n3 := of_decide_eq_true b3
    refine wL hs hI [(5, ⟨[], gg [3, 4, 1005, 1011] [7, 8, 9, 10], []⟩), (6, ⟨[], gg [] [3, 4, 5, 10, 11, 16, 1017], []⟩)] [true, false] 6161145661507867714605277241566530513350308240122101657689213564464847150 [ty b1, 0 ≤ (i : Int) ∧ (i : Int) < s.size, ty b2, ty b2, ty b2, ty b3, ty b3, ty b3, ty b3, ty b3, false = false, false = false, false = false, false = false, false = false, false = false, false = false, false = false, InR .i64 ((i : Int) + 1)] .norm [(0, vs s), (7, vi (s.size : Int)), (8, vi ((i : Int) + 1))] [] ⟨tv, tv, tv⟩ ⟨b1, (by omega), b2, b2, b2, b3, b3, b3, b3, b3, rfl, rfl, rfl, rfl, rfl, rfl, rfl, rfl, (inR64 (by omega) (by omega)), tv⟩ fun a w hs => ?_
    refine then_norm ⟨i + 1, ⟨by omega, fun j hj => by rcases Nat.lt_succ_iff_lt_or_eq.1 hj with h | rfl; exact hall j h; simp only [nameOk, b1, b2, b3]; rfl⟩, by omega, ?_⟩
    (have e0_ : ((i : Int) + 1) = ((((i + 1) : Nat) : Int)) := (by first | rfl | (omega)); exact (hs.cst [(0, vs s), (7, vi (s.size : Int)), (8, vi (((i + 1) : Nat) : Int))] [] (by first | (rw [e0_]; done) | (simp only [e0_]; done) | rfl | (simp only [e0_]; rfl))).rm [] (by kernel_rfl))
   ·skip
    have n3 := of_decide_eq_false b3
    rcases bt ((byteAt s (i : Int)) == 95) with b4 | b4
    ·skip
     have n4 := eq_of_beq b4
     refine wL hs hI [(5, ⟨[], gg [3, 4, 1005, 7, 8, 9, 10] [1011], []⟩), (6, ⟨[], gg [] [3, 4, 5, 10, 11, 16, 1017], []⟩)] [true, false] 2406697524026510826017686422486925981777464156330328659047760666012575695315900 [ty b1, 0 ≤ (i : Int) ∧ (i : Int) < s.size, ty b2, ty b2, ty b2, ty b3, ty b3, ty b3, 0 ≤ (i : Int) ∧ (i : Int) < s.size, ty b3, ty b3, ty (ng1 b4), ty (ng1 b4), ty (ng1 b4), ty (ng1 b4), ty (ng1 b4), ty (ng1 b4), ty (ng1 b4), false = false, InR .i64 ((i : Int) + 1)] .norm [(0, vs s), (7, vi (s.size : Int)), (8, vi ((i : Int) + 1))] [] ⟨tv, tv, tv⟩ ⟨b1, (by omega), b2, b2, b2, b3, b3, b3, (by omega), b3, b3, (ng1 b4), (ng1 b4), (ng1 b4), (ng1 b4), (ng1 b4), (ng1 b4), (ng1 b4), rfl, (inR64 (by omega) (by omega)), tv⟩ fun a w hs => ?_
     refine then_norm ⟨i + 1, ⟨by omega, fun j hj => by rcases Nat.lt_succ_iff_lt_or_eq.1 hj with h | rfl; exact hall j h; simp only [nameOk, b1, b2, b3, b4]; rfl⟩, by omega, ?_⟩
     (have e0_ : ((i : Int) + 1) = ((((i + 1) : Nat) : Int)) := (by first | rfl | (omega)); exact (hs.cst [(0, vs s), (7, vi (s.size : Int)), (8, vi (((i + 1) : Nat) : Int))] [] (by first | (rw [e0_]; done) | (simp only [e0_]; done) | rfl | (simp only [e0_]; rfl))).rm [] (by kernel_rfl))
    ·skip
     have n4 := beq_eq_false_iff_ne.1 b4
     rcases bt ((i : Int) == 0) with b5 | b5
     ·skip
      have n5 := eq_of_beq b5
      refine wL hs hI [(5, ⟨[], gg [3, 4, 1005, 7, 8, 9, 10] [1011], []⟩), (6, ⟨[], gg [3, 4, 5, 10, 1010, 11, 16, 1016, 1017] [6, 7, 8, 9, 12, 13, 14, 15], []⟩)] [true, true] 23509836634118404989284814606190155975049363998655160834463639427364469170382091800275 [ty b1, 0 ≤ (i : Int) ∧ (i : Int) < s.size, ty b2, ty b2, ty b2, ty b3, ty b3, ty b3, 0 ≤ (i : Int) ∧ (i : Int) < s.size, ty b3, ty b3, ty (ng0 b4), ty (ng0 b4), ty (ng0 b4), ty b5, ty b5, ty b5, ty b5, ty (ng0 b4), ty b5, ty (ng0 b4), true = true, true = true, true = true, true = true, ty (ng0 b4), true = true, ty (ng0 b4), true = true] .ret [(2, vb false)] [] ⟨tv, tv, tv⟩ ⟨b1, (by omega), b2, b2, b2, b3, b3, b3, (by omega), b3, b3, (ng0 b4), (ng0 b4), (ng0 b4), b5, b5, b5, b5, (ng0 b4), b5, (ng0 b4), rfl, rfl, rfl, rfl, (ng0 b4), rfl, (ng0 b4), rfl, tv⟩ fun a w hs => ?_
      refine then_ret ?_
      refine inb_ret ?_
      refine then_ret ?_
      exact rK (.val (vb false)) [] hs (by rw [nameF_no (s := s) (i := i) (by omega) (by simp only [nameOk, b1, b2, b3, b4, b5]; rfl)])
     ·skip
      have n5 := beq_eq_false_iff_ne.1 b5
      rcases bt (decide ((byteAt s (i : Int)) < 48)) with b6 | b6
      ·skip
       have n6 := of_decide_eq_true b6
       refine wL hs hI [(5, ⟨[], gg [3, 4, 1005, 7, 8, 9, 10] [1011], []⟩), (6, ⟨[], gg [3, 4, 5, 6, 7, 8, 9, 10, 11, 16, 1016, 1017] [1010, 12, 13, 14, 15], []⟩)] [true, true] 9183529935202501948939380781153023704684033589621056439811219665169725582600235750744144025 [ty b1, 0 ≤ (i : Int) ∧ (i : Int) < s.size, ty b2, ty b2, ty b2, ty b3, ty b3, ty b3, 0 ≤ (i : Int) ∧ (i : Int) < s.size, ty b3, ty b3, ty (ng0 b4), ty (ng0 b4), ty (ng0 b4), ty b5, ty b5, ty b5, 0 ≤ (i : Int) ∧ (i : Int) < s.size, ty b5, ty (ng0 b4), ty b5, ty (ng0 b4), ty b6, ty b6, ty b6, ty b6, ty (ng0 b4), ty b6, ty (ng0 b4), true = true] .ret [(2, vb false)] [] ⟨tv, tv, tv⟩ ⟨b1, (by omega), b2, b2, b2, b3, b3, b3, (by omega), b3, b3, (ng0 b4), (ng0 b4), (ng0 b4), b5, b5, b5, (by omega), b5, (ng0 b4), b5, (ng0 b4), b6, b6, b6, b6, (ng0 b4), b6, (ng0 b4), rfl, tv⟩ fun a w hs => ?_
       refine then_ret ?_
       refine inb_ret ?_
       refine then_ret ?_
       exact rK (.val (vb false)) [] hs (by rw [nameF_no (s := s) (i := i) (by omega) (by simp only [nameOk, b1, b2, b3, b4, b5, b6]; rfl)])
      ·skip
       have n6 := of_decide_eq_false b6
       rcases bt (decide ((byteAt s (i : Int)) > 57)) with b7 | b7
       ·skip
        have n7 := of_decide_eq_true b7
        refine wL hs hI [(5, ⟨[], gg [3, 4, 1005, 7, 8, 9, 10] [1011], []⟩), (6, ⟨[], gg [3, 4, 5, 6, 7, 8, 9, 10, 11, 12, 13, 14, 15, 16, 1017] [1010, 1016], []⟩)] [true, true] 3587316380938477323804445617685155808287913737004567951574887652021974826008469462990572521487775 [ty b1, 0 ≤ (i : Int) ∧ (i : Int) < s.size, ty b2, ty b2, ty b2, ty b3, ty b3, ty b3, 0 ≤ (i : Int) ∧ (i : Int) < s.size, ty b3, ty b3, ty (ng0 b4), ty (ng0 b4), ty (ng0 b4), ty b5, ty b5, ty b5, 0 ≤ (i : Int) ∧ (i : Int) < s.size, ty b5, ty (ng0 b4), ty b5, ty (ng0 b4), ty b6, ty b6, ty b6, 0 ≤ (i : Int) ∧ (i : Int) < s.size, ty b6, ty (ng0 b4), ty b6, ty (ng0 b4), ty b7] .ret [(2, vb false)] [] ⟨tv, tv, tv⟩ ⟨b1, (by omega), b2, b2, b2, b3, b3, b3, (by omega), b3, b3, (ng0 b4), (ng0 b4), (ng0 b4), b5, b5, b5, (by omega), b5, (ng0 b4), b5, (ng0 b4), b6, b6, b6, (by omega), b6, (ng0 b4), b6, (ng0 b4), b7, tv⟩ fun a w hs => ?_
        refine then_ret ?_
        refine inb_ret ?_
        refine then_ret ?_
        exact rK (.val (vb false)) [] hs (by rw [nameF_no (s := s) (i := i) (by omega) (by simp only [nameOk, b1, b2, b3, b4, b5, b6, b7]; rfl)])
       ·skip
        have n7 := of_decide_eq_false b7
        refine wL hs hI [(5, ⟨[], gg [3, 4, 1005, 7, 8, 9, 10] [1011], []⟩), (6, ⟨[], gg [3, 4, 5, 6, 7, 8, 9, 10, 11, 12, 13, 14, 15, 16, 1017] [1010, 1016], []⟩)] [true, false] 89656469375882701054874776324633653355106034125703198378988870165251459364905410111546328136722150 [ty b1, 0 ≤ (i : Int) ∧ (i : Int) < s.size, ty b2, ty b2, ty b2, ty b3, ty b3, ty b3, 0 ≤ (i : Int) ∧ (i : Int) < s.size, ty b3, ty b3, ty (ng0 b4), ty (ng0 b4), ty (ng0 b4), ty b5, ty b5, ty b5, 0 ≤ (i : Int) ∧ (i : Int) < s.size, ty b5, ty (ng0 b4), ty b5, ty (ng0 b4), ty b6, ty b6, ty b6, 0 ≤ (i : Int) ∧ (i : Int) < s.size, ty b6, ty (ng0 b4), ty b6, ty (ng0 b4), ty b7, InR .i64 ((i : Int) + 1)] .norm [(0, vs s), (7, vi (s.size : Int)), (8, vi ((i : Int) + 1))] [] ⟨tv, tv, tv⟩ ⟨b1, (by omega), b2, b2, b2, b3, b3, b3, (by omega), b3, b3, (ng0 b4), (ng0 b4), (ng0 b4), b5, b5, b5, (by omega), b5, (ng0 b4), b5, (ng0 b4), b6, b6, b6, (by omega), b6, (ng0 b4), b6, (ng0 b4), b7, (inR64 (by omega) (by omega)), tv⟩ fun a w hs => ?_
        refine then_norm ⟨i + 1, ⟨by omega, fun j hj => by rcases Nat.lt_succ_iff_lt_or_eq.1 hj with h | rfl; exact hall j h; simp only [nameOk, b1, b2, b3, b4, b5, b6, b7]; rfl⟩, by omega, ?_⟩
        (have e0_ : ((i : Int) + 1) = ((((i + 1) : Nat) : Int)) := (by first | rfl | (omega)); exact (hs.cst [(0, vs s), (7, vi (s.size : Int)), (8, vi (((i + 1) : Nat) : Int))] [] (by first | (rw [e0_]; done) | (simp only [e0_]; done) | rfl | (simp only [e0_]; rfl))).rm [] (by kernel_rfl))
  ·skip
   have n2 := of_decide_eq_false b2
   rcases bt ((byteAt s (i : Int)) == 95) with b8 | b8
   ·skip
    have n8 := eq_of_beq b8
    refine wL hs hI [(5, ⟨[], gg [7, 8, 9, 10] [3, 4, 1005, 1011], []⟩), (6, ⟨[], gg [] [3, 4, 5, 10, 11, 16, 1017], []⟩)] [true, false] 3850716038442417321628298275979081570843942650126489703934491276552746097150 [ty b1, 0 ≤ (i : Int) ∧ (i : Int) < s.size, ty b2, ty b2, ty b2, false = false, false = false, false = false, 0 ≤ (i : Int) ∧ (i : Int) < s.size, false = false, false = false, ty (ng1 b8), ty (ng1 b8), ty (ng1 b8), ty (ng1 b8), ty (ng1 b8), ty (ng1 b8), ty (ng1 b8), false = false, InR .i64 ((i : Int) + 1)] .norm [(0, vs s), (7, vi (s.size : Int)), (8, vi ((i : Int) + 1))] [] ⟨tv, tv, tv⟩ ⟨b1, (by omega), b2, b2, b2, rfl, rfl, rfl, (by omega), rfl, rfl, (ng1 b8), (ng1 b8), (ng1 b8), (ng1 b8), (ng1 b8), (ng1 b8), (ng1 b8), rfl, (inR64 (by omega) (by omega)), tv⟩ fun a w hs => ?_
    refine then_norm ⟨i + 1, ⟨by omega, fun j hj => by rcases Nat.lt_succ_iff_lt_or_eq.1 hj with h | rfl; exact hall j h; simp only [nameOk, b1, b2, b8]; rfl⟩, by omega, ?_⟩
    (have e0_ : ((i : Int) + 1) = ((((i + 1) : Nat) : Int)) := (by first | rfl | (omega)); exact (hs.cst [(0, vs s), (7, vi (s.size : Int)), (8, vi (((i + 1) : Nat) : Int))] [] (by first | (rw [e0_]; done) | (simp only [e0_]; done) | rfl | (simp only [e0_]; rfl))).rm [] (by kernel_rfl))
   ·skip
    have n8 := beq_eq_false_iff_ne.1 b8
    rcases bt ((i : Int) == 0) with b9 | b9
    ·skip
     have n9 := eq_of_beq b9
     refine wL hs hI [(5, ⟨[], gg [7, 8, 9, 10] [3, 4, 1005, 1011], []⟩), (6, ⟨[], gg [3, 4, 5, 10, 1010, 11, 16, 1016, 1017] [6, 7, 8, 9, 12, 13, 14, 15], []⟩)] [true, true] 37615738614589447982855703369904249560078982397848257333105672541857361605236331525 [ty b1, 0 ≤ (i : Int) ∧ (i : Int) < s.size, ty b2, ty b2, ty b2, false = false, false = false, false = false, 0 ≤ (i : Int) ∧ (i : Int) < s.size, false = false, false = false, ty (ng0 b8), ty (ng0 b8), ty (ng0 b8), ty b9, ty b9, ty b9, ty b9, ty (ng0 b8), ty b9, ty (ng0 b8), true = true, true = true, true = true, true = true, ty (ng0 b8), true = true, ty (ng0 b8), true = true] .ret [(2, vb false)] [] ⟨tv, tv, tv⟩ ⟨b1, (by omega), b2, b2, b2, rfl, rfl, rfl, (by omega), rfl, rfl, (ng0 b8), (ng0 b8), (ng0 b8), b9, b9, b9, b9, (ng0 b8), b9, (ng0 b8), rfl, rfl, rfl, rfl, (ng0 b8), rfl, (ng0 b8), rfl, tv⟩ fun a w hs => ?_
     refine then_ret ?_
     refine inb_ret ?_
     refine then_ret ?_
     exact rK (.val (vb false)) [] hs (by rw [nameF_no (s := s) (i := i) (by omega) (by simp only [nameOk, b1, b2, b8, b9]; rfl)])
    ·skip
     have n9 := beq_eq_false_iff_ne.1 b9
     rcases bt (decide ((byteAt s (i : Int)) < 48)) with b10 | b10
     ·skip
      have n10 := of_decide_eq_true b10
      refine wL hs hI [(5, ⟨[], gg [7, 8, 9, 10] [3, 4, 1005, 1011], []⟩), (6, ⟨[], gg [3, 4, 5, 6, 7, 8, 9, 10, 11, 16, 1016, 1017] [1010, 12, 13, 14, 15], []⟩)] [true, true] 14693647896324003118303009249844837927494453743393690303697949428121019006371309826175275 [ty b1, 0 ≤ (i : Int) ∧ (i : Int) < s.size, ty b2, ty b2, ty b2, false = false, false = false, false = false, 0 ≤ (i : Int) ∧ (i : Int) < s.size, false = false, false = false, ty (ng0 b8), ty (ng0 b8), ty (ng0 b8), ty b9, ty b9, ty b9, 0 ≤ (i : Int) ∧ (i : Int) < s.size, ty b9, ty (ng0 b8), ty b9, ty (ng0 b8), ty b10, ty b10, ty b10, ty b10, ty (ng0 b8), ty b10, ty (ng0 b8), true = true] .ret [(2, vb false)] [] ⟨tv, tv, tv⟩ ⟨b1, (by omega), b2, b2, b2, rfl, rfl, rfl, (by omega), rfl, rfl, (ng0 b8), (ng0 b8), (ng0 b8), b9, b9, b9, (by omega), b9, (ng0 b8), b9, (ng0 b8), b10, b10, b10, b10, (ng0 b8), b10, (ng0 b8), rfl, tv⟩ fun a w hs => ?_
      refine then_ret ?_
      refine inb_ret ?_
      refine then_ret ?_
      exact rK (.val (vb false)) [] hs (by rw [nameF_no (s := s) (i := i) (by omega) (by simp only [nameOk, b1, b2, b8, b9, b10]; rfl)])
     ·skip
      have n10 := of_decide_eq_false b10
      rcases bt (decide ((byteAt s (i : Int)) > 57)) with b11 | b11
      ·skip
       have n11 := of_decide_eq_true b11
       refine wL hs hI [(5, ⟨[], gg [7, 8, 9, 10] [3, 4, 1005, 1011], []⟩), (6, ⟨[], gg [3, 4, 5, 6, 7, 8, 9, 10, 11, 12, 13, 14, 15, 16, 1017] [1010, 1016], []⟩)] [true, true] 5739706209501563718087112988296249293260661979207308722519820243233123571071625351717541019025 [ty b1, 0 ≤ (i : Int) ∧ (i : Int) < s.size, ty b2, ty b2, ty b2, false = false, false = false, false = false, 0 ≤ (i : Int) ∧ (i : Int) < s.size, false = false, false = false, ty (ng0 b8), ty (ng0 b8), ty (ng0 b8), ty b9, ty b9, ty b9, 0 ≤ (i : Int) ∧ (i : Int) < s.size, ty b9, ty (ng0 b8), ty b9, ty (ng0 b8), ty b10, ty b10, ty b10, 0 ≤ (i : Int) ∧ (i : Int) < s.size, ty b10, ty (ng0 b8), ty b10, ty (ng0 b8), ty b11] .ret [(2, vb false)] [] ⟨tv, tv, tv⟩ ⟨b1, (by omega), b2, b2, b2, rfl, rfl, rfl, (by omega), rfl, rfl, (ng0 b8), (ng0 b8), (ng0 b8), b9, b9, b9, (by omega), b9, (ng0 b8), b9, (ng0 b8), b10, b10, b10, (by omega), b10, (ng0 b8), b10, (ng0 b8), b11, tv⟩ fun a w hs => ?_
       refine then_ret ?_
       refine inb_ret ?_
       refine then_ret ?_
       exact rK (.val (vb false)) [] hs (by rw [nameF_no (s := s) (i := i) (by omega) (by simp only [nameOk, b1, b2, b8, b9, b10, b11]; rfl)])
      ·skip
       have n11 := of_decide_eq_false b11
       refine wL hs hI [(5, ⟨[], gg [7, 8, 9, 10] [3, 4, 1005, 1011], []⟩), (6, ⟨[], gg [3, 4, 5, 6, 7, 8, 9, 10, 11, 12, 13, 14, 15, 16, 1017] [1010, 1016], []⟩)] [true, false] 143450351001412321687799642119413845368169654601125117406382192264400298833306730389406750003400 [ty b1, 0 ≤ (i : Int) ∧ (i : Int) < s.size, ty b2, ty b2, ty b2, false = false, false = false, false = false, 0 ≤ (i : Int) ∧ (i : Int) < s.size, false = false, false = false, ty (ng0 b8), ty (ng0 b8), ty (ng0 b8), ty b9, ty b9, ty b9, 0 ≤ (i : Int) ∧ (i : Int) < s.size, ty b9, ty (ng0 b8), ty b9, ty (ng0 b8), ty b10, ty b10, ty b10, 0 ≤ (i : Int) ∧ (i : Int) < s.size, ty b10, ty (ng0 b8), ty b10, ty (ng0 b8), ty b11, InR .i64 ((i : Int) + 1)] .norm [(0, vs s), (7, vi (s.size : Int)), (8, vi ((i : Int) + 1))] [] ⟨tv, tv, tv⟩ ⟨b1, (by omega), b2, b2, b2, rfl, rfl, rfl, (by omega), rfl, rfl, (ng0 b8), (ng0 b8), (ng0 b8), b9, b9, b9, (by omega), b9, (ng0 b8), b9, (ng0 b8), b10, b10, b10, (by omega), b10, (ng0 b8), b10, (ng0 b8), b11, (inR64 (by omega) (by omega)), tv⟩ fun a w hs => ?_
       refine then_norm ⟨i + 1, ⟨by omega, fun j hj => by rcases Nat.lt_succ_iff_lt_or_eq.1 hj with h | rfl; exact hall j h; simp only [nameOk, b1, b2, b8, b9, b10, b11]; rfl⟩, by omega, ?_⟩
       (have e0_ : ((i : Int) + 1) = ((((i + 1) : Nat) : Int)) := (by first | rfl | (omega)); exact (hs.cst [(0, vs s), (7, vi (s.size : Int)), (8, vi (((i + 1) : Nat) : Int))] [] (by first | (rw [e0_]; done) | (simp only [e0_]; done) | rfl | (simp only [e0_]; rfl))).rm [] (by kernel_rfl))
 ·skip
  have n1 := of_decide_eq_false b1
  refine wN hs hI [false] 19025 [ty b1] (.exit 0) [(0, vs s)] [] ⟨b1, tv⟩ fun a w hs => ?_
  refine then_exit ?_
  refine inb_hit ?_
  refine then_norm ?_
  rcases bt (s.toList == (ba []).toList) with b12 | b12
  ·skip
   have n12 := eq_of_beq b12
   refine wL hs hI [(9, ⟨[], gg [] [3, 4, 5, 1006], []⟩)] [] 4005431679625 [ty (ng1 b12), ty (ng1 b12), ty (ng1 b12), ty (ng1 b12)] .ret [(2, vb false)] [] ⟨tv, tv⟩ ⟨(ng1 b12), (ng1 b12), (ng1 b12), (ng1 b12), tv⟩ fun a w hs => ?_
   exact rK (.val (vb false)) [] hs (by rw [nameF_yes (s := s) (fun j hj => hall j (by omega)), ← ba_nil_ne]; simp only [b1, b12]; try rfl)
  ·skip
   have n12 := beq_eq_false_iff_ne.1 b12
   refine wL hs hI [(9, ⟨[], gg [3, 4, 5, 1006] [], []⟩)] [] 62584876957194000 [ty (ng0 b12), ty (ng0 b12), ty (ng0 b12), ty (ng0 b12)] .ret [(2, vb (decide ((s.size : Int) ≤ 2000)))] [] ⟨tv, tv⟩ ⟨(ng0 b12), (ng0 b12), (ng0 b12), (ng0 b12), tv⟩ fun a w hs => ?_
   exact rK (.val (vb (decide ((s.size : Int) ≤ 2000)))) [] hs (by rw [nameF_yes (s := s) (fun j hj => hall j (by omega)), ← ba_nil_ne]; simp only [b1, b12]; try rfl)
def idxF {α : Type} (q : α → Bool) : List α → Int
 | [] => -1
 | x :: l => if q x = true then 0 else if idxF q l < 0 then -1 else idxF q l + 1
theorem idxF_no {α : Type} {q : α → Bool} : ∀ {l : List α}, (∀ j, j < l.length → ∀ d, q (l.getD j d) = false) → idxF q l = -1
 | [], _ => rfl
 | x :: l, h => by
  have h0 : q x = false := h 0 (by simp) x
  have h1 := idxF_no (l := l) (fun j hj d => h (j + 1) (by simpa using hj) d)
  simp [idxF, h0, h1]
theorem idxF_at {α : Type} {q : α → Bool} : ∀ {l : List α} {i : Nat} (d : α), i < l.length → q (l.getD i d) = true → (∀ j, j < i → ∀ d, q (l.getD j d) = false) → idxF q l = (i : Int)
 | [], _, _, h, _, _ => by simp at h
 | x :: l, 0, d, h, hq, _ => by
  have hq' : q x = true := hq
  simp [idxF, hq']
 | x :: l, i + 1, d, h, hq, hn => by
  have h0 : q x = false := hn 0 (by omega) x
  have h1 := idxF_at (l := l) (i := i) d (by simpa using h) hq (fun j hj d => hn (j + 1) (by omega) d)
  simp only [idxF, h0, h1]
  rw [if_neg (by decide), if_neg (by omega)]
  omega
theorem idxF_any {α : Type} (q : α → Bool) : ∀ l : List α, decide (idxF q l ≥ 0) = l.any q
 | [] => rfl
 | x :: l => by
  have h1 := idxF_any q l
  by_cases hq : q x = true
  ·have e : idxF q (x :: l) = 0 := by simp [idxF, hq]
   rw [decide_eq_true (by omega), List.any_cons, hq]; rfl
  ·have hq' : q x = false := by simpa using hq
   by_cases hn : idxF q l < 0
   ·have e : idxF q (x :: l) = -1 := by simp [idxF, hq', hn]
    rw [List.any_cons, ← h1, hq', decide_eq_false (by omega), decide_eq_false (by omega)]; rfl
   ·have e : idxF q (x :: l) = idxF q l + 1 := by simp [idxF, hq', hn]
    rw [List.any_cons, ← h1, hq', decide_eq_true (by omega), decide_eq_true (by omega)]; rfl
theorem getD_mem {α : Type} {l : List α} {i : Nat} (h : i < l.length) (d : α) : l.getD i d ∈ l := by
 rw [List.getD_eq_getElem?_getD, List.getElem?_eq_getElem h]; exact List.getElem_mem h
theorem getD_any {α : Type} {l : List α} {i : Nat} (h : i < l.length) (d d' : α) : l.getD i d = l.getD i d' := by
 rw [List.getD_eq_getElem?_getD, List.getD_eq_getElem?_getD, List.getElem?_eq_getElem h]; rfl
def small (s : ByteArray) : Prop := s.size < 4294967281
def badPath (p : List ByteArray) : Bool := ((p.length : Int) == 0) || (decide ((p.length : Int) > 63) || p.any fun n => !nameF n)
def checkF (l : List (List ByteArray)) : Bool := decide ((l.length : Int) ≤ 60) && !(l.any badPath)
theorem con84 (s : ByteArray) (hs0 : s.size < 4294967281) : Con Tryz.prog I0 84 [vs s] (.val (vb (!nameF s))) := by
 refine con_of Tryz.func84 rfl (Nat.le_of_ble_eq_true rfl) stab (fun w0 fz a hI hs => ?_)
 refine wL hs hI [(1, ⟨[(1, ciV 37 [vs s] (vb (nameF s)))], [], []⟩)] [] 7385158150 [] .ret [(2, vb (!(nameF s)))] [] ⟨⟨⟨ent37, con37 _ (by assumption)⟩, tv⟩, tv⟩ tv fun a w hs => ?_
 exact rK (.val (vb (!(nameF s)))) [] hs rfl
theorem con91 (s : ByteArray) (hs0 : s.size < 4294967281) : Con Tryz.prog I0 91 [vs s] (.val (vb (!nameF s))) := by
 refine con_of Tryz.func91 rfl (Nat.le_of_ble_eq_true rfl) stab (fun w0 fz a hI hs => ?_)
 refine wL hs hI [(1, ⟨[(1, ciV 37 [vs s] (vb (nameF s)))], [], []⟩)] [] 7385158150 [] .ret [(2, vb (!(nameF s)))] [] ⟨⟨⟨ent37, con37 _ (by assumption)⟩, tv⟩, tv⟩ tv fun a w hs => ?_
 exact rK (.val (vb (!(nameF s)))) [] hs rfl
theorem con140_84 (xs : List ByteArray) (hxs : ∀ x ∈ xs, small x) (hlen : xs.length < 4294967281) : Con Tryz.prog I0 140 [.row .str xs, .lit (.func (.func 84) #[] #[])] (.val (vi (idxF (fun n => !nameF n) xs))) := by
 refine con_of Tryz.func140 rfl (Nat.le_of_ble_eq_true rfl) stab (fun w0 fz a hI hs => ?_)
 refine wp_seq ?_
 refine wN hs hI [] 25 [] .norm [(0, rwS xs), (1, .lit (.func (.func 84) #[] #[]))] [] tv fun a w hs => ?_
 refine then_norm ?_
 refine wp_seq ?_
 refine wp_seq ?_
 refine wN hs hI [] 19375 [] .norm [(0, rwS xs), (1, .lit (.func (.func 84) #[] #[])), (7, vi (xs.length : Int)), (8, vi 0)] [] tv fun a w hs => ?_
 refine then_norm ?_
 refine wp_block ?_
 refine loop_L (N := Tryz.f140.ntmps) (w0 := w0) (ow := noO fz) (α := Nat) (fun p => [(0, rwS xs), (1, .lit (.func (.func 84) #[] #[])), (7, vi (xs.length : Int)), (8, vi (p : Int))]) (fun p => []) (fun p => p ≤ xs.length ∧ ∀ j, j < p → ∀ d, (fun n => !nameF n) (xs.getD j d) = false) (fun p => xs.length - p) 0 ?_ ?_ ?_
 ·exact ⟨Nat.zero_le _, fun j hj => absurd hj (Nat.not_lt_zero _)⟩
 ·(have e0_ : (0) = (((0 : Nat) : Int)) := (by first | rfl | (rfl)); exact (hs.cst [(0, rwS xs), (1, .lit (.func (.func 84) #[] #[])), (7, vi (xs.length : Int)), (8, vi ((0 : Nat) : Int))] [] (by first | (rw [e0_]; done) | (simp only [e0_]; done) | rfl | (simp only [e0_]; rfl))).rm [] (by kernel_rfl))
 rintro i hJ a w hs
 obtain ⟨hi, hall⟩ := hJ
 rcases bt (decide ((i : Int) < (xs.length : Int))) with b1 | b1
 ·skip
  have n1 := of_decide_eq_true b1
  rcases bt (!nameF (xs.getD i (dflt .str))) with b2 | b2
  ·skip
   refine wL hs hI [(4, ⟨[(5, ciV 84 [vs (xs.getD i (dflt .str))] (vb (!nameF (xs.getD i (dflt .str)))))], [], []⟩)] [true, true] 18188953533768170177737775 [ty b1, 0 ≤ (i : Int) ∧ (i : Int) < xs.length, ty b2] .ret [(4, vi (i : Int))] [] ⟨⟨⟨ent84, con84 _ (hxs _ (getD_mem (by omega) _))⟩, tv⟩, tv⟩ ⟨b1, (by omega), b2, tv⟩ fun a w hs => ?_
   refine then_ret ?_
   refine inb_ret ?_
   refine then_ret ?_
   exact rK (.val (vi (i : Int))) [] hs (by rw [idxF_at (q := (fun n => !nameF n)) (i := i) (dflt .str) (by omega) (by first | exact b2 | (simp only [b2]; rfl)) (fun j hj d => hall j hj d)])
  ·skip
   refine wL hs hI [(4, ⟨[(5, ciV 84 [vs (xs.getD i (dflt .str))] (vb (!nameF (xs.getD i (dflt .str)))))], [], []⟩)] [true, false] 18184492126106732189456525 [ty b1, 0 ≤ (i : Int) ∧ (i : Int) < xs.length, ty b2, InR .i64 ((i : Int) + 1)] .norm [(0, rwS xs), (1, .lit (.func (.func 84) #[] #[])), (7, vi (xs.length : Int)), (8, vi ((i : Int) + 1))] [] ⟨⟨⟨ent84, con84 _ (hxs _ (getD_mem (by omega) _))⟩, tv⟩, tv⟩ ⟨b1, (by omega), b2, (inR64 (by omega) (by omega)), tv⟩ fun a w hs => ?_
   refine then_norm ⟨i + 1, ⟨by omega, fun j hj d => by rcases Nat.lt_succ_iff_lt_or_eq.1 hj with h | h; exact hall j h d; subst h; rw [getD_any (by omega) d (dflt .str)]; exact b2⟩, by omega, ?_⟩
   (have e0_ : ((i : Int) + 1) = ((((i + 1) : Nat) : Int)) := (by first | rfl | (omega)); exact (hs.cst [(0, rwS xs), (1, .lit (.func (.func 84) #[] #[])), (7, vi (xs.length : Int)), (8, vi (((i + 1) : Nat) : Int))] [] (by first | (rw [e0_]; done) | (simp only [e0_]; done) | rfl | (simp only [e0_]; rfl))).rm [] (by kernel_rfl))
 ·skip
  have n1 := of_decide_eq_false b1
  refine wN hs hI [false] 19025 [ty b1] (.exit 0) [] [] ⟨b1, tv⟩ fun a w hs => ?_
  refine then_exit ?_
  refine inb_hit ?_
  refine then_norm ?_
  refine wN hs hI [] 650 [] .ret [(4, vi (-1))] [] tv fun a w hs => ?_
  exact rK (.val (vi (-1))) [] hs (by rw [idxF_no (q := (fun n => !nameF n)) (fun j hj d => hall j (by omega) d)])
theorem con83_84 (xs : List ByteArray) (hxs : ∀ x ∈ xs, small x) (hlen : xs.length < 4294967281) : Con Tryz.prog I0 83 [.row .str xs, .lit (.func (.func 84) #[] #[])] (.val (vb (xs.any (fun n => !nameF n)))) := by
 refine con_of Tryz.func83 rfl (Nat.le_of_ble_eq_true rfl) stab (fun w0 fz a hI hs => ?_)
 refine wL hs hI [(1, ⟨[(2, ciV 140 [rwS xs, .lit (.func (.func 84) #[] #[])] (vi (idxF (fun n => !nameF n) xs)))], [], []⟩)] [] 184630868775 [] .ret [(4, vb (decide ((idxF (fun n => !nameF n) xs) ≥ 0)))] [] ⟨⟨⟨ent140, con140_84 _ hxs hlen⟩, tv⟩, tv⟩ tv fun a w hs => ?_
 exact rK (.val (vb (decide ((idxF (fun n => !nameF n) xs) ≥ 0)))) [] hs (by rw [← idxF_any])
theorem con140_91 (xs : List ByteArray) (hxs : ∀ x ∈ xs, small x) (hlen : xs.length < 4294967281) : Con Tryz.prog I0 140 [.row .str xs, .lit (.func (.func 91) #[] #[])] (.val (vi (idxF (fun n => !nameF n) xs))) := by
 refine con_of Tryz.func140 rfl (Nat.le_of_ble_eq_true rfl) stab (fun w0 fz a hI hs => ?_)
 refine wp_seq ?_
 refine wN hs hI [] 25 [] .norm [(0, rwS xs), (1, .lit (.func (.func 91) #[] #[]))] [] tv fun a w hs => ?_
 refine then_norm ?_
 refine wp_seq ?_
 refine wp_seq ?_
 refine wN hs hI [] 19375 [] .norm [(0, rwS xs), (1, .lit (.func (.func 91) #[] #[])), (7, vi (xs.length : Int)), (8, vi 0)] [] tv fun a w hs => ?_
 refine then_norm ?_
 refine wp_block ?_
 refine loop_L (N := Tryz.f140.ntmps) (w0 := w0) (ow := noO fz) (α := Nat) (fun p => [(0, rwS xs), (1, .lit (.func (.func 91) #[] #[])), (7, vi (xs.length : Int)), (8, vi (p : Int))]) (fun p => []) (fun p => p ≤ xs.length ∧ ∀ j, j < p → ∀ d, (fun n => !nameF n) (xs.getD j d) = false) (fun p => xs.length - p) 0 ?_ ?_ ?_
 ·exact ⟨Nat.zero_le _, fun j hj => absurd hj (Nat.not_lt_zero _)⟩
 ·(have e0_ : (0) = (((0 : Nat) : Int)) := (by first | rfl | (rfl)); exact (hs.cst [(0, rwS xs), (1, .lit (.func (.func 91) #[] #[])), (7, vi (xs.length : Int)), (8, vi ((0 : Nat) : Int))] [] (by first | (rw [e0_]; done) | (simp only [e0_]; done) | rfl | (simp only [e0_]; rfl))).rm [] (by kernel_rfl))
 rintro i hJ a w hs
 obtain ⟨hi, hall⟩ := hJ
 rcases bt (decide ((i : Int) < (xs.length : Int))) with b1 | b1
 ·skip
  have n1 := of_decide_eq_true b1
  rcases bt (!nameF (xs.getD i (dflt .str))) with b2 | b2
  ·skip
   refine wL hs hI [(4, ⟨[(5, ciV 91 [vs (xs.getD i (dflt .str))] (vb (!nameF (xs.getD i (dflt .str)))))], [], []⟩)] [true, true] 18188953533768170177737775 [ty b1, 0 ≤ (i : Int) ∧ (i : Int) < xs.length, ty b2] .ret [(4, vi (i : Int))] [] ⟨⟨⟨ent91, con91 _ (hxs _ (getD_mem (by omega) _))⟩, tv⟩, tv⟩ ⟨b1, (by omega), b2, tv⟩ fun a w hs => ?_
   refine then_ret ?_
   refine inb_ret ?_
   refine then_ret ?_
   exact rK (.val (vi (i : Int))) [] hs (by rw [idxF_at (q := (fun n => !nameF n)) (i := i) (dflt .str) (by omega) (by first | exact b2 | (simp only [b2]; rfl)) (fun j hj d => hall j hj d)])
  ·skip
   refine wL hs hI [(4, ⟨[(5, ciV 91 [vs (xs.getD i (dflt .str))] (vb (!nameF (xs.getD i (dflt .str)))))], [], []⟩)] [true, false] 18184492126106732189456525 [ty b1, 0 ≤ (i : Int) ∧ (i : Int) < xs.length, ty b2, InR .i64 ((i : Int) + 1)] .norm [(0, rwS xs), (1, .lit (.func (.func 91) #[] #[])), (7, vi (xs.length : Int)), (8, vi ((i : Int) + 1))] [] ⟨⟨⟨ent91, con91 _ (hxs _ (getD_mem (by omega) _))⟩, tv⟩, tv⟩ ⟨b1, (by omega), b2, (inR64 (by omega) (by omega)), tv⟩ fun a w hs => ?_
   refine then_norm ⟨i + 1, ⟨by omega, fun j hj d => by rcases Nat.lt_succ_iff_lt_or_eq.1 hj with h | h; exact hall j h d; subst h; rw [getD_any (by omega) d (dflt .str)]; exact b2⟩, by omega, ?_⟩
   (have e0_ : ((i : Int) + 1) = ((((i + 1) : Nat) : Int)) := (by first | rfl | (omega)); exact (hs.cst [(0, rwS xs), (1, .lit (.func (.func 91) #[] #[])), (7, vi (xs.length : Int)), (8, vi (((i + 1) : Nat) : Int))] [] (by first | (rw [e0_]; done) | (simp only [e0_]; done) | rfl | (simp only [e0_]; rfl))).rm [] (by kernel_rfl))
 ·skip
  have n1 := of_decide_eq_false b1
  refine wN hs hI [false] 19025 [ty b1] (.exit 0) [] [] ⟨b1, tv⟩ fun a w hs => ?_
  refine then_exit ?_
  refine inb_hit ?_
  refine then_norm ?_
  refine wN hs hI [] 650 [] .ret [(4, vi (-1))] [] tv fun a w hs => ?_
  exact rK (.val (vi (-1))) [] hs (by rw [idxF_no (q := (fun n => !nameF n)) (fun j hj d => hall j (by omega) d)])
theorem con83_91 (xs : List ByteArray) (hxs : ∀ x ∈ xs, small x) (hlen : xs.length < 4294967281) : Con Tryz.prog I0 83 [.row .str xs, .lit (.func (.func 91) #[] #[])] (.val (vb (xs.any (fun n => !nameF n)))) := by
 refine con_of Tryz.func83 rfl (Nat.le_of_ble_eq_true rfl) stab (fun w0 fz a hI hs => ?_)
 refine wL hs hI [(1, ⟨[(2, ciV 140 [rwS xs, .lit (.func (.func 91) #[] #[])] (vi (idxF (fun n => !nameF n) xs)))], [], []⟩)] [] 184630868775 [] .ret [(4, vb (decide ((idxF (fun n => !nameF n) xs) ≥ 0)))] [] ⟨⟨⟨ent140, con140_91 _ hxs hlen⟩, tv⟩, tv⟩ tv fun a w hs => ?_
 exact rK (.val (vb (decide ((idxF (fun n => !nameF n) xs) ≥ 0)))) [] hs (by rw [← idxF_any])
theorem con90 (xs : List ByteArray) (hxs : ∀ x ∈ xs, small x) (hlen : xs.length < 4294967281) : Con Tryz.prog I0 90 [.row .str xs] (.val (vb (badPath xs))) := by
 refine con_of Tryz.func90 rfl (Nat.le_of_ble_eq_true rfl) stab (fun w0 fz a hI hs => ?_)
 rcases bt ((xs.length : Int) == 0) with b1 | b1
 ·skip
  have n1 := eq_of_beq b1
  refine wL hs hI [(1, ⟨[], gg [1007, 1011] [4, 5, 6, 9, 10], []⟩)] [] 28172507881942651328150 [ty b1, ty b1, ty b1, ty b1, true = true, true = true, true = true] .ret [(2, vb true)] [] ⟨tv, tv⟩ ⟨b1, b1, b1, b1, rfl, rfl, rfl, tv⟩ fun a w hs => ?_
  exact rK (.val (vb true)) [] hs (by simp only [badPath, b1]; try rfl)
 ·skip
  have n1 := beq_eq_false_iff_ne.1 b1
  rcases bt (decide ((xs.length : Int) > 63)) with b2 | b2
  ·skip
   have n2 := of_decide_eq_true b2
   refine wL hs hI [(1, ⟨[], gg [4, 5, 6, 1011] [1007, 9, 10], []⟩)] [] 440195435658075319925937525 [ty b1, ty b1, ty b1, ty b1, ty b2, ty b2, ty b2] .ret [(2, vb true)] [] ⟨tv, tv⟩ ⟨b1, b1, b1, b1, b2, b2, b2, tv⟩ fun a w hs => ?_
   exact rK (.val (vb true)) [] hs (by simp only [badPath, b1, b2]; try rfl)
  ·skip
   have n2 := of_decide_eq_false b2
   refine wL hs hI [(1, ⟨[(10, ciV 83 [rwS xs, .lit (.func (.func 91) #[] #[])] (vb (xs.any (fun n => !nameF n))))], gg [4, 5, 6, 9, 10] [1007, 1011], []⟩)] [] 275122147286310247103373203150 [ty b1, ty b1, ty b1, ty b1, ty b2, ty b2, ty b2] .ret [(2, vb (xs.any (fun n => !nameF n)))] [] ⟨⟨⟨ent83, con83_91 _ hxs hlen⟩, tv⟩, tv⟩ ⟨b1, b1, b1, b1, b2, b2, b2, tv⟩ fun a w hs => ?_
   exact rK (.val (vb (xs.any (fun n => !nameF n)))) [] hs (by simp only [badPath, b1, b2]; try rfl)
def smalls (p : List ByteArray) : Prop := (∀ x ∈ p, small x) ∧ p.length < 4294967281
theorem con146 (xs : List (List ByteArray)) (hxs : ∀ x ∈ xs, smalls x) (hlen : xs.length < 4294967281) : Con Tryz.prog I0 146 [.row .strs xs, .lit (.func (.func 90) #[] #[])] (.val (vi (idxF badPath xs))) := by
 refine con_of Tryz.func146 rfl (Nat.le_of_ble_eq_true rfl) stab (fun w0 fz a hI hs => ?_)
 refine wp_seq ?_
 refine wN hs hI [] 25 [] .norm [(0, .row .strs xs), (1, .lit (.func (.func 90) #[] #[]))] [] tv fun a w hs => ?_
 refine then_norm ?_
 refine wp_seq ?_
 refine wp_seq ?_
 refine wN hs hI [] 19375 [] .norm [(0, .row .strs xs), (1, .lit (.func (.func 90) #[] #[])), (7, vi (xs.length : Int)), (8, vi 0)] [] tv fun a w hs => ?_
 refine then_norm ?_
 refine wp_block ?_
 refine loop_L (N := Tryz.f146.ntmps) (w0 := w0) (ow := noO fz) (α := Nat) (fun p => [(0, .row .strs xs), (1, .lit (.func (.func 90) #[] #[])), (7, vi (xs.length : Int)), (8, vi (p : Int))]) (fun p => []) (fun p => p ≤ xs.length ∧ ∀ j, j < p → ∀ d, badPath (xs.getD j d) = false) (fun p => xs.length - p) 0 ?_ ?_ ?_
 ·exact ⟨Nat.zero_le _, fun j hj => absurd hj (Nat.not_lt_zero _)⟩
 ·(have e0_ : (0) = (((0 : Nat) : Int)) := (by first | rfl | (rfl)); exact (hs.cst [(0, .row .strs xs), (1, .lit (.func (.func 90) #[] #[])), (7, vi (xs.length : Int)), (8, vi ((0 : Nat) : Int))] [] (by first | (rw [e0_]; done) | (simp only [e0_]; done) | rfl | (simp only [e0_]; rfl))).rm [] (by kernel_rfl))
 rintro i hJ a w hs
 obtain ⟨hi, hall⟩ := hJ
 rcases bt (decide ((i : Int) < (xs.length : Int))) with b1 | b1
 ·skip
  have n1 := of_decide_eq_true b1
  rcases bt (badPath (xs.getD i (dflt .strs))) with b2 | b2
  ·skip
   refine wL hs hI [(4, ⟨[(5, ciV 90 [rwS (xs.getD i (dflt .strs))] (vb (badPath (xs.getD i (dflt .strs)))))], [], []⟩)] [true, true] 18188953533768170177737775 [ty b1, 0 ≤ (i : Int) ∧ (i : Int) < xs.length, ty b2] .ret [(4, vi (i : Int))] [] ⟨⟨⟨ent90, con90 _ (hxs _ (getD_mem (by omega) _)).1 (hxs _ (getD_mem (by omega) _)).2⟩, tv⟩, tv⟩ ⟨b1, (by omega), b2, tv⟩ fun a w hs => ?_
   refine then_ret ?_
   refine inb_ret ?_
   refine then_ret ?_
   exact rK (.val (vi (i : Int))) [] hs (by rw [idxF_at (q := badPath) (i := i) (dflt .strs) (by omega) b2 (fun j hj d => hall j hj d)])
  ·skip
   refine wL hs hI [(4, ⟨[(5, ciV 90 [rwS (xs.getD i (dflt .strs))] (vb (badPath (xs.getD i (dflt .strs)))))], [], []⟩)] [true, false] 18184492126106732189456525 [ty b1, 0 ≤ (i : Int) ∧ (i : Int) < xs.length, ty b2, InR .i64 ((i : Int) + 1)] .norm [(0, .row .strs xs), (1, .lit (.func (.func 90) #[] #[])), (7, vi (xs.length : Int)), (8, vi ((i : Int) + 1))] [] ⟨⟨⟨ent90, con90 _ (hxs _ (getD_mem (by omega) _)).1 (hxs _ (getD_mem (by omega) _)).2⟩, tv⟩, tv⟩ ⟨b1, (by omega), b2, (inR64 (by omega) (by omega)), tv⟩ fun a w hs => ?_
   refine then_norm ⟨i + 1, ⟨by omega, fun j hj d => by rcases Nat.lt_succ_iff_lt_or_eq.1 hj with h | h; exact hall j h d; subst h; rw [getD_any (by omega) d (dflt .strs)]; exact b2⟩, by omega, ?_⟩
   (have e0_ : ((i : Int) + 1) = ((((i + 1) : Nat) : Int)) := (by first | rfl | (omega)); exact (hs.cst [(0, .row .strs xs), (1, .lit (.func (.func 90) #[] #[])), (7, vi (xs.length : Int)), (8, vi (((i + 1) : Nat) : Int))] [] (by first | (rw [e0_]; done) | (simp only [e0_]; done) | rfl | (simp only [e0_]; rfl))).rm [] (by kernel_rfl))
 ·skip
  have n1 := of_decide_eq_false b1
  refine wN hs hI [false] 19025 [ty b1] (.exit 0) [] [] ⟨b1, tv⟩ fun a w hs => ?_
  refine then_exit ?_
  refine inb_hit ?_
  refine then_norm ?_
  refine wN hs hI [] 650 [] .ret [(4, vi (-1))] [] tv fun a w hs => ?_
  exact rK (.val (vi (-1))) [] hs (by rw [idxF_no (q := badPath) (fun j hj d => hall j (by omega) d)])
theorem con89 (xs : List (List ByteArray)) (hxs : ∀ x ∈ xs, smalls x) (hlen : xs.length < 4294967281) : Con Tryz.prog I0 89 [.row .strs xs, .lit (.func (.func 90) #[] #[])] (.val (vb (xs.any badPath))) := by
 refine con_of Tryz.func89 rfl (Nat.le_of_ble_eq_true rfl) stab (fun w0 fz a hI hs => ?_)
 refine wL hs hI [(1, ⟨[(2, ciV 146 [.row .strs xs, .lit (.func (.func 90) #[] #[])] (vi (idxF badPath xs)))], [], []⟩)] [] 184630868775 [] .ret [(4, vb (decide ((idxF badPath xs) ≥ 0)))] [] ⟨⟨⟨ent146, con146 _ hxs hlen⟩, tv⟩, tv⟩ tv fun a w hs => ?_
 exact rK (.val (vb (decide ((idxF badPath xs) ≥ 0)))) [] hs (by rw [← idxF_any])
theorem con39 (xs : List (List ByteArray)) (hxs : ∀ x ∈ xs, smalls x) (hlen : xs.length < 4294967281) : Con Tryz.prog I0 39 [.row .strs xs] (.val (vb (checkF xs))) := by
 refine con_of Tryz.func39 rfl (Nat.le_of_ble_eq_true rfl) stab (fun w0 fz a hI hs => ?_)
 rcases bt (decide ((xs.length : Int) ≤ 60)) with b1 | b1
 ·skip
  have n1 := of_decide_eq_true b1
  refine wL hs hI [(1, ⟨[(5, ciV 89 [.row .strs xs, .lit (.func (.func 90) #[] #[])] (vb (xs.any badPath)))], gg [4, 5, 6, 1007] [], []⟩)] [] 1126900315249154453150 [ty b1, ty b1, ty b1, ty b1] .ret [(2, vb (!(xs.any badPath)))] [] ⟨⟨⟨ent89, con89 _ hxs hlen⟩, tv⟩, tv⟩ ⟨b1, b1, b1, b1, tv⟩ fun a w hs => ?_
  exact rK (.val (vb (!(xs.any badPath)))) [] hs (by simp only [checkF, b1]; try rfl)
 ·skip
  have n1 := of_decide_eq_false b1
  refine wL hs hI [(1, ⟨[], gg [] [4, 5, 6, 1007], []⟩)] [] 72121619897421900 [ty b1, ty b1, ty b1, ty b1] .ret [(2, vb false)] [] ⟨tv, tv⟩ ⟨b1, b1, b1, b1, tv⟩ fun a w hs => ?_
  exact rK (.val (vb false)) [] hs (by simp only [checkF, b1]; try rfl)
theorem memV_nodes' (t : Tree) (x : ByteArray) : nodes (memV t x) ≤ nodes t := by
 cases h : memB t x with
 | true => exact memV_nodes h
 | false =>
  have h0 : ¬ idxT x (cutK t) ≥ 0 := of_decide_eq_false h
  rw [(memV_neg h0).1, show nodes Tree.zero = 1 from by simp [Tree.zero, nodes, nodesL]]
  have := nodes_eq t; omega
def cmpB (a b : ByteArray) : Int := if Op.bytesLess a.toList b.toList = true then -1 else if gtB a b = true then 1 else 0
def cmpS : List ByteArray → List ByteArray → Int
 | [], [] => 0
 | [], _ :: _ => -1
 | _ :: _, [] => 1
 | x :: xs, y :: ys => if cmpB x y = 0 then cmpS xs ys else cmpB x y
def startsF (a b : List ByteArray) : Bool := decide ((a.length : Int) ≤ (b.length : Int)) && decide (a = b.take a.length)
theorem list_eq {a b : List ByteArray} (hl : a.length = b.length) (h : ∀ j, j < a.length → ∀ d, a.getD j d = b.getD j d) : a = b := by
 refine List.ext_getElem hl (fun i h1 h2 => ?_)
 have := h i h1 (dflt .str)
 rw [List.getD_eq_getElem?_getD, List.getD_eq_getElem?_getD, List.getElem?_eq_getElem h1, List.getElem?_eq_getElem h2] at this
 exact this
theorem con134 (xs ys : List ByteArray) (h : xs.length < 1000000000) (h2 : ys.length < 1000000000) : Con Tryz.prog I0 134 [.row .str xs, .row .str ys] (.val (vb (decide (xs = ys)))) := by
 refine con_of Tryz.func134 rfl (Nat.le_of_ble_eq_true rfl) stab (fun w0 fz a hI hs => ?_)
 refine wp_seq ?_
 refine wN hs hI [] 25 [] .norm [(0, rwS xs), (1, rwS ys)] [] tv fun a w hs => ?_
 refine then_norm ?_
 refine wp_seq ?_
 rcases bt ((xs.length : Int) != (ys.length : Int)) with b1 | b1
 ·skip
  have n1 := bne_iff_ne.1 b1
  refine wN hs hI [true] 4736437984375 [ty b1] .ret [(4, vb false)] [] ⟨b1, tv⟩ fun a w hs => ?_
  refine then_ret ?_
  exact rK (.val (vb false)) [] hs (by rw [decide_eq_false (fun e => by subst e; omega)])
 ·skip
  have n1 := bne_eq_false_iff_eq.1 b1
  refine wN hs hI [false] 7434078125 [ty b1] .norm [(0, rwS xs), (1, rwS ys)] [] ⟨b1, tv⟩ fun a w hs => ?_
  refine then_norm ?_
  refine wp_seq ?_
  refine wp_seq ?_
  refine wN hs hI [] 19375 [] .norm [(0, rwS xs), (1, rwS ys), (12, vi (xs.length : Int)), (13, vi 0)] [] tv fun a w hs => ?_
  refine then_norm ?_
  refine wp_block ?_
  refine loop_L (N := Tryz.f134.ntmps) (w0 := w0) (ow := noO fz) (α := Nat) (fun p => [(0, rwS xs), (1, rwS ys), (12, vi (xs.length : Int)), (13, vi (p : Int))]) (fun p => []) (fun p => p ≤ xs.length ∧ ∀ j, j < p → ∀ d, xs.getD j d = ys.getD j d) (fun p => xs.length - p) 0 ?_ ?_ ?_
  ·exact ⟨Nat.zero_le _, fun j hj => absurd hj (Nat.not_lt_zero _)⟩
  ·exact (hs.cst [(0, rwS xs), (1, rwS ys), (12, vi (xs.length : Int)), (13, vi ((0 : Nat) : Int))] [] rfl).rm [] (by kernel_rfl)
  rintro i hJ a w hs
  obtain ⟨hi, hall⟩ := hJ
  rcases bt (decide ((i : Int) < (xs.length : Int))) with b2 | b2
  ·skip
   have n2 := of_decide_eq_true b2
   rcases bt ((xs.getD i (dflt .str)).toList == (ys.getD i (dflt .str)).toList) with b3 | b3
   ·skip
    have n3 := eq_of_beq b3
    refine wN hs hI [true, false] 284132689470425130465099612775 [ty b2, 0 ≤ (i : Int) ∧ (i : Int) < xs.length, 0 ≤ (i : Int) ∧ (i : Int) < ys.length, ty (ng1 b3), InR .i64 ((i : Int) + 1)] .norm [(0, rwS xs), (1, rwS ys), (12, vi (xs.length : Int)), (13, vi ((i : Int) + 1))] [] ⟨b2, (by omega), (by omega), (ng1 b3), (inR64 (by omega) (by omega)), tv⟩ fun a w hs => ?_
    refine then_norm ⟨i + 1, ⟨by omega, fun j hj d => by rcases Nat.lt_succ_iff_lt_or_eq.1 hj with h | h; exact hall j h d; subst h; rw [getD_any (by omega) d (dflt .str), getD_any (l := ys) (by omega) d (dflt .str)]; exact eqT_iff.1 b3⟩, by omega, ?_⟩
    (have e0_ : ((i : Int) + 1) = ((((i + 1) : Nat) : Int)) := (by first | rfl | (omega)); exact (hs.cst [(0, rwS xs), (1, rwS ys), (12, vi (xs.length : Int)), (13, vi (((i + 1) : Nat) : Int))] [] (by first | (rw [e0_]; done) | (simp only [e0_]; done) | rfl | (simp only [e0_]; rfl))).rm [] (by kernel_rfl))
   ·skip
    have n3 := beq_eq_false_iff_ne.1 b3
    refine wN hs hI [true, true] 11368074687197686770031253400 [ty b2, 0 ≤ (i : Int) ∧ (i : Int) < xs.length, 0 ≤ (i : Int) ∧ (i : Int) < ys.length, ty (ng0 b3)] .ret [(4, vb false)] [] ⟨b2, (by omega), (by omega), (ng0 b3), tv⟩ fun a w hs => ?_
    refine then_ret ?_
    refine inb_ret ?_
    refine then_ret ?_
    exact rK (.val (vb false)) [] hs (by rw [decide_eq_false (fun e => by subst e; exact absurd (eqT_self _) (by rw [show eqT _ _ = false from b3]; decide))])
  ·skip
   have n2 := of_decide_eq_false b2
   refine wN hs hI [false] 19025 [ty b2] (.exit 0) [] [] ⟨b2, tv⟩ fun a w hs => ?_
   refine then_exit ?_
   refine inb_hit ?_
   refine then_norm ?_
   refine wN hs hI [] 650 [] .ret [(4, vb true)] [] tv fun a w hs => ?_
   exact rK (.val (vb true)) [] hs (by rw [decide_eq_true (list_eq (by omega) (fun j hj d => hall j (by omega) d))])
def ltB (a b : ByteArray) : Prop := a.toList < b.toList
theorem ltB_irrefl (a : ByteArray) : ¬ ltB a a := List.lt_irrefl _
theorem ltB_trans {a b c : ByteArray} (h1 : ltB a b) (h2 : ltB b c) : ltB a c := List.lt_trans h1 h2
theorem toList_inj {a b : ByteArray} (h : a.toList = b.toList) : a = b := eqT_iff.1 (by unfold eqT; rw [h]; simp)
theorem ltB_tri (a b : ByteArray) : ltB a b ∨ a = b ∨ ltB b a := by
 by_cases h1 : a.toList < b.toList
 ·exact .inl h1
 ·by_cases h2 : b.toList < a.toList
  ·exact .inr (.inr h2)
  ·exact .inr (.inl (toList_inj (List.le_antisymm (List.not_lt.1 h2) (List.not_lt.1 h1))))
theorem ltB_less {a b : ByteArray} : Op.bytesLess a.toList b.toList = true ↔ ltB a b := by rw [bytesLess_eq]; exact decide_eq_true_iff
theorem cmpB_of_lt {a b : ByteArray} (h : ltB a b) : cmpB a b = -1 := if_pos (ltB_less.2 h)
theorem cmpB_self (a : ByteArray) : cmpB a a = 0 := by
 unfold cmpB gtB
 rw [if_neg (fun h => ltB_irrefl a (ltB_less.1 h))]
 simp
theorem cmpB_of_gt {a b : ByteArray} (h : ltB b a) : cmpB a b = 1 := by
 have h1 : ¬ ltB a b := fun h2 => ltB_irrefl _ (ltB_trans h h2)
 have h2 : Op.bytesLess a.toList b.toList = false := by
  cases hb : Op.bytesLess a.toList b.toList with
  | false => rfl
  | true => exact absurd (ltB_less.1 hb) h1
 have h3 : (a.toList == b.toList) = false := by
  cases hb : a.toList == b.toList with
  | false => rfl
  | true =>
   have := toList_inj (eq_of_beq hb)
   subst this; exact absurd h h1
 unfold cmpB gtB
 rw [h2, h3]; rfl
theorem cmpB_neg {a b : ByteArray} : cmpB a b < 0 ↔ ltB a b := by
 rcases ltB_tri a b with h | h | h
 ·rw [cmpB_of_lt h]; simp [h]
 ·subst h; rw [cmpB_self]; simp [ltB_irrefl]
 ·rw [cmpB_of_gt h]; exact ⟨fun h => absurd h (by decide), fun h2 => absurd (ltB_trans h h2) (ltB_irrefl _)⟩
theorem cmpB_zero {a b : ByteArray} : cmpB a b = 0 ↔ a = b := by
 rcases ltB_tri a b with h | h | h
 ·rw [cmpB_of_lt h]; exact ⟨fun h => absurd h (by decide), fun e => by subst e; exact absurd h (ltB_irrefl _)⟩
 ·subst h; simp [cmpB_self]
 ·rw [cmpB_of_gt h]; exact ⟨fun h => absurd h (by decide), fun e => by subst e; exact absurd h (ltB_irrefl _)⟩
theorem cmpB_pos {a b : ByteArray} : 0 < cmpB a b ↔ ltB b a := by
 rcases ltB_tri a b with h | h | h
 ·rw [cmpB_of_lt h]; exact ⟨fun h => absurd h (by decide), fun h2 => absurd (ltB_trans h h2) (ltB_irrefl _)⟩
 ·subst h; rw [cmpB_self]; simp [ltB_irrefl]
 ·rw [cmpB_of_gt h]; simp [h]
theorem cmpS_self : ∀ xs : List ByteArray, cmpS xs xs = 0
 | [] => rfl
 | x :: xs => by rw [cmpS, cmpB_self, if_pos rfl, cmpS_self xs]
theorem cmpS_zero : ∀ {xs ys : List ByteArray}, cmpS xs ys = 0 → xs = ys
 | [], [], _ => rfl
 | [], _ :: _, h => absurd h (by simp [cmpS])
 | _ :: _, [], h => absurd h (by simp [cmpS])
 | x :: xs, y :: ys, h => by
  rw [cmpS] at h
  split at h
  ·rename_i e
   rw [cmpB_zero.1 e, cmpS_zero h]
  ·rename_i e; exact absurd h e
theorem cmpS_swap : ∀ (xs ys : List ByteArray), cmpS xs ys < 0 ↔ 0 < cmpS ys xs
 | [], [] => by simp [cmpS]
 | [], _ :: _ => by simp [cmpS]
 | _ :: _, [] => by simp [cmpS]
 | x :: xs, y :: ys => by
  rw [cmpS, cmpS]
  by_cases e : x = y
  ·subst e
   rw [cmpB_self, if_pos rfl, if_pos rfl]; exact cmpS_swap xs ys
  ·rw [if_neg (fun h => e (cmpB_zero.1 h)), if_neg (fun h => e (cmpB_zero.1 h).symm), cmpB_neg, cmpB_pos]
theorem cmpS_trans : ∀ {xs ys zs : List ByteArray}, cmpS xs ys < 0 → cmpS ys zs < 0 → cmpS xs zs < 0
 | [], [], _, h, _ => absurd h (by simp [cmpS])
 | _ :: _, [], _, h, _ => absurd h (by simp [cmpS])
 | _, _ :: _, [], _, h => absurd h (by simp [cmpS])
 | [], _ :: _, _ :: _, _, _ => by simp [cmpS]
 | x :: xs, y :: ys, z :: zs, h1, h2 => by
  rw [cmpS] at h1 h2 ⊢
  by_cases e1 : x = y
  ·subst e1
   rw [cmpB_self, if_pos rfl] at h1
   by_cases e2 : x = z
   ·subst e2
    rw [cmpB_self, if_pos rfl] at h2 ⊢
    exact cmpS_trans h1 h2
   ·rw [if_neg (fun h => e2 (cmpB_zero.1 h))] at h2 ⊢
    exact h2
  ·rw [if_neg (fun h => e1 (cmpB_zero.1 h)), cmpB_neg] at h1
   by_cases e2 : y = z
   ·subst e2
    rw [if_neg (fun h => e1 (cmpB_zero.1 h)), cmpB_neg]; exact h1
   ·rw [if_neg (fun h => e2 (cmpB_zero.1 h)), cmpB_neg] at h2
    have h3 := ltB_trans h1 h2
    rw [if_neg (fun h => by rw [cmpB_zero.1 h] at h3; exact ltB_irrefl _ h3), cmpB_neg]; exact h3
theorem cmpS_le_trans {xs ys zs : List ByteArray} (h1 : ¬ cmpS xs ys < 0) (h2 : ¬ cmpS ys zs < 0) : ¬ cmpS xs zs < 0 := by
 intro h
 rcases Int.lt_trichotomy (cmpS xs ys) 0 with a | a | a
 ·exact h1 a
 ·rw [cmpS_zero a] at h; exact h2 h
 ·have := cmpS_trans ((cmpS_swap _ _).2 a) h
  exact h2 this
theorem cmpS_anti {xs ys : List ByteArray} (h1 : ¬ cmpS xs ys < 0) (h2 : ¬ cmpS ys xs < 0) : xs = ys := by
 rcases Int.lt_trichotomy (cmpS xs ys) 0 with a | a | a
 ·exact absurd a h1
 ·exact cmpS_zero a
 ·exact absurd ((cmpS_swap _ _).2 a) h2
open Go.Proofs Go.Sort
def sortP (l : List (List ByteArray)) : List (List ByteArray) := l.mergeSort (fun x y => !decide (cmpS y x < 0))
structure It (w : World) (fz : Nat → Prop) (η : Nat → Option Value) where
 v : Value
 xs : List ByteArray
 hr : R w fz η v (.row .str xs)
 len : xs.length < 1000000000
section
variable {w : World} {fz : Nat → Prop} {η : Nat → Option Value}
instance : Inhabited (It w fz η) := ⟨⟨.slice none 0 0, [], .row none 0 .str [] (fun _ _ => .bool false) (Nat.le_refl _) (Nat.zero_le _) (fun i x h => by simp at h) (fun i x j y h => by simp at h), by decide⟩⟩
theorem its : ∀ (xs : List (List ByteArray)) (cs : List Value), cs.length = xs.length → (∀ (i : Nat) (x : List ByteArray) (v : Value), xs[i]? = some x → cs[i]? = some v → R w fz η v (.row .str x)) → (∀ x ∈ xs, x.length < 1000000000) → ∃ l : List (It w fz η), l.map It.v = cs ∧ l.map It.xs = xs
 | [], [], _, _, _ => ⟨[], rfl, rfl⟩
 | [], _ :: _, h, _, _ => by simp at h
 | _ :: _, [], h, _, _ => by simp at h
 | x :: xs, c :: cs, h, hr, hl => by
  obtain ⟨l, h1, h2⟩ := its xs cs (by simpa using h) (fun i x v hx hv => hr (i + 1) x v (by simpa using hx) (by simpa using hv)) (fun x hx => hl x (by simp [hx]))
  exact ⟨⟨c, x, hr 0 x c rfl rfl, hl x (by simp)⟩ :: l, by simp [h1], by simp [h2]⟩
end
def textOk (s : ByteArray) : Bool := decide ((s.size : Int) ≤ 2000) && X.validAt s s.size 0
theorem con215 (s : ByteArray) : Con Tryz.prog I0 215 [vs s] (.val (vb (textOk s))) := by
 refine con_of Tryz.func215 rfl (Nat.le_of_ble_eq_true rfl) stab (fun w0 fz a hI hs => ?_)
 rcases bt (decide ((s.size : Int) ≤ 2000)) with b1 | b1
 ·skip
  have n1 := of_decide_eq_true b1
  refine wL hs hI [(1, ⟨[(5, ciV 249 [vs s] (vb (X.validAt s s.size 0)))], gg [4, 5, 1006] [], []⟩)] [] 1803040503060703150 [ty b1, ty b1, ty b1] .ret [(2, vb (X.validAt s s.size 0))] [] ⟨⟨⟨ent249, conValid _ rfl⟩, tv⟩, tv⟩ ⟨b1, b1, b1, tv⟩ fun a w hs => ?_
  exact rK (.val (vb (X.validAt s s.size 0))) [] hs (by simp only [textOk]; rw [b1]; rfl)
 ·skip
  have n1 := of_decide_eq_false b1
  refine wL hs hI [(1, ⟨[], gg [] [4, 5, 1006], []⟩)] [] 2884864750937525 [ty b1, ty b1, ty b1] .ret [(2, vb false)] [] ⟨tv, tv⟩ ⟨b1, b1, b1, tv⟩ fun a w hs => ?_
  exact rK (.val (vb false)) [] hs (by simp only [textOk]; rw [b1]; rfl)
def nmOk (l : List ByteArray) (i : Nat) : Bool := textOk (l.getD i (dflt .str)) && (!(decide ((i : Int) > 0)) || Op.bytesLess (l.getD ((i : Int) - 1).toNat (dflt .str)).toList (l.getD i (dflt .str)).toList)
def namesOk (l : List ByteArray) : Bool := (List.range l.length).all (nmOk l) && decide ((l.length : Int) ≤ 300)
theorem all_no' {n : Nat} {q : Nat → Bool} {i : Nat} (h : i < n) (hn : q i = false) : (List.range n).all q = false := List.all_eq_false.2 ⟨i, by simpa using h, by simp [hn]⟩
theorem all_yes' {n : Nat} {q : Nat → Bool} (h : ∀ j, j < n → q j = true) : (List.range n).all q = true := List.all_eq_true.2 (fun j hj => h j (by simpa using hj))
theorem con216 (l : List ByteArray) (hl : l.length < 4611686018427387904) : Con Tryz.prog I0 216 [.row .str l] (.val (vb (namesOk l))) := by
 refine con_of Tryz.func216 rfl (Nat.le_of_ble_eq_true rfl) stab (fun w0 fz a hI hs => ?_)
 refine wp_seq ?_
 refine wN hs hI [] 25 [] .norm [(0, rwS l)] [] tv fun a w hs => ?_
 refine then_norm ?_
 refine wp_seq ?_
 refine wp_seq ?_
 refine wN hs hI [] 19375 [] .norm [(0, rwS l), (5, rwS l), (6, vi (l.length : Int)), (7, vi 0)] [] tv fun a w hs => ?_
 refine then_norm ?_
 refine wp_block ?_
 refine loop_L (N := Tryz.f216.ntmps) (w0 := w0) (ow := noO fz) (α := Nat) (fun p => [(0, rwS l), (5, rwS l), (6, vi (l.length : Int)), (7, vi (p : Int))]) (fun p => []) (fun p => p ≤ l.length ∧ ∀ j, j < p → nmOk l j = true) (fun p => l.length - p) 0 ?_ ?_ ?_
 ·exact ⟨Nat.zero_le _, fun j hj => absurd hj (Nat.not_lt_zero _)⟩
 ·(have e0_ : (0) = (((0 : Nat) : Int)) := (by first | rfl | (rfl)); exact (hs.cst [(0, rwS l), (5, rwS l), (6, vi (l.length : Int)), (7, vi ((0 : Nat) : Int))] [] (by first | (rw [e0_]; done) | (simp only [e0_]; done) | rfl | (simp only [e0_]; rfl))).rm [] (by kernel_rfl))
 rintro i hJ a w hs
 obtain ⟨hi, hall⟩ := hJ
 rcases bt (decide ((i : Int) < (l.length : Int))) with b1 | b1
 ·skip
  have n1 := of_decide_eq_true b1
  rcases bt (textOk (l.getD i (dflt .str))) with b2 | b2
  ·skip
   rcases bt (decide ((i : Int) > 0)) with b3 | b3
   ·skip
    have n3 := of_decide_eq_true b3
    rcases bt (Op.bytesLess (l.getD (((i : Int) - 1).toNat) (dflt .str)).toList (l.getD i (dflt .str)).toList) with b4 | b4
    ·skip
     refine wL hs hI [(4, ⟨[(1, ciV 215 [vs (l.getD i (dflt .str))] (vb (textOk (l.getD i (dflt .str)))))], gg [4, 5, 6, 7, 8, 9, 10, 11, 12, 13, 14, 1014] [1015], []⟩)] [true, false] 64604293918461109602971448313705121106856192123603759925275 [ty b1, 0 ≤ (i : Int) ∧ (i : Int) < l.length, ty (ng1 b2), ty (ng1 b2), ty (ng1 b2), ty b3, ty b3, ty b3, InR .i64 ((i : Int) - 1), ty b3, 0 ≤ ((i : Int) - 1) ∧ ((i : Int) - 1) < l.length, ty b3, ty b3, ty b3, ty (ng1 b2), ty b3, ty (ng1 b2), ty (ng1 b4), InR .i64 ((i : Int) + 1)] .norm [(0, rwS l), (5, rwS l), (6, vi (l.length : Int)), (7, vi ((i : Int) + 1))] [] ⟨⟨⟨ent215, con215 _⟩, tv⟩, tv⟩ ⟨b1, (by omega), (ng1 b2), (ng1 b2), (ng1 b2), b3, b3, b3, (inR64 (by omega) (by omega)), b3, (by omega), b3, b3, b3, (ng1 b2), b3, (ng1 b2), (ng1 b4), (inR64 (by omega) (by omega)), tv⟩ fun a w hs => ?_
     refine then_norm ⟨i + 1, ⟨by omega, fun j hj => by rcases Nat.lt_succ_iff_lt_or_eq.1 hj with h | h; exact hall j h; subst h; simp only [nmOk, b1, b2, b3, b4]; rfl⟩, by omega, ?_⟩
     (have e0_ : ((i : Int) + 1) = ((((i + 1) : Nat) : Int)) := (by first | rfl | (omega)); exact (hs.cst [(0, rwS l), (5, rwS l), (6, vi (l.length : Int)), (7, vi (((i + 1) : Nat) : Int))] [] (by first | (rw [e0_]; done) | (simp only [e0_]; done) | rfl | (simp only [e0_]; rfl))).rm [] (by kernel_rfl))
    ·skip
     refine wL hs hI [(4, ⟨[(1, ciV 215 [vs (l.getD i (dflt .str))] (vb (textOk (l.getD i (dflt .str)))))], gg [4, 5, 6, 7, 8, 9, 10, 11, 12, 13, 14, 1014] [1015], []⟩)] [true, true] 2584800924341335405867714487707569785804177295875488440900 [ty b1, 0 ≤ (i : Int) ∧ (i : Int) < l.length, ty (ng1 b2), ty (ng1 b2), ty (ng1 b2), ty b3, ty b3, ty b3, InR .i64 ((i : Int) - 1), ty b3, 0 ≤ ((i : Int) - 1) ∧ ((i : Int) - 1) < l.length, ty b3, ty b3, ty b3, ty (ng1 b2), ty b3, ty (ng1 b2), ty (ng0 b4)] .ret [(2, vb false)] [] ⟨⟨⟨ent215, con215 _⟩, tv⟩, tv⟩ ⟨b1, (by omega), (ng1 b2), (ng1 b2), (ng1 b2), b3, b3, b3, (inR64 (by omega) (by omega)), b3, (by omega), b3, b3, b3, (ng1 b2), b3, (ng1 b2), (ng0 b4), tv⟩ fun a w hs => ?_
     refine then_ret ?_
     refine inb_ret ?_
     refine then_ret ?_
     exact rK (.val (vb false)) [] hs (by simp only [namesOk]; rw [all_no' (i := i) (by omega) (by simp only [nmOk, b1, b2, b3, b4]; rfl)]; rfl)
   ·skip
    have n3 := of_decide_eq_false b3
    refine wL hs hI [(4, ⟨[(1, ciV 215 [vs (l.getD i (dflt .str))] (vb (textOk (l.getD i (dflt .str)))))], gg [4, 5, 6, 14] [7, 8, 9, 10, 11, 12, 13, 1014, 1015], []⟩)] [true, false] 10584767515600668197350787522733832370948730628400 [ty b1, 0 ≤ (i : Int) ∧ (i : Int) < l.length, ty (ng1 b2), ty (ng1 b2), ty (ng1 b2), ty b3, ty b3, ty b3, ty b3, ty b3, ty b3, ty b3, ty (ng1 b2), ty b3, ty (ng1 b2), false = false, InR .i64 ((i : Int) + 1)] .norm [(0, rwS l), (5, rwS l), (6, vi (l.length : Int)), (7, vi ((i : Int) + 1))] [] ⟨⟨⟨ent215, con215 _⟩, tv⟩, tv⟩ ⟨b1, (by omega), (ng1 b2), (ng1 b2), (ng1 b2), b3, b3, b3, b3, b3, b3, b3, (ng1 b2), b3, (ng1 b2), rfl, (inR64 (by omega) (by omega)), tv⟩ fun a w hs => ?_
    refine then_norm ⟨i + 1, ⟨by omega, fun j hj => by rcases Nat.lt_succ_iff_lt_or_eq.1 hj with h | h; exact hall j h; subst h; simp only [nmOk, b1, b2, b3]; rfl⟩, by omega, ?_⟩
    (have e0_ : ((i : Int) + 1) = ((((i + 1) : Nat) : Int)) := (by first | rfl | (omega)); exact (hs.cst [(0, rwS l), (5, rwS l), (6, vi (l.length : Int)), (7, vi (((i + 1) : Nat) : Int))] [] (by first | (rw [e0_]; done) | (simp only [e0_]; done) | rfl | (simp only [e0_]; rfl))).rm [] (by kernel_rfl))
  ·skip
   refine wL hs hI [(4, ⟨[(1, ciV 215 [vs (l.getD i (dflt .str))] (vb (textOk (l.getD i (dflt .str)))))], gg [1015] [4, 5, 6, 14], []⟩)] [true, true] 1084144085616856045727618068229865966956525 [ty b1, 0 ≤ (i : Int) ∧ (i : Int) < l.length, ty (ng0 b2), ty (ng0 b2), ty (ng0 b2), ty (ng0 b2), ty (ng0 b2), true = true] .ret [(2, vb false)] [] ⟨⟨⟨ent215, con215 _⟩, tv⟩, tv⟩ ⟨b1, (by omega), (ng0 b2), (ng0 b2), (ng0 b2), (ng0 b2), (ng0 b2), rfl, tv⟩ fun a w hs => ?_
   refine then_ret ?_
   refine inb_ret ?_
   refine then_ret ?_
   exact rK (.val (vb false)) [] hs (by simp only [namesOk]; rw [all_no' (i := i) (by omega) (by simp only [nmOk, b1, b2]; rfl)]; rfl)
 ·skip
  have n1 := of_decide_eq_false b1
  refine wN hs hI [false] 19025 [ty b1] (.exit 0) [(0, rwS l)] [] ⟨b1, tv⟩ fun a w hs => ?_
  refine then_exit ?_
  refine inb_hit ?_
  refine then_norm ?_
  refine wN hs hI [] 10253125 [] .ret [(2, vb (decide ((l.length : Int) ≤ 300)))] [] tv fun a w hs => ?_
  exact rK (.val (vb (decide ((l.length : Int) ≤ 300)))) [] hs (by simp only [namesOk]; rw [all_yes' (fun j hj => hall j (by omega))]; rfl)
def rd (l : List Int) (i : Int) : Int := l.getD i.toNat 0
def trimF (l : List Int) : List Int := (l.reverse.dropWhile (· == 0)).reverse
theorem trimF_nil : trimF [] = [] := rfl
theorem trimF_snoc (l : List Int) (x : Int) : trimF (l ++ [x]) = if x = 0 then trimF l else l ++ [x] := by
 unfold trimF
 by_cases h : x = 0 <;> simp [h]
theorem take_snoc' (l : List Int) (m : Nat) (h : m < l.length) : l.take (m + 1) = l.take m ++ [rd l m] := by
 rw [List.take_succ_eq_append_getElem h]
 simp [rd, h]
theorem getD_rd (l : List Int) (n : Nat) : l.getD n (dflt (.int .u32)) = rd l n := rfl
theorem trimF_zero {l : List Int} {n : Nat} (h : n < l.length) (hz : l.getD n (dflt (.int .u32)) = 0) : trimF (l.take (n + 1)) = trimF (l.take n) := by
 rw [take_snoc' l n h, trimF_snoc, if_pos (by rw [← getD_rd]; exact hz)]
theorem trimF_stop {l : List Int} {n : Nat} (h : n < l.length) (hz : l.getD n (dflt (.int .u32)) ≠ 0) : trimF (l.take (n + 1)) = l.take (n + 1) := by
 rw [take_snoc' l n h, trimF_snoc, if_neg (by rw [← getD_rd]; exact hz)]
def Ok (l : List Int) : Prop := ∀ x ∈ l, 0 ≤ x ∧ x < 4294967296
def val : List Int → Nat
 | [] => 0
 | x :: l => x.toNat + 4294967296 * val l
def lim (n : Nat) : List Int := if n = 0 then [] else ((n % 4294967296 : Nat) : Int) :: lim (n / 4294967296)
termination_by n
decreasing_by omega
theorem Ok.nil : Ok [] := fun x hx => by simp at hx
theorem Ok.cons {x : Int} {l : List Int} (h0 : 0 ≤ x) (h1 : x < 4294967296) (h : Ok l) : Ok (x :: l) := fun y hy => by
 rcases List.mem_cons.1 hy with rfl | hy
 ·exact ⟨h0, h1⟩
 ·exact h y hy
theorem Ok.head {x : Int} {l : List Int} (h : Ok (x :: l)) : 0 ≤ x ∧ x < 4294967296 := h x (by simp)
theorem Ok.tail {x : Int} {l : List Int} (h : Ok (x :: l)) : Ok l := fun y hy => h y (by simp [hy])
theorem Ok.append {a b : List Int} (ha : Ok a) (hb : Ok b) : Ok (a ++ b) := fun x hx => by
 rcases List.mem_append.1 hx with h | h
 ·exact ha x h
 ·exact hb x h
theorem Ok.take {a : List Int} (h : Ok a) (n : Nat) : Ok (a.take n) := fun x hx => h x (List.mem_of_mem_take hx)
theorem Ok.drop {a : List Int} (h : Ok a) (n : Nat) : Ok (a.drop n) := fun x hx => h x (List.mem_of_mem_drop hx)
theorem Ok.set {a : List Int} (h : Ok a) (n : Nat) {x : Int} (h0 : 0 ≤ x) (h1 : x < 4294967296) : Ok (a.set n x) := fun y hy => by
 rcases List.mem_or_eq_of_mem_set hy with hy | rfl
 ·exact h y hy
 ·exact ⟨h0, h1⟩
theorem Ok.rep (n : Nat) : Ok (List.replicate n 0) := fun x hx => by
 obtain rfl := List.eq_of_mem_replicate hx
 omega
theorem Ok.rdk {l : List Int} (h : Ok l) (i : Int) : 0 ≤ rd l i ∧ rd l i < 4294967296 := by
 unfold rd
 rw [List.getD_eq_getElem?_getD]
 rcases Nat.lt_or_ge i.toNat l.length with hi | hi
 ·rw [List.getElem?_eq_getElem hi]
  exact h _ (List.getElem_mem hi)
 ·rw [List.getElem?_eq_none hi]
  simp
theorem lim_zero : lim 0 = [] := by unfold lim; simp
theorem lim_pos {n : Nat} (h : n ≠ 0) : lim n = ((n % 4294967296 : Nat) : Int) :: lim (n / 4294967296) := by rw [lim, if_neg h]
theorem lim_ok (n : Nat) : Ok (lim n) := by
 induction n using Nat.strongRecOn with
 | _ n ih =>
  by_cases h : n = 0
  ·subst h; rw [lim_zero]; exact Ok.nil
  ·rw [lim_pos h]
   exact Ok.cons (by omega) (by omega) (ih _ (by omega))
theorem val_lim (n : Nat) : val (lim n) = n := by
 induction n using Nat.strongRecOn with
 | _ n ih =>
  by_cases h : n = 0
  ·subst h; rw [lim_zero]; rfl
  ·rw [lim_pos h, val, ih _ (by omega)]
   omega
theorem lim_nil_iff (n : Nat) : lim n = [] ↔ n = 0 := by
 constructor
 ·intro h
  have := val_lim n
  rw [h] at this
  exact this.symm
 ·rintro rfl
  exact lim_zero
theorem lim_len_zero (n : Nat) : (lim n).length = 0 ↔ n = 0 := by rw [List.length_eq_zero_iff, lim_nil_iff]
theorem val_append (a b : List Int) : val (a ++ b) = val a + 4294967296 ^ a.length * val b := by
 induction a with
 | nil => simp [val]
 | cons x a ih => simp only [List.cons_append, val, ih, List.length_cons, Nat.pow_succ]; grind
theorem val_lt {l : List Int} (h : Ok l) : val l < 4294967296 ^ l.length := by
 induction l with
 | nil => simp [val]
 | cons x l ih =>
  have := ih h.tail
  have := h.head
  simp only [val, List.length_cons, Nat.pow_succ]
  omega
theorem trim_lim {l : List Int} (h : Ok l) : trimF l = lim (val l) := by
 have key : ∀ (n : Nat) (l : List Int), l.length = n → Ok l → trimF l = lim (val l) := by
  intro n
  induction n with
  | zero =>
   intro l hl _
   obtain rfl := List.eq_nil_of_length_eq_zero hl
   simp [trimF_nil, val, lim_zero]
  | succ n ih =>
   intro l hl hok
   rcases List.eq_nil_or_concat l with rfl | ⟨l', x, rfl⟩
   ·simp at hl
   ·rw [List.concat_eq_append] at hl hok ⊢
    have hx := hok x (by simp)
    have hok' : Ok l' := fun y hy => hok y (by simp [hy])
    rw [trimF_snoc]
    by_cases h0 : x = 0
    ·subst h0
     rw [if_pos rfl, ih l' (by simpa using hl) hok', val_append]
     simp [val]
    ·rw [if_neg h0]
     -- a list with a limb at the top is its own
     have key2 : ∀ (l' : List Int), Ok l' → l' ++ [x] = lim (val (l' ++ [x])) := by
      intro l'
      induction l' with
      | nil =>
       intro _
       have : x.toNat ≠ 0 := by omega
       simp only [List.nil_append, val, Nat.mul_zero, Nat.add_zero]
       rw [lim_pos this, Nat.mod_eq_of_lt (by omega), Nat.div_eq_of_lt (by omega), lim_zero]
       congr 1
       omega
      | cons y l' ih2 =>
       intro hok
       have hy := hok.head
       have ih3 := ih2 hok.tail
       have hv : val (l' ++ [x]) ≠ 0 := by
        intro hz
        rw [hz, lim_zero] at ih3
        simp at ih3
       simp only [List.cons_append, val]
       rw [lim_pos (by omega), show (y.toNat + 4294967296 * val (l' ++ [x])) % 4294967296 = y.toNat by omega, show (y.toNat + 4294967296 * val (l' ++ [x])) / 4294967296 = val (l' ++ [x]) by omega, ← ih3]
       congr 1
       omega
     exact key2 l' hok'
 exact key _ l rfl h
theorem lim_trim (n : Nat) : trimF (lim n) = lim n := by rw [trim_lim (lim_ok n), val_lim]
theorem lim_len_le {n k : Nat} (h : n < 4294967296 ^ k) : (lim n).length ≤ k := by
  induction k generalizing n with
  | zero => have : n = 0 := by omega
            subst this; simp [lim_zero]
  | succ k ih =>
    by_cases h0 : n = 0
    · subst h0; simp [lim_zero]
    · rw [lim_pos h0, List.length_cons]
      have := ih (n := n / 4294967296) (by rw [Nat.pow_succ] at h; omega)
      omega
theorem val_drop {l : List Int} {m : Nat} (h : m < l.length) : val (l.drop m) = (rd l m).toNat + 4294967296 * val (l.drop (m + 1)) := by
 rw [List.drop_eq_getElem_cons h, val]
 congr 2
 simp [rd, h]
theorem val_take_drop (l : List Int) (m : Nat) (h : m ≤ l.length) : val l = val (l.take m) + 4294967296 ^ m * val (l.drop m) := by
 have := val_append (l.take m) (l.drop m)
 rw [List.take_append_drop, List.length_take, Nat.min_eq_left h] at this
 exact this
theorem rd_ge {l : List Int} {i : Int} (h : (l.length : Int) ≤ i) : rd l i = 0 := by
 unfold rd
 rw [List.getD_eq_getElem?_getD, List.getElem?_eq_none (by omega)]
 rfl
def tz (n : Nat) : Nat × Nat := if n = 0 then (0, 0) else if n % 10 = 0 then ((tz (n / 10)).1, (tz (n / 10)).2 + 1) else (n, 0)
termination_by n
decreasing_by all_goals omega
theorem tz_zero : tz 0 = (0, 0) := by rw [tz]; simp
theorem tz_ten {n : Nat} (h : n ≠ 0) (h1 : n % 10 = 0) : tz n = ((tz (n / 10)).1, (tz (n / 10)).2 + 1) := by rw [tz, if_neg h, if_pos h1]
theorem tz_self {n : Nat} (h1 : n % 10 ≠ 0) : tz n = (n, 0) := by rw [tz, if_neg (by omega), if_neg h1]
theorem tz_val (n : Nat) : (tz n).1 * 10 ^ (tz n).2 = n := by
 induction n using Nat.strongRecOn with
 | _ n ih =>
  by_cases h : n = 0
  ·subst h; rw [tz_zero]; rfl
  ·by_cases h1 : n % 10 = 0
   ·rw [tz_ten h h1]
    have := ih (n / 10) (by omega)
    simp only [Nat.pow_succ]
    rw [← Nat.mul_assoc, this]
    omega
   ·rw [tz_self h1]; simp
theorem tz_mod {n : Nat} (h : n ≠ 0) : (tz n).1 % 10 ≠ 0 := by
 induction n using Nat.strongRecOn with
 | _ n ih =>
  by_cases h1 : n % 10 = 0
  ·rw [tz_ten h h1]
   exact ih (n / 10) (by omega) (by omega)
  ·rw [tz_self h1]; exact h1
theorem tz_le (n : Nat) : (tz n).1 ≤ n := by
 have h := tz_val n
 have : 1 ≤ 10 ^ (tz n).2 := Nat.pow_pos (by decide)
 calc (tz n).1 = (tz n).1 * 1 := by rw [Nat.mul_one]
  _ ≤ (tz n).1 * 10 ^ (tz n).2 := Nat.mul_le_mul_left _ this
  _ = n := h
theorem tz_bits (m : Nat) : ∀ n : Nat, n < 2 ^ m → (tz n).2 ≤ m := by
 induction m with
 | zero =>
  intro n h
  obtain rfl : n = 0 := by simpa using h
  rw [tz_zero]; exact Nat.le_refl _
 | succ m ih =>
  intro n h
  by_cases h0 : n = 0
  ·subst h0; rw [tz_zero]; exact Nat.zero_le _
  ·by_cases h1 : n % 10 = 0
   ·rw [tz_ten h0 h1]
    have := ih (n / 10) (by rw [Nat.pow_succ] at h; omega)
    simp only
    omega
   ·rw [tz_self h1]; exact Nat.zero_le _
theorem tz_limbs {n L : Nat} (h : n < 4294967296 ^ L) : (tz n).2 ≤ 32 * L := by
 refine tz_bits _ n ?_
 rw [Nat.pow_mul]
 exact h
theorem con270 (l : List Int) (hl : l.length < 1000000000) : Con Tryz.prog I0 270 [.row (.int .u32) l] (.own 160 (.int .u32) (trimF l)) := by
 refine con_of Tryz.func270 rfl (Nat.le_of_ble_eq_true rfl) stab (fun w0 fz a hI hs => ?_)
 refine wp_seq ?_
 refine wN hs hI [] 25 [] .norm [(0, rwU l)] [] tv fun a w hs => ?_
 refine then_norm ?_
 refine wp_seq ?_
 refine wN hs hI [] 19375 [] .norm [(0, rwU l), (3, vi (l.length : Int))] [] tv fun a w hs => ?_
 refine then_norm ?_
 refine wp_seq ?_
 refine wp_block ?_
 refine loop_L (N := Tryz.f270.ntmps) (w0 := w0) (ow := noO fz) (α := Nat) (fun p => [(0, rwU l), (3, vi (p : Int))]) (fun p => []) (fun p => p ≤ l.length ∧ trimF (l.take p) = trimF l) (fun p => p) l.length ?_ ?_ ?_
 ·exact ⟨Nat.le_refl _, by rw [List.take_length]⟩
 ·exact (hs.cst [(0, rwU l), (3, vi ((l.length : Nat) : Int))] [] rfl).rm [] (by kernel_rfl)
 rintro n hJ a w hs
 obtain ⟨hn, ht⟩ := hJ
 rcases bt (decide ((n : Int) > 0)) with b1 | b1
 ·skip
  have n1 := of_decide_eq_true b1
  rcases bt ((l.getD (((n : Int) - 1).toNat) (dflt (.int .u32))) == 0) with b2 | b2
  ·skip
   have n2 := eq_of_beq b2
   refine wL hs hI [(2, ⟨[], gg [3, 4, 5, 6, 7, 8, 1009] [], []⟩)] [true] 7094803993823006749026000944000 [ty b1, ty b1, ty b1, InR .i64 ((n : Int) - 1), ty b1, 0 ≤ ((n : Int) - 1) ∧ ((n : Int) - 1) < l.length, ty b1, ty b1, ty b1, ty b2, InR .i64 ((n : Int) - 1)] .norm [(0, rwU l), (3, vi ((n : Int) - 1))] [] ⟨tv, tv⟩ ⟨b1, b1, b1, (inR64 (by omega) (by omega)), b1, (by omega), b1, b1, b1, b2, (inR64 (by omega) (by omega)), tv⟩ fun a w hs => ?_
   refine then_norm ⟨n - 1, ⟨by omega, by obtain ⟨m, rfl⟩ : ∃ m, n = m + 1 := ⟨n - 1, by omega⟩; rw [← ht, trimF_zero (n := m) (by omega) (by have h := eq_of_beq b2; rw [← h]; congr 1; omega)]; rfl⟩, by omega, ?_⟩
   (have e0_ : ((n : Int) - 1) = ((((n - 1) : Nat) : Int)) := (by first | rfl | (omega)); exact (hs.cst [(0, rwU l), (3, vi (((n - 1) : Nat) : Int))] [] (by first | (rw [e0_]; done) | (simp only [e0_]; done) | rfl | (simp only [e0_]; rfl))).rm [] (by kernel_rfl))
  ·skip
   have n2 := beq_eq_false_iff_ne.1 b2
   refine wL hs hI [(2, ⟨[], gg [3, 4, 5, 6, 7, 8, 1009] [], []⟩)] [false] 17724232748150698364225250 [ty b1, ty b1, ty b1, InR .i64 ((n : Int) - 1), ty b1, 0 ≤ ((n : Int) - 1) ∧ ((n : Int) - 1) < l.length, ty b1, ty b1, ty b1, ty b2] (.exit 0) [(0, rwU l), (3, vi (n : Int))] [] ⟨tv, tv⟩ ⟨b1, b1, b1, (inR64 (by omega) (by omega)), b1, (by omega), b1, b1, b1, b2, tv⟩ fun a w hs => ?_
   refine then_exit ?_
   refine inb_hit ?_
   refine then_norm ?_
   rcases bt ((n : Int) == 0) with b3 | b3
   ·skip
    have n3 := eq_of_beq b3
    refine wN hs hI [true] 303132000 [ty b3] .ret [(2, nilv)] [] ⟨b3, tv⟩ fun a w hs => ?_
    exact FnQ_cast (out := .own 160 (.int .u32) ([])) (by obtain rfl : n = 0 := (by omega); rw [← ht]; rfl) (ret_ok [] hs (.inr ⟨by kernel_rfl, rfl⟩))
   ·skip
    have n3 := beq_eq_false_iff_ne.1 b3
    refine wN hs hI [false] 29066207981147480944500 [ty b3, (n : Int) = (n : Int) ∧ 0 ≤ (n : Int) ∧ (4 : Nat) * (n : Int) ≤ 281474976710656 ∧ (n : Int) ≤ 9223372036854775807] .ret [(2, .own 7001)] [(7001, .sl 160 (.int .u32) (l.take (List.replicate n (dflt (.int .u32))).length ++ (List.replicate n (dflt (.int .u32))).drop l.length))] ⟨b3, (by omega), tv⟩ fun a w hs => ?_
    exact FnQ_cast (out := .own 160 (.int .u32) (l.take (List.replicate n (dflt (.int .u32))).length ++ (List.replicate n (dflt (.int .u32))).drop l.length)) (by obtain ⟨m, rfl⟩ : ∃ m, n = m + 1 := ⟨n - 1, by omega⟩; rw [← ht, trimF_stop (n := m) (by omega) (by have h := beq_eq_false_iff_ne.1 b2; rwa [show (((m + 1 : Nat) : Int) - 1).toNat = m by omega] at h), List.length_replicate, List.drop_of_length_le (by rw [List.length_replicate]; omega), List.append_nil]) (ret_ok [] hs (.inl ⟨7001, by kernel_rfl, rfl⟩))
 ·skip
  have n1 := of_decide_eq_false b1
  refine wL hs hI [(2, ⟨[], gg [] [3, 4, 5, 6, 7, 8, 1009], []⟩)] [false] 72598457329101500 [ty b1, ty b1, ty b1, ty b1, ty b1, ty b1, ty b1, false = false] (.exit 0) [(0, rwU l), (3, vi (n : Int))] [] ⟨tv, tv⟩ ⟨b1, b1, b1, b1, b1, b1, b1, rfl, tv⟩ fun a w hs => ?_
  refine then_exit ?_
  refine inb_hit ?_
  refine then_norm ?_
  rcases bt ((n : Int) == 0) with b4 | b4
  ·skip
   have n4 := eq_of_beq b4
   refine wN hs hI [true] 303132000 [ty b4] .ret [(2, nilv)] [] ⟨b4, tv⟩ fun a w hs => ?_
   exact FnQ_cast (out := .own 160 (.int .u32) ([])) (by obtain rfl : n = 0 := (by omega); rw [← ht]; rfl) (ret_ok [] hs (.inr ⟨by kernel_rfl, rfl⟩))
  ·skip
   have n4 := beq_eq_false_iff_ne.1 b4
   refine wN hs hI [false] 29066207981147480944500 [ty b4, (n : Int) = (n : Int) ∧ 0 ≤ (n : Int) ∧ (4 : Nat) * (n : Int) ≤ 281474976710656 ∧ (n : Int) ≤ 9223372036854775807] .ret [(2, .own 7001)] [(7001, .sl 160 (.int .u32) (l.take (List.replicate n (dflt (.int .u32))).length ++ (List.replicate n (dflt (.int .u32))).drop l.length))] ⟨b4, (by omega), tv⟩ fun a w hs => ?_
   exact FnQ_cast (out := .own 160 (.int .u32) (l.take (List.replicate n (dflt (.int .u32))).length ++ (List.replicate n (dflt (.int .u32))).drop l.length)) (by exfalso; omega) (ret_ok [] hs (.inl ⟨7001, by kernel_rfl, rfl⟩))
theorem wrapU64 {n : Int} (h0 : 0 ≤ n) (h1 : n < 18446744073709551616) : IntKind.wrap .u64 n = n := by
 simp only [IntKind.wrap, IntKind.bits, IntKind.signed]
 simp; omega
theorem wrapU32 {n : Int} (h0 : 0 ≤ n) (h1 : n < 4294967296) : IntKind.wrap .u32 n = n := by
 simp only [IntKind.wrap, IntKind.bits, IntKind.signed]
 simp; omega
theorem stepX {r x : Int} (r0 : 0 ≤ r) (r1 : r < 4294967296) (x0 : 0 ≤ x) (x1 : x < 4294967296) : bitsOr .u64 (IntKind.wrap .u64 (r * 2 ^ 32)) (IntKind.wrap .u64 x) = r * 4294967296 + x := by
 obtain ⟨r, rfl⟩ : ∃ n : Nat, r = (n : Int) := ⟨r.toNat, by omega⟩
 obtain ⟨x, rfl⟩ : ∃ n : Nat, x = (n : Int) := ⟨x.toNat, by omega⟩
 have e1 : ((r : Int) * 2 ^ 32) = ((r * 4294967296 : Nat) : Int) := by omega
 rw [wrapU64 (by omega) (by omega), wrapU64 (by omega) (by omega), e1]
 unfold bitsOr
 have hb : IntKind.bits .u64 = 64 := rfl
 rw [hb]
 have e2 : (BitVec.ofInt 64 ((r * 4294967296 : Nat) : Int) ||| BitVec.ofInt 64 (x : Int)).toNat = r * 4294967296 + x := by
  rw [BitVec.ofInt_natCast, BitVec.ofInt_natCast, BitVec.toNat_or, BitVec.toNat_ofNat, BitVec.toNat_ofNat, Nat.mod_eq_of_lt (by omega), Nat.mod_eq_of_lt (by omega)]
  have := Nat.shiftLeft_add_eq_or_of_lt (i := 32) (b := x) (by omega) r
  rw [Nat.shiftLeft_eq] at this
  exact this.symm
 rw [e2, wrapU64 (by omega) (by omega)]
 omega
theorem val_set {l : List Int} {m : Nat} {x : Int} (h : m < l.length) : val ((l.set m x).drop m) = x.toNat + 4294967296 * val (l.drop (m + 1)) := by
 rw [List.drop_eq_getElem_cons (by simpa using h), val, List.getElem_set_self, List.drop_set_of_lt (by omega)]
structure SmallJ (a : List Int) (d : Int) (m : Nat) (out : List Int) (r : Int) : Prop where
 le : m ≤ a.length
 len : out.length = a.length
 ok : Ok out
 r0 : 0 ≤ r
 r1 : r < d
 eq : val (a.drop m) = d.toNat * val (out.drop m) + r.toNat
theorem SmallJ.start {a : List Int} {d : Int} (hd : 0 < d) : SmallJ a d a.length (List.replicate a.length (dflt (.int .u32))) 0 := by
 refine ⟨Nat.le_refl _, List.length_replicate, Ok.rep _, Int.le_refl _, hd, ?_⟩
 rw [List.drop_of_length_le (Nat.le_refl _), List.drop_of_length_le (by simp)]
 simp [val]
theorem SmallJ.step {a : List Int} {d : Int} {m : Nat} {out : List Int} {r : Int} (ha : Ok a) (hd : 0 < d) (hd1 : d < 4294967296) (h : SmallJ a d m out r) (hm : (m : Int) - 1 ≥ 0) :
  SmallJ a d (m - 1) (out.set ((m : Int) - 1).toNat (IntKind.wrap .u32 (IntKind.wrap .u64 ((bitsOr .u64 (IntKind.wrap .u64 (r * 2 ^ 32)) (IntKind.wrap .u64 (a.getD ((m : Int) - 1).toNat (dflt (.int .u32))))).tdiv d))))
   ((bitsOr .u64 (IntKind.wrap .u64 (r * 2 ^ 32)) (IntKind.wrap .u64 (a.getD ((m : Int) - 1).toNat (dflt (.int .u32))))).tmod d) := by
 obtain ⟨k, rfl⟩ : ∃ k, m = k + 1 := ⟨m - 1, by omega⟩
 have hk : k < a.length := h.le
 have e1 : (((k + 1 : Nat) : Int) - 1).toNat = k := by omega
 have e2 : k + 1 - 1 = k := rfl
 rw [e1, e2]
 have hx := ha.rdk (k : Int)
 have hxe : a.getD k (dflt (.int .u32)) = rd a k := rfl
 rw [hxe]
 generalize hX : rd a k = x at *
 rw [stepX h.r0 (by have := h.r1; omega) hx.1 hx.2]
 have r0 := h.r0
 have r1 := h.r1
 have hX0 : 0 ≤ r * 4294967296 + x := by omega
 rw [Int.tdiv_eq_ediv_of_nonneg hX0, Int.tmod_eq_emod_of_nonneg hX0]
 have hq : (r * 4294967296 + x) / d < 4294967296 := Int.ediv_lt_of_lt_mul hd (by
  have : r + 1 ≤ d := by omega
  have := Int.mul_le_mul_of_nonneg_right this (show (0 : Int) ≤ 4294967296 by decide)
  rw [Int.mul_comm 4294967296 d]; omega)
 have hq0 : 0 ≤ (r * 4294967296 + x) / d := Int.ediv_nonneg hX0 (by omega)
 rw [wrapU64 hq0 (by omega), wrapU32 hq0 hq]
 refine ⟨by omega, by rw [List.length_set]; exact h.len, h.ok.set _ hq0 hq, Int.emod_nonneg _ (by omega), Int.emod_lt_of_pos _ hd, ?_⟩
 rw [val_set (by rw [h.len]; exact hk), val_drop hk, hX, h.eq]
 have hdm := Int.mul_ediv_add_emod (r * 4294967296 + x) d
 have hm0 := Int.emod_nonneg (r * 4294967296 + x) (show d ≠ 0 by omega)
 obtain ⟨d, rfl⟩ : ∃ n : Nat, d = (n : Int) := ⟨d.toNat, by omega⟩
 obtain ⟨r, rfl⟩ : ∃ n : Nat, r = (n : Int) := ⟨r.toNat, by omega⟩
 obtain ⟨x, rfl⟩ : ∃ n : Nat, x = (n : Int) := ⟨x.toNat, by omega⟩
 simp only [Int.toNat_natCast] at *
 have hc : ((r : Int) * 4294967296 + x) = ((r * 4294967296 + x : Nat) : Int) := by omega
 have e3 : ((r : Int) * 4294967296 + x) / d = ((r * 4294967296 + x) / d : Nat) := by rw [hc]; exact (Int.natCast_ediv _ _).symm
 have e4 : ((r : Int) * 4294967296 + x) % d = ((r * 4294967296 + x) % d : Nat) := by rw [hc]; exact (Int.natCast_emod _ _).symm
 have e5 : (((r : Int) * 4294967296 + x) / d).toNat = (r * 4294967296 + x) / d := by rw [e3]; exact Int.toNat_natCast _
 have e6 : (((r : Int) * 4294967296 + x) % d).toNat = (r * 4294967296 + x) % d := by rw [e4]; exact Int.toNat_natCast _
 rw [e5, e6]
 clear e5 e6 e3 e4 hc
 have hdn := Nat.div_add_mod (r * 4294967296 + x) d
 generalize (r * 4294967296 + x) / d = q at *
 generalize (r * 4294967296 + x) % d = s at *
 generalize val (out.drop (k + 1)) = V at *
 have h9 : d * (q + 4294967296 * V) = d * q + 4294967296 * (d * V) := by rw [Nat.mul_add, Nat.mul_left_comm]
 rw [h9]
 generalize d * V = DV at *
 omega
theorem SmallJ.stop {a : List Int} {d : Int} {out : List Int} {r : Int} (ha : Ok a) (hd : 0 < d) (h : SmallJ a d 0 out r) : trimF out = lim (val a / d.toNat) ∧ r = ((val a % d.toNat : Nat) : Int) := by
 have he := h.eq
 have r0 := h.r0
 have r1 := h.r1
 simp only [List.drop_zero] at he
 rw [trim_lim h.ok]
 have h1 : val a / d.toNat = val out := by
  rw [he, Nat.mul_add_div (by omega), Nat.div_eq_of_lt (by omega), Nat.add_zero]
 have h2 : val a % d.toNat = r.toNat := by
  rw [he, Nat.mul_add_mod, Nat.mod_eq_of_lt (by omega)]
 rw [h1, h2]
 exact ⟨rfl, by omega⟩
theorem con271_10 (l : List Int) (ha : Ok l) (hl : l.length < 1000000000) : Con Tryz.prog I0 271 [.row (.int .u32) l, .lit (.int .u32 10)] (.val (.tup [.row (.int .u32) (lim (val l / 10)), .lit (.int .u32 ((val l % 10 : Nat) : Int))])) := by
 refine con_of Tryz.func271 rfl (Nat.le_of_ble_eq_true rfl) stab (fun w0 fz a hI hs => ?_)
 refine wp_seq ?_
 refine wN hs hI [] 750 [] .norm [(0, rwU l), (1, .lit (.int .u32 10))] [] tv fun a w hs => ?_
 refine then_norm ?_
 refine wp_seq ?_
 refine wN hs hI [] 487550 [(l.length : Int) = (l.length : Int) ∧ 0 ≤ (l.length : Int) ∧ (4 : Nat) * (l.length : Int) ≤ 281474976710656 ∧ (l.length : Int) ≤ 9223372036854775807] .norm [(0, rwU l), (1, .lit (.int .u32 10)), (6, .own 2002)] [(2002, .sl 160 (.int .u32) (List.replicate l.length (dflt (.int .u32))))] ⟨(by omega), tv⟩ fun a w hs => ?_
 refine then_norm ?_
 refine wp_seq ?_
 refine wN hs hI [] 25 [] .norm [(0, rwU l), (1, .lit (.int .u32 10)), (6, .own 2002), (7, .lit (.int .u64 0))] [(2002, .sl 160 (.int .u32) (List.replicate l.length (dflt (.int .u32))))] tv fun a w hs => ?_
 refine then_norm ?_
 refine wp_seq ?_
 refine wp_seq ?_
 refine wN hs hI [] 487550 [InR .i64 ((l.length : Int) - 1)] .norm [(0, rwU l), (1, .lit (.int .u32 10)), (6, .own 2002), (7, .lit (.int .u64 0)), (8, vi ((l.length : Int) - 1))] [(2002, .sl 160 (.int .u32) (List.replicate l.length (dflt (.int .u32))))] ⟨(inR64 (by omega) (by omega)), tv⟩ fun a w hs => ?_
 refine then_norm ?_
 refine wp_block ?_
 refine loop_L (N := Tryz.f271.ntmps) (w0 := w0) (ow := noO fz) (α := Nat × List Int × Int) (fun p => [(0, rwU l), (1, .lit (.int .u32 10)), (6, .own 90000001), (7, .lit (.int .u64 p.2.2)), (8, vi (((p.1 : Nat) : Int) - 1))]) (fun p => [(90000001, .sl 160 (.int .u32) p.2.1)]) (fun p => SmallJ l 10 p.1 p.2.1 p.2.2) (fun p => p.1) (l.length, List.replicate l.length (dflt (.int .u32)), 0) ?_ ?_ ?_
 ·exact SmallJ.start (by decide)
 ·exact (hs.cst [(0, rwU l), (1, .lit (.int .u32 10)), (6, .own 2002), (7, .lit (.int .u64 0)), (8, vi (((l.length : Nat) : Int) - 1))] [(2002, .sl 160 (.int .u32) (List.replicate l.length (dflt (.int .u32))))] rfl).rm [(90000001, 2002)] (by kernel_rfl)
 rintro ⟨m, out, r⟩ hJ a w hs
 try dsimp only at hJ
 have hm := hJ.le
 have hln := hJ.len
 rcases bt (decide (((m : Int) - 1) ≥ 0)) with b1 | b1
 ·skip
  have n1 := of_decide_eq_true b1
  refine wN hs hI [true] 423389838810628482690334203662350769045410632000 [ty b1, 0 ≤ ((m : Int) - 1) ∧ ((m : Int) - 1) < l.length, 0 ≤ ((m : Int) - 1) ∧ ((m : Int) - 1) < out.length, ((m : Int) - 1).toNat < out.length, InR .i64 (((m : Int) - 1) - 1)] .norm [(0, rwU l), (1, .lit (.int .u32 10)), (6, .own 90000001), (7, .lit (.int .u64 ((bitsOr .u64 (IntKind.wrap .u64 (r * 2 ^ 32)) (IntKind.wrap .u64 (l.getD (((m : Int) - 1).toNat) (dflt (.int .u32))))).tmod 10))), (8, vi (((m : Int) - 1) - 1))] [(90000001, .sl 160 (.int .u32) (out.set (((m : Int) - 1).toNat) (IntKind.wrap .u32 (IntKind.wrap .u64 ((bitsOr .u64 (IntKind.wrap .u64 (r * 2 ^ 32)) (IntKind.wrap .u64 (l.getD (((m : Int) - 1).toNat) (dflt (.int .u32))))).tdiv 10)))))] ⟨b1, (by omega), (by omega), (by omega), (inR64 (by omega) (by omega)), tv⟩ fun a w hs => ?_
  refine then_norm ⟨(m - 1, out.set (((m : Int) - 1).toNat) (IntKind.wrap .u32 (IntKind.wrap .u64 ((bitsOr .u64 (IntKind.wrap .u64 (r * 2 ^ 32)) (IntKind.wrap .u64 (l.getD (((m : Int) - 1).toNat) (dflt (.int .u32))))).tdiv 10))), (bitsOr .u64 (IntKind.wrap .u64 (r * 2 ^ 32)) (IntKind.wrap .u64 (l.getD (((m : Int) - 1).toNat) (dflt (.int .u32))))).tmod 10), hJ.step ha (by decide) (by decide) (by omega), by omega, ?_⟩
  (have e0_ : ((bitsOr .u64 (IntKind.wrap .u64 (r * 2 ^ 32)) (IntKind.wrap .u64 (l.getD (((m : Int) - 1).toNat) (dflt (.int .u32))))).tmod 10) = (((bitsOr .u64 (IntKind.wrap .u64 (r * 2 ^ 32)) (IntKind.wrap .u64 (l.getD (((m : Int) - 1).toNat) (dflt (.int .u32))))).tmod 10)) := (by first | rfl | (omega)); have e1_ : (((m : Int) - 1) - 1) = ((((m - 1) : Nat) : Int) - 1) := (by first | rfl | (omega)); have e2_ : (out.set (((m : Int) - 1).toNat) (IntKind.wrap .u32 (IntKind.wrap .u64 ((bitsOr .u64 (IntKind.wrap .u64 (r * 2 ^ 32)) (IntKind.wrap .u64 (l.getD (((m : Int) - 1).toNat) (dflt (.int .u32))))).tdiv 10)))) = ((out.set (((m : Int) - 1).toNat) (IntKind.wrap .u32 (IntKind.wrap .u64 ((bitsOr .u64 (IntKind.wrap .u64 (r * 2 ^ 32)) (IntKind.wrap .u64 (l.getD (((m : Int) - 1).toNat) (dflt (.int .u32))))).tdiv 10))))) := (by first | rfl | (omega)); exact (hs.cst [(0, rwU l), (1, .lit (.int .u32 10)), (6, .own 90000001), (7, .lit (.int .u64 ((bitsOr .u64 (IntKind.wrap .u64 (r * 2 ^ 32)) (IntKind.wrap .u64 (l.getD (((m : Int) - 1).toNat) (dflt (.int .u32))))).tmod 10))), (8, vi ((((m - 1) : Nat) : Int) - 1))] [(90000001, .sl 160 (.int .u32) (out.set (((m : Int) - 1).toNat) (IntKind.wrap .u32 (IntKind.wrap .u64 ((bitsOr .u64 (IntKind.wrap .u64 (r * 2 ^ 32)) (IntKind.wrap .u64 (l.getD (((m : Int) - 1).toNat) (dflt (.int .u32))))).tdiv 10)))))] (by first | (rw [e0_, e1_, e2_]; done) | (simp only [e0_, e1_, e2_]; done) | rfl | (simp only [e0_, e1_, e2_]; rfl))).rm [(90000001, 90000001)] (by kernel_rfl))
 ·skip
  have n1 := of_decide_eq_false b1
  refine wN hs hI [false] 475750 [ty b1] (.exit 0) [(6, .own 90000001), (7, .lit (.int .u64 r))] [(90000001, .sl 160 (.int .u32) out)] ⟨b1, tv⟩ fun a w hs => ?_
  refine then_exit ?_
  refine inb_hit ?_
  refine then_norm ?_
  refine wL hs hI [(9, ⟨[(1, ciA 270 [rwU out] [] [90000001] (.own 160 (.int .u32) (trimF out)))], [], []⟩)] [] 6408671890 [] .ret [(4, .own 10001), (5, .lit (.int .u32 (IntKind.wrap .u32 r)))] [(10001, .sl 160 (.int .u32) (trimF out))] ⟨⟨⟨ent270, con270 _ (by have := hJ.len; omega)⟩, tv⟩, tv⟩ tv fun a w hs => ?_
  exact rK (.val (.tup [rwU (trimF out), .lit (.int .u32 (IntKind.wrap .u32 r))])) [10001] hs (by obtain rfl : m = 0 := (by omega); obtain ⟨h1, h2⟩ := hJ.stop ha (by decide); have r0 := hJ.r0; have r1 := hJ.r1; rw [h1, wrapU32 r0 (by omega), h2]; rfl)
theorem tz_iter {n : Nat} (h0 : n ≠ 0) (h1 : n % 10 = 0) {m c : Nat} (h : tz m = ((tz n).1, c + (tz n).2)) : tz m = ((tz (n / 10)).1, c + 1 + (tz (n / 10)).2) := by
 rw [h, tz_ten h0 h1]; simp only [Prod.mk.injEq, true_and]; omega
theorem tz_end {n : Nat} (h1 : n % 10 ≠ 0 ∨ n = 0) {m c : Nat} (h : tz m = ((tz n).1, c + (tz n).2)) : tz m = (n, c) := by
 rcases h1 with h1 | rfl
 ·rw [h, tz_self h1]; rfl
 ·rw [h, tz_zero]; rfl
theorem lim_len {n : Nat} {l : List Int} (hl : Ok l) (h : n ≤ val l) : (lim n).length ≤ l.length := lim_len_le (Nat.lt_of_le_of_lt h (val_lt hl))
theorem tz_small {l : List Int} (hl : Ok l) (h : l.length < 1000000000) : (tz (val l)).2 ≤ 32000000000 := by
 have := tz_limbs (val_lt hl); omega
theorem last_split {l : List Int} (h : l.length ≠ 0) : l = l.take (l.length - 1) ++ [rd l ((l.length : Int) - 1)] := by
 have h1 := take_snoc' l (l.length - 1) (by omega)
 rw [show l.length - 1 + 1 = l.length by omega, List.take_of_length_le (Nat.le_refl _)] at h1
 rw [show ((l.length : Int) - 1) = ((l.length - 1 : Nat) : Int) by omega]
 exact h1
theorem trim_len (l : List Int) : (trimF l).length ≤ l.length := by
 unfold trimF
 rw [List.length_reverse]
 exact Nat.le_trans (List.dropWhile_sublist _).length_le (by rw [List.length_reverse]; exact Nat.le_refl _)
theorem lim_last {n : Nat} (h : (lim n).length ≠ 0) : rd (lim n) (((lim n).length : Int) - 1) ≠ 0 := by
 intro hz
 have h1 := last_split h
 have h2 := lim_trim n
 generalize lim n = l at *
 rw [hz] at h1
 rw [h1, trimF_snoc, if_pos rfl] at h2
 have h3 := trim_len (l.take (l.length - 1))
 rw [h2, List.length_append] at h3
 simp at h3
 omega
theorem top_lim {l : List Int} (hl : Ok l) (h : l.length ≠ 0) (h0 : rd l ((l.length : Int) - 1) ≠ 0) : l = lim (val l) := by
 have h1 := last_split h
 have h2 := trim_lim hl
 rw [h1, trimF_snoc, if_neg h0, ← h1] at h2
 exact h2
theorem tz_two_zero {n : Nat} (h : n ≠ 0) : (tz n).2 = 0 ↔ n % 10 ≠ 0 := by
 constructor
 ·intro hz hm
  rw [tz_ten h hm] at hz
  simp at hz
 ·intro hm
  rw [tz_self hm]
theorem val_zero_of {l : List Int} (hl : Ok l) (h : l.length ≠ 0) (h0 : rd l ((l.length : Int) - 1) ≠ 0) : val l ≠ 0 := by
 intro hz
 have := top_lim hl h h0
 rw [hz, lim_zero] at this
 rw [this] at h
 exact h rfl
def checkN (n : Num) : Bool :=
 if n.m.length = 0 then (!n.neg && n.e == 0) else if n.m.length > 90 then false else if rd n.m ((n.m.length : Int) - 1) = 0 then false else if n.e < -1200 then false else if n.e > 1200 then false else decide (val n.m % 10 ≠ 0)
theorem tzB {l : List Int} (hl : Ok l) (h : l.length ≠ 0) (h0 : rd l ((l.length : Int) - 1) ≠ 0) : ((((tz (val l)).2 : Nat) : Int) == 0) = decide (val l % 10 ≠ 0) := by
 have := tz_two_zero (val_zero_of hl h h0)
 rw [Bool.eq_iff_iff, beq_iff_eq, decide_eq_true_iff, ← this]; omega
theorem con251 (l : List Int) (ha : Ok l) (hl : l.length < 1000000000) : Con Tryz.prog I0 251 [.row (.int .u32) l] (.val (.tup [.row (.int .u32) (lim (tz (val l)).1), vi (((tz (val l)).2 : Nat) : Int)])) := by
 refine con_of Tryz.func251 rfl (Nat.le_of_ble_eq_true rfl) stab (fun w0 fz a hI hs => ?_)
 refine wp_seq ?_
 refine wN hs hI [] 750 [] .norm [(0, rwU l)] [] tv fun a w hs => ?_
 refine then_norm ?_
 refine wp_scope_straight ?_
 refine wp_seq ?_
 refine wL hs hI [(1, ⟨[(1, ciV 270 [rwU l] (rwU (lim (val l))))], [], []⟩)] [] 19390 [] .norm [(0, rwU (lim (val l)))] [] ⟨⟨⟨ent270, (trim_lim ha ▸ (con270 _ (by omega)).frz)⟩, tv⟩, tv⟩ tv fun a w hs => ?_
 refine then_norm ?_
 refine wp_seq ?_
 refine wN hs hI [] 25 [] .norm [(0, rwU (lim (val l))), (4, vi 0)] [] tv fun a w hs => ?_
 refine then_norm ?_
 refine wp_seq ?_
 refine wN hs hI [] 0 [] .norm [(0, rwU (lim (val l))), (4, vi 0)] [] tv fun a w hs => ?_
 refine then_norm ?_
 refine wp_seq ?_
 refine wp_block ?_
 refine loop_L (N := Tryz.f251.ntmps) (w0 := w0) (ow := noO fz) (α := Nat × Nat) (fun p => [(0, rwU (lim p.1)), (4, vi ((p.2 : Nat) : Int))]) (fun p => []) (fun p => p.1 ≤ val l ∧ tz (val l) = ((tz p.1).1, p.2 + (tz p.1).2)) (fun p => p.1) (val l, 0) ?_ ?_ ?_
 ·exact ⟨Nat.le_refl _, by simp⟩
 ·exact (hs.cst [(0, rwU (lim (val l))), (4, vi ((0 : Nat) : Int))] [] rfl).rm [] (by kernel_rfl)
 rintro ⟨n, c⟩ hJ a w hs
 try dsimp only at hJ
 obtain ⟨hn, hz⟩ := hJ
 have hln := lim_len ha hn
 have htz := tz_small ha hl
 rw [hz] at htz
 have hl0 := lim_len_zero n
 have hvl := val_lim n
 rcases bt (decide (((lim n).length : Int) > 0)) with b1 | b1
 ·skip
  have n1 := of_decide_eq_true b1
  rcases bt (((val (lim n) % 10 : Nat) : Int) != 0) with b2 | b2
  ·skip
   have n2 := bne_iff_ne.1 b2
   refine wL hs hI [(4, ⟨[(1, ciV 271 [rwU (lim n), .lit (.int .u32 10)] (.tup [rwU (lim (val (lim n) / 10)), .lit (.int .u32 ((val (lim n) % 10 : Nat) : Int))]))], [], []⟩)] [true, true] 18171221390361786632988125 [ty b1, ty b2] (.exit 0) [(0, rwU (lim n)), (4, vi (c : Int))] [] ⟨⟨⟨ent271, con271_10 _ (lim_ok n) (by omega)⟩, tv⟩, tv⟩ ⟨b1, b2, tv⟩ fun a w hs => ?_
   refine then_exit ?_
   refine inb_hit ?_
   refine then_norm ?_
   refine wN hs hI [] 10253125 [] .ret [(2, rwU (lim n)), (3, vi (c : Int))] [] tv fun a w hs => ?_
   refine ng_ret ?_
   exact rK (.val (.tup [rwU (lim n), vi (c : Int)])) [] hs (by have h := bne_iff_ne.1 b2; rw [hvl] at h; rw [tz_end (.inl (by omega)) hz])
  ·skip
   have n2 := bne_eq_false_iff_eq.1 b2
   refine wL hs hI [(4, ⟨[(1, ciV 271 [rwU (lim n), .lit (.int .u32 10)] (.tup [rwU (lim (val (lim n) / 10)), .lit (.int .u32 ((val (lim n) % 10 : Nat) : Int))]))], [], []⟩)] [true, false] 111020974510010518506164551525566250 [ty b1, ty b2, InR .i64 ((c : Int) + 1)] .norm [(0, rwU (lim (val (lim n) / 10))), (4, vi ((c : Int) + 1))] [] ⟨⟨⟨ent271, con271_10 _ (lim_ok n) (by omega)⟩, tv⟩, tv⟩ ⟨b1, b2, (inR64 (by omega) (by omega)), tv⟩ fun a w hs => ?_
   refine then_norm ⟨(n / 10, c + 1), ⟨by omega, tz_iter (by omega) (by have h := bne_eq_false_iff_eq.1 b2; rw [hvl] at h; omega) hz⟩, by omega, ?_⟩
   (have e0_ : (lim (val (lim n) / 10)) = (lim (n / 10)) := (by first | rfl | (rw [hvl])); have e1_ : ((c : Int) + 1) = ((((c + 1) : Nat) : Int)) := (by first | rfl | (omega)); exact (hs.cst [(0, rwU (lim (n / 10))), (4, vi (((c + 1) : Nat) : Int))] [] (by first | (rw [e0_, e1_]; done) | (simp only [e0_, e1_]; done) | rfl | (simp only [e0_, e1_]; rfl))).rm [] (by kernel_rfl))
 ·skip
  have n1 := of_decide_eq_false b1
  refine wN hs hI [false] 11894375 [ty b1] (.exit 0) [(0, rwU (lim n)), (4, vi (c : Int))] [] ⟨b1, tv⟩ fun a w hs => ?_
  refine then_exit ?_
  refine inb_hit ?_
  refine then_norm ?_
  refine wN hs hI [] 10253125 [] .ret [(2, rwU (lim n)), (3, vi (c : Int))] [] tv fun a w hs => ?_
  refine ng_ret ?_
  exact rK (.val (.tup [rwU (lim n), vi (c : Int)])) [] hs (by rw [tz_end (.inr (by omega)) hz])
theorem con214 (n : Num) (ha : Ok n.m) (hl : n.m.length < 1000000000) : Con Tryz.prog I0 214 [.agg [vb n.neg, .row (.int .u32) n.m, vi n.e]] (.val (vb (checkN n))) := by
 refine con_of Tryz.func214 rfl (Nat.le_of_ble_eq_true rfl) stab (fun w0 fz a hI hs => ?_)
 rcases bt ((n.m.length : Int) == 0) with b1 | b1
 ·skip
  have n1 := eq_of_beq b1
  rcases bt (n.neg) with b2 | b2
  ·skip
   refine wL hs hI [(3, ⟨[], gg [] [4, 5, 6, 1007], []⟩)] [true] 7103608367983222050477597657000 [ty b1, ty (ng1 b2), ty (ng1 b2), ty (ng1 b2), ty (ng1 b2)] .ret [(2, vb false)] [] ⟨tv, tv⟩ ⟨b1, (ng1 b2), (ng1 b2), (ng1 b2), (ng1 b2), tv⟩ fun a w hs => ?_
   exact rK (.val (vb false)) [] hs (by rw [checkN, if_pos (by omega), b2]; rfl)
  ·skip
   refine wL hs hI [(3, ⟨[], gg [4, 5, 6, 1007] [], []⟩)] [true] 110993880753058086454911042783203875 [ty b1, ty (ng0 b2), ty (ng0 b2), ty (ng0 b2), ty (ng0 b2)] .ret [(2, vb (n.e == 0))] [] ⟨tv, tv⟩ ⟨b1, (ng0 b2), (ng0 b2), (ng0 b2), (ng0 b2), tv⟩ fun a w hs => ?_
   exact rK (.val (vb (n.e == 0))) [] hs (by rw [checkN, if_pos (by omega), b2]; rfl)
 ·skip
  have n1 := beq_eq_false_iff_ne.1 b1
  rcases bt (decide ((n.m.length : Int) > 90)) with b3 | b3
  ·skip
   have n3 := of_decide_eq_true b3
   refine wL hs hI [(4, ⟨[], gg [1010, 1015, 1020] [3, 4, 5, 6, 7, 8, 9, 12, 13, 14, 17, 18, 19], []⟩)] [false, true] 165427259157845465975529460591787937286419679257813250 [ty b1, ty b3, ty b3, ty b3, ty b3, ty b3, ty b3, ty b3, ty b3, true = true, true = true, true = true, true = true, true = true, true = true, true = true, true = true, true = true] .ret [(2, vb false)] [] ⟨tv, tv⟩ ⟨b1, b3, b3, b3, b3, b3, b3, b3, b3, rfl, rfl, rfl, rfl, rfl, rfl, rfl, rfl, rfl, tv⟩ fun a w hs => ?_
   exact rK (.val (vb false)) [] hs (by rw [checkN, if_neg (by omega), if_pos (by omega)])
  ·skip
   have n3 := of_decide_eq_false b3
   rcases bt ((n.m.getD (((n.m.length : Int) - 1).toNat) (dflt (.int .u32))) == 0) with b4 | b4
   ·skip
    have n4 := eq_of_beq b4
    refine wL hs hI [(4, ⟨[], gg [3, 4, 5, 6, 7, 8, 9, 1015, 1020] [1010, 12, 13, 14, 17, 18, 19], []⟩)] [false, true] 1009687861070834142917075973100153779196252192559761811826172625 [ty b1, ty b3, ty b3, ty b3, ty b3, InR .i64 ((n.m.length : Int) - 1), ty b3, 0 ≤ ((n.m.length : Int) - 1) ∧ ((n.m.length : Int) - 1) < n.m.length, ty b3, ty b3, ty b3, ty b4, ty b4, ty b4, ty b4, true = true, true = true, true = true, true = true, true = true] .ret [(2, vb false)] [] ⟨tv, tv⟩ ⟨b1, b3, b3, b3, b3, (inR64 (by omega) (by omega)), b3, (by omega), b3, b3, b3, b4, b4, b4, b4, rfl, rfl, rfl, rfl, rfl, tv⟩ fun a w hs => ?_
    exact rK (.val (vb false)) [] hs (by rw [checkN, if_neg (by omega), if_neg (by omega), if_pos (show rd n.m _ = 0 from eq_of_beq b4)])
   ·skip
    have n4 := beq_eq_false_iff_ne.1 b4
    rcases bt (decide (n.e < (-1200))) with b5 | b5
    ·skip
     have n5 := of_decide_eq_true b5
     refine wL hs hI [(4, ⟨[], gg [3, 4, 5, 6, 7, 8, 9, 12, 13, 14, 1020] [1010, 1015, 17, 18, 19], []⟩)] [false, true] 15776372829231783483079312084856845229315549649375680012513730469500 [ty b1, ty b3, ty b3, ty b3, ty b3, InR .i64 ((n.m.length : Int) - 1), ty b3, 0 ≤ ((n.m.length : Int) - 1) ∧ ((n.m.length : Int) - 1) < n.m.length, ty b3, ty b3, ty b3, ty b4, ty b4, ty b4, ty b4, ty b5, ty b5, ty b5, ty b5, true = true] .ret [(2, vb false)] [] ⟨tv, tv⟩ ⟨b1, b3, b3, b3, b3, (inR64 (by omega) (by omega)), b3, (by omega), b3, b3, b3, b4, b4, b4, b4, b5, b5, b5, b5, rfl, tv⟩ fun a w hs => ?_
     exact rK (.val (vb false)) [] hs (by rw [checkN, if_neg (by omega), if_neg (by omega), if_neg (show ¬ rd n.m _ = 0 from beq_eq_false_iff_ne.1 b4), if_pos (by omega)])
    ·skip
     have n5 := of_decide_eq_false b5
     rcases bt (decide (n.e > 1200)) with b6 | b6
     ·skip
      have n6 := of_decide_eq_true b6
      refine wL hs hI [(4, ⟨[], gg [3, 4, 5, 6, 7, 8, 9, 12, 13, 14, 17, 18, 19] [1010, 1015, 1020], []⟩)] [false, true] 246505825456746616923114251326533523841118740929222743216080476376953875 [ty b1, ty b3, ty b3, ty b3, ty b3, InR .i64 ((n.m.length : Int) - 1), ty b3, 0 ≤ ((n.m.length : Int) - 1) ∧ ((n.m.length : Int) - 1) < n.m.length, ty b3, ty b3, ty b3, ty b4, ty b4, ty b4, ty b4, ty b5, ty b5, ty b5, ty b5, ty b6] .ret [(2, vb false)] [] ⟨tv, tv⟩ ⟨b1, b3, b3, b3, b3, (inR64 (by omega) (by omega)), b3, (by omega), b3, b3, b3, b4, b4, b4, b4, b5, b5, b5, b5, b6, tv⟩ fun a w hs => ?_
      exact rK (.val (vb false)) [] hs (by rw [checkN, if_neg (by omega), if_neg (by omega), if_neg (show ¬ rd n.m _ = 0 from beq_eq_false_iff_ne.1 b4), if_neg (by omega), if_pos (by omega)])
     ·skip
      have n6 := of_decide_eq_false b6
      refine wL hs hI [(6, ⟨[(2, ciV 251 [rwU n.m] (.tup [rwU (lim (tz (val n.m)).1), vi (((tz (val n.m)).2 : Nat) : Int)]))], [], []⟩), (4, ⟨[], gg [3, 4, 5, 6, 7, 8, 9, 12, 13, 14, 17, 18, 19] [1010, 1015, 1020], []⟩)] [false, false] 14692925566668704801534027051606127322233637813797662204547596811598244312329103085938250 [ty b1, ty b3, ty b3, ty b3, ty b3, InR .i64 ((n.m.length : Int) - 1), ty b3, 0 ≤ ((n.m.length : Int) - 1) ∧ ((n.m.length : Int) - 1) < n.m.length, ty b3, ty b3, ty b3, ty b4, ty b4, ty b4, ty b4, ty b5, ty b5, ty b5, ty b5, ty b6] .ret [(2, vb ((((tz (val n.m)).2 : Nat) : Int) == 0))] [] ⟨⟨⟨ent251, con251 _ ha (by omega)⟩, tv⟩, tv, tv⟩ ⟨b1, b3, b3, b3, b3, (inR64 (by omega) (by omega)), b3, (by omega), b3, b3, b3, b4, b4, b4, b4, b5, b5, b5, b5, b6, tv⟩ fun a w hs => ?_
      exact rK (.val (vb ((((tz (val n.m)).2 : Nat) : Int) == 0))) [] hs (by rw [checkN, if_neg (by omega), if_neg (by omega), if_neg (show ¬ rd n.m _ = 0 from beq_eq_false_iff_ne.1 b4), if_neg (by omega), if_neg (by omega), tzB ha (by omega) (show ¬ rd n.m _ = 0 from beq_eq_false_iff_ne.1 b4)])
end Go.Proofs.YtondpnipoogoiaaGreatDoor.F
