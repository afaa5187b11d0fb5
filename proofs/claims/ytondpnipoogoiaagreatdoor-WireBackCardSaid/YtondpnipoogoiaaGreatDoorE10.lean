import Derived.Test.YtondpnipoogoiaaGreatDoorE9
import Derived.Test.YtondpnipoogoiaaGreatDoorE8
set_option maxRecDepth 100000
set_option linter.unusedVariables false
set_option linter.unusedSimpArgs false
namespace Go.Proofs.YtondpnipoogoiaaGreatDoor.F
open Go Go.RowKit Go.Proofs.Tryz
def digB (s : ByteArray) (i : Nat) : Bool := !decide (byteAt s (i : Int) < 48) && !decide (byteAt s (i : Int) > 57)
def numTo (s : ByteArray) : Nat → Int
 | 0 => 0
 | i + 1 => 10 * numTo s i + IntKind.wrap .u8 (byteAt s (i : Int) - 48)
def badIx (s : ByteArray) : Bool := (decide ((s.size : Int) < 1) || decide ((s.size : Int) > 4)) || (byteAt s 0 == 48 && decide ((s.size : Int) > 1))
def indexF (s : ByteArray) (m : Int) : Int × Bool :=
 if badIx s = true then (0, false) else if (List.range s.size).all (digB s) = true then (if numTo s s.size > m then (0, false) else (numTo s s.size, true)) else (0, false)
theorem wrap8_in (n : Int) : 0 ≤ IntKind.wrap .u8 n ∧ IntKind.wrap .u8 n ≤ 255 := by
 simp only [IntKind.wrap, IntKind.bits, IntKind.signed]
 simp; omega
theorem numTo_lo (s : ByteArray) : ∀ i, 0 ≤ numTo s i
 | 0 => Int.le_refl _
 | i + 1 => by
  have h := numTo_lo s i
  have h2 := wrap8_in (byteAt s (i : Int) - 48)
  simp only [numTo]; omega
theorem numTo_hi (s : ByteArray) {i : Nat} (h : i ≤ 4) : numTo s i ≤ 283305 := by
 have w0 := wrap8_in (byteAt s ((0 : Nat) : Int) - 48)
 have w1 := wrap8_in (byteAt s ((1 : Nat) : Int) - 48)
 have w2 := wrap8_in (byteAt s ((2 : Nat) : Int) - 48)
 have w3 := wrap8_in (byteAt s ((3 : Nat) : Int) - 48)
 rcases i with _ | _ | _ | _ | _ | i
 simp only [numTo]; omega
 simp only [numTo]; omega
 simp only [numTo]; omega
 simp only [numTo]; omega
 simp only [numTo]; omega
 omega
theorem index_bad {s : ByteArray} {m : Int} (h : badIx s = true) : indexF s m = (0, false) := if_pos h
theorem index_sign {s : ByteArray} {m : Int} {i : Nat} (h : badIx s = false) (hi : i < s.size) (hd : digB s i = false) : indexF s m = (0, false) := by
 unfold indexF
 rw [if_neg (by rw [h]; decide), if_neg (by rw [all_no' (i := i) hi hd]; decide)]
theorem index_more {s : ByteArray} {m : Int} (h : badIx s = false) (hd : ∀ j, j < s.size → digB s j = true) (hm : numTo s s.size > m) : indexF s m = (0, false) := by
 unfold indexF
 rw [if_neg (by rw [h]; decide), if_pos (all_yes' hd), if_pos hm]
theorem index_is {s : ByteArray} {m : Int} (h : badIx s = false) (hd : ∀ j, j < s.size → digB s j = true) (hm : ¬ numTo s s.size > m) : indexF s m = (numTo s s.size, true) := by
 unfold indexF
 rw [if_neg (by rw [h]; decide), if_pos (all_yes' hd), if_neg hm]
theorem index_in {s : ByteArray} {m : Int} (h : (indexF s m).2 = true) : 0 ≤ (indexF s m).1 ∧ (indexF s m).1 ≤ m := by
 unfold indexF at h ⊢
 split at h
 cases h
 rename_i h1
 rw [if_neg h1]
 split at h
 rename_i h2
 rw [if_pos h2]
 split at h
 cases h
 rename_i h3
 rw [if_neg h3]
 exact ⟨numTo_lo s _, by show numTo s s.size ≤ m; omega⟩
 cases h
def childF (t : Tree) (x : ByteArray) : Tree × Bool :=
 if (t.kind == 6) = true then (if (indexF x ((t.v.length : Int) - 1)).2 = true then (t.v.getD (indexF x ((t.v.length : Int) - 1)).1.toNat (dflt .tree), true) else (memV t x, memB t x)) else (memV t x, memB t x)
theorem child_nodes (t : Tree) (x : ByteArray) : nodes (childF t x).1 ≤ nodes t := by
 unfold childF
 split
 split
 rename_i h
 have h1 := index_in h
 have h2 := nodes_at (l := t.v) (i := (indexF x ((t.v.length : Int) - 1)).1.toNat) (by omega)
 have h3 := nodes_eq t
 show nodes (t.v.getD _ _) ≤ _; omega
 exact memV_nodes' t x
 exact memV_nodes' t x
def getR : List ByteArray → Tree → Tree × Bool
 | [], t => (t, true)
 | x :: p, t => if (childF t x).2 = true then getR p (childF t x).1 else (Tree.zero, false)
theorem getR_yes {p : List ByteArray} {i : Nat} {u : Tree} (h : i < p.length) (hb : (childF u (p.getD i (dflt .str))).2 = true) : getR (p.drop i) u = getR (p.drop (i + 1)) (childF u (p.getD i (dflt .str))).1 := by
 rw [List.drop_eq_getElem_cons h, getR]
 have e : p.getD i (dflt .str) = p[i] := by rw [List.getD_eq_getElem?_getD, List.getElem?_eq_getElem h]; rfl
 rw [e] at hb ⊢
 rw [if_pos hb]
theorem getR_no {p : List ByteArray} {i : Nat} {u : Tree} (h : i < p.length) (hb : (childF u (p.getD i (dflt .str))).2 = false) : getR (p.drop i) u = (Tree.zero, false) := by
 rw [List.drop_eq_getElem_cons h, getR]
 have e : p.getD i (dflt .str) = p[i] := by rw [List.getD_eq_getElem?_getD, List.getElem?_eq_getElem h]; rfl
 rw [e] at hb
 rw [if_neg (by rw [hb]; decide)]
theorem getR_nodes : ∀ (p : List ByteArray) (t : Tree), nodes (getR p t).1 ≤ nodes t
 | [], t => Nat.le_refl _
 | x :: p, t => by
  rw [getR]
  split
  exact Nat.le_trans (getR_nodes p _) (child_nodes t x)
  show nodes Tree.zero ≤ _
  have := nodes_eq t
  have h : nodes Tree.zero = 1 := by simp [Tree.zero, nodes, nodesL]
  omega
def withV (t : Tree) (l : List Tree) : Tree := .mk t.kind t.b t.n t.s t.k l
def putR : List ByteArray → Tree → Tree → Tree × Bool
  | [], _, v => (v, true)
  | x :: p, t, v =>
    if (childF t x).2 = true then
      (if (putR p (childF t x).1 v).2 = true then
        (if (t.kind == 7) = true then (setT t x (putR p (childF t x).1 v).1, true)
         else (withV t (t.v.set (indexF x ((t.v.length : Int) - 1)).1.toNat (putR p (childF t x).1 v).1), true))
       else (Tree.zero, false))
    else (Tree.zero, false)
theorem putR_at {q : List ByteArray} {t v : Tree} (h : 0 < q.length) : putR q t v =
    if (childF t (q.getD 0 (dflt .str))).2 = true then
      (if (putR (q.drop 1) (childF t (q.getD 0 (dflt .str))).1 v).2 = true then
        (if (t.kind == 7) = true then (setT t (q.getD 0 (dflt .str)) (putR (q.drop 1) (childF t (q.getD 0 (dflt .str))).1 v).1, true)
         else (withV t (t.v.set (indexF (q.getD 0 (dflt .str)) ((t.v.length : Int) - 1)).1.toNat (putR (q.drop 1) (childF t (q.getD 0 (dflt .str))).1 v).1), true))
       else (Tree.zero, false))
    else (Tree.zero, false) := by
  cases q with
  | nil => simp at h
  | cons x q => rfl
theorem child_six {t : Tree} {x : ByteArray} (h : (childF t x).2 = true) (h7 : ¬ t.kind = 7) : t.kind = 6 ∧ (indexF x ((t.v.length : Int) - 1)).2 = true := by
 have hm : memB t x = false := by
  cases hb : memB t x with
  | false => rfl
  | true => exact absurd (mem_kind hb) h7
 unfold childF at h
 split at h
 rename_i h6
 split at h
 rename_i hi; exact ⟨eq_of_beq h6, hi⟩
 rw [hm] at h; cases h
 rw [hm] at h; cases h
theorem con176 (s : ByteArray) (m : Int) : Con Tryz.prog I0 176 [vs s, vi m] (.val (.tup [vi ((indexF s m).1), vb ((indexF s m).2)])) := by
 refine con_of Tryz.func176 rfl (Nat.le_of_ble_eq_true rfl) stab (fun w0 fz a hI hs => ?_)
 refine wNs hs hI [] 8 [] [(0, vs s), (1, vi m)] [] fun a w hs => ?_
 refine wp_seq ?_
 rcases bd ((s.size : Int) < 1) with ⟨b1, n1⟩ | ⟨b1, n1⟩
 refine wL hs hI [(1, rg [] [1007, 1017] [4, 5, 6, 9, 10, 11, 12, 16])] (bz 1 1) 1907966667307333733318 [q1 b1, q1 b1, q1 b1, q1 b1, q0 true, q0 true, q0 true, q0 true, q0 true, q0 true, q0 true] .ret [(4, vi 0), (5, vb false)] [] tv fun a w hs => ?_
 refine then_ret ?_
 exact rK (.val (.tup [vi 0, vb false])) [] hs (by rw [index_bad (by simp only [badIx, b1]; first | done | rfl)])
 rcases bd ((s.size : Int) > 4) with ⟨b2, n2⟩ | ⟨b2, n2⟩
 refine wL hs hI [(1, rg [] [4, 5, 6, 1017] [1007, 9, 10, 11, 12, 16])] (bz 1 1) 19072666667307333777718 [q1 b1, q1 b1, q1 b1, q1 b1, q1 b2, q1 b2, q1 b2, q1 b2, q1 b2, q1 b2, q0 true] .ret [(4, vi 0), (5, vb false)] [] tv fun a w hs => ?_
 refine then_ret ?_
 exact rK (.val (.tup [vi 0, vb false])) [] hs (by rw [index_bad (by simp only [badIx, b1, b2]; first | done | rfl)])
 rcases bq (byteAt s 0) (48) with ⟨b3, n3⟩ | ⟨b3, n3⟩
 rcases bd ((s.size : Int) > 1) with ⟨b4, n4⟩ | ⟨b4, n4⟩
 refine wL hs hI [(1, rg [] [4, 5, 6, 9, 10, 11, 12, 13, 14, 15, 16, 1016] [1007, 1017])] (bz 1 1) 19072666666673377777337777718 [q1 b1, q1 b1, q1 b1, q1 b1, q1 b2, q1 b2, q4 (0 : Int) s.size, q1 b2, q1 b2, q1 b3, q1 b3, q1 b3, q1 b2, q1 b3, q1 b2, q1 b4] .ret [(4, vi 0), (5, vb false)] [] tv fun a w hs => ?_
 refine then_ret ?_
 exact rK (.val (.tup [vi 0, vb false])) [] hs (by rw [index_bad (by simp only [badIx, b1, b2, b3, b4]; first | done | rfl)])
 refine wL hs hI [(1, rg [] [4, 5, 6, 9, 10, 11, 12, 13, 14, 15, 16, 1016] [1007, 1017])] (bz 1 0) 72666666673377777337777718 [q1 b1, q1 b1, q1 b1, q1 b1, q1 b2, q1 b2, q4 (0 : Int) s.size, q1 b2, q1 b2, q1 b3, q1 b3, q1 b3, q1 b2, q1 b3, q1 b2, q1 b4] .norm [(0, vs s), (1, vi m)] [] tv fun a w hs => ?_
 refine then_norm ?_
 refine wNs hs hI [] 11 [] [(0, vs s), (1, vi m), (6, vi 0)] [] fun a w hs => ?_
 refine wp_seq ?_
 refine wNs hs hI [] 11 [] [(0, vs s), (1, vi m), (6, vi 0), (7, vi 0)] [] fun a w hs => ?_
 refine wp_block ?_
 have hbad : badIx s = false := by simp only [badIx, b1, b2, b3, b4]; first | done | rfl
 refine loop_L (N := Tryz.f176.ntmps) (w0 := w0) (ow := noO fz) (α := Nat) (fun p => [(0, vs s), (1, vi m), (6, vi (numTo s p)), (7, vi (p : Int))]) (fun p => []) (fun p => p ≤ s.size ∧ ∀ j, j < p → digB s j = true) (fun p => s.size - p) 0 ?_ ?_ ?_
 exact ⟨Nat.zero_le _, fun j hj => absurd hj (Nat.not_lt_zero _)⟩
 exact (hs.cst [(0, vs s), (1, vi m), (6, vi (numTo s 0)), (7, vi ((0 : Nat) : Int))] [] rfl).rk []
 rintro i hJ a w hs
 obtain ⟨hi, hall⟩ := hJ
 have hn0 := numTo_lo s i
 have hn1 := numTo_hi s (i := i) (by omega)
 have hw8 := wrap8_in (byteAt s (i : Int) - 48)
 rcases bd ((i : Int) < (s.size : Int)) with ⟨b5, n5⟩ | ⟨b5, n5⟩
 rcases bd ((byteAt s (i : Int)) < 48) with ⟨b6, n6⟩ | ⟨b6, n6⟩
 refine wL hs hI [(7, rg [] [1009] [5, 6, 7, 8])] (bz 2 3) 19079667333317097608 [q1 b5, q4 (i : Int) s.size, q1 b6, q1 b6, q1 b6, q1 b6, q1 b6, q0 true] .ret [(4, vi 0), (5, vb false)] [] tv fun a w hs => ?_
 refine then_ret ?_
 refine inb_ret ?_
 refine then_ret ?_
 exact rK (.val (.tup [vi 0, vb false])) [] hs (by rw [index_sign (i := i) hbad (by omega) (by simp only [digB, b6]; first | done | rfl)])
 rcases bd ((byteAt s (i : Int)) > 57) with ⟨b7, n7⟩ | ⟨b7, n7⟩
 refine wL hs hI [(7, rg [] [5, 6, 7, 8] [1009])] (bz 2 3) 1907966677337717097608 [q1 b5, q4 (i : Int) s.size, q1 b6, q1 b6, q1 b6, q4 (i : Int) s.size, q1 b6, q1 b6, q1 b7] .ret [(4, vi 0), (5, vb false)] [] tv fun a w hs => ?_
 refine then_ret ?_
 refine inb_ret ?_
 refine then_ret ?_
 exact rK (.val (.tup [vi 0, vb false])) [] hs (by rw [index_sign (i := i) hbad (by omega) (by simp only [digB, b6, b7]; first | done | rfl)])
 refine wL hs hI [(7, rg [] [5, 6, 7, 8] [1009])] (bz 2 1) 171966173717197966677337717097608 [q1 b5, q4 (i : Int) s.size, q1 b6, q1 b6, q1 b6, q4 (i : Int) s.size, q1 b6, q1 b6, q1 b7, q3 (10 * (numTo s i)), q4 (i : Int) s.size, q3 (IntKind.wrap .u8 ((byteAt s (i : Int)) - 48)), q3 ((10 * (numTo s i)) + (IntKind.wrap .u8 ((byteAt s (i : Int)) - 48))), q3 ((i : Int) + 1)] .norm [(0, vs s), (1, vi m), (6, vi ((10 * (numTo s i)) + (IntKind.wrap .u8 ((byteAt s (i : Int)) - 48)))), (7, vi ((i : Int) + 1))] [] tv fun a w hs => ?_
 refine then_norm ⟨i + 1, ⟨by omega, fun j hj => by rcases Nat.lt_succ_iff_lt_or_eq.1 hj with h | h; exact hall j h; subst h; simp only [digB, b6, b7]; first | done | rfl⟩, by omega, ?_⟩
 (have e1_ : ((i : Int) + 1) = ((((i + 1) : Nat) : Int)) := (by first | rfl | (omega)); exact (hs.cst [(0, vs s), (1, vi m), (6, vi (numTo s (i + 1))), (7, vi (((i + 1) : Nat) : Int))] [] (by first | (rw [e1_]; done) | (simp only [e1_]; done) | rfl | (simp only [e1_]; rfl))).rk [])
 refine wN hs hI (bz 1 0) 7608 [q1 b5] (.exit 0) [(1, vi m), (6, vi (numTo s i))] [] fun a w hs => ?_
 refine then_exit ?_
 refine inb_hit ?_
 refine then_norm ?_
 rcases bd ((numTo s i) > m) with ⟨b8, n8⟩ | ⟨b8, n8⟩
 refine wN hs hI (bz 1 1) 19072918 [q1 b8] .ret [(4, vi 0), (5, vb false)] [] fun a w hs => ?_
 exact rK (.val (.tup [vi 0, vb false])) [] hs (by obtain rfl : i = s.size := (by omega); rw [index_more hbad (fun j hj => hall j hj) (of_decide_eq_true b8)])
 refine wN hs hI (bz 1 0) 12918972918 [q1 b8] .ret [(4, vi (numTo s i)), (5, vb true)] [] fun a w hs => ?_
 exact rK (.val (.tup [vi (numTo s i), vb true])) [] hs (by obtain rfl : i = s.size := (by omega); rw [index_is hbad (fun j hj => hall j hj) (of_decide_eq_false b8)])
 refine wL hs hI [(1, rg [] [4, 5, 6, 9, 10, 11, 12, 16] [1007, 13, 14, 15, 1016, 1017])] (bz 1 0) 7966666673333377337777718 [q1 b1, q1 b1, q1 b1, q1 b1, q1 b2, q1 b2, q4 (0 : Int) s.size, q1 b2, q1 b2, q1 b3, q1 b3, q1 b3, q1 b2, q1 b3, q1 b2, q0 false] .norm [(0, vs s), (1, vi m)] [] tv fun a w hs => ?_
 refine then_norm ?_
 refine wNs hs hI [] 11 [] [(0, vs s), (1, vi m), (6, vi 0)] [] fun a w hs => ?_
 refine wp_seq ?_
 refine wNs hs hI [] 11 [] [(0, vs s), (1, vi m), (6, vi 0), (7, vi 0)] [] fun a w hs => ?_
 refine wp_block ?_
 have hbad : badIx s = false := by simp only [badIx, b1, b2, b3]; first | done | rfl
 refine loop_L (N := Tryz.f176.ntmps) (w0 := w0) (ow := noO fz) (α := Nat) (fun p => [(0, vs s), (1, vi m), (6, vi (numTo s p)), (7, vi (p : Int))]) (fun p => []) (fun p => p ≤ s.size ∧ ∀ j, j < p → digB s j = true) (fun p => s.size - p) 0 ?_ ?_ ?_
 exact ⟨Nat.zero_le _, fun j hj => absurd hj (Nat.not_lt_zero _)⟩
 exact (hs.cst [(0, vs s), (1, vi m), (6, vi (numTo s 0)), (7, vi ((0 : Nat) : Int))] [] rfl).rk []
 rintro i hJ a w hs
 obtain ⟨hi, hall⟩ := hJ
 have hn0 := numTo_lo s i
 have hn1 := numTo_hi s (i := i) (by omega)
 have hw8 := wrap8_in (byteAt s (i : Int) - 48)
 rcases bd ((i : Int) < (s.size : Int)) with ⟨b9, n9⟩ | ⟨b9, n9⟩
 rcases bd ((byteAt s (i : Int)) < 48) with ⟨b10, n10⟩ | ⟨b10, n10⟩
 refine wL hs hI [(7, rg [] [1009] [5, 6, 7, 8])] (bz 2 3) 19079667333317097608 [q1 b9, q4 (i : Int) s.size, q1 b10, q1 b10, q1 b10, q1 b10, q1 b10, q0 true] .ret [(4, vi 0), (5, vb false)] [] tv fun a w hs => ?_
 refine then_ret ?_
 refine inb_ret ?_
 refine then_ret ?_
 exact rK (.val (.tup [vi 0, vb false])) [] hs (by rw [index_sign (i := i) hbad (by omega) (by simp only [digB, b10]; first | done | rfl)])
 rcases bd ((byteAt s (i : Int)) > 57) with ⟨b11, n11⟩ | ⟨b11, n11⟩
 refine wL hs hI [(7, rg [] [5, 6, 7, 8] [1009])] (bz 2 3) 1907966677337717097608 [q1 b9, q4 (i : Int) s.size, q1 b10, q1 b10, q1 b10, q4 (i : Int) s.size, q1 b10, q1 b10, q1 b11] .ret [(4, vi 0), (5, vb false)] [] tv fun a w hs => ?_
 refine then_ret ?_
 refine inb_ret ?_
 refine then_ret ?_
 exact rK (.val (.tup [vi 0, vb false])) [] hs (by rw [index_sign (i := i) hbad (by omega) (by simp only [digB, b10, b11]; first | done | rfl)])
 refine wL hs hI [(7, rg [] [5, 6, 7, 8] [1009])] (bz 2 1) 171966173717197966677337717097608 [q1 b9, q4 (i : Int) s.size, q1 b10, q1 b10, q1 b10, q4 (i : Int) s.size, q1 b10, q1 b10, q1 b11, q3 (10 * (numTo s i)), q4 (i : Int) s.size, q3 (IntKind.wrap .u8 ((byteAt s (i : Int)) - 48)), q3 ((10 * (numTo s i)) + (IntKind.wrap .u8 ((byteAt s (i : Int)) - 48))), q3 ((i : Int) + 1)] .norm [(0, vs s), (1, vi m), (6, vi ((10 * (numTo s i)) + (IntKind.wrap .u8 ((byteAt s (i : Int)) - 48)))), (7, vi ((i : Int) + 1))] [] tv fun a w hs => ?_
 refine then_norm ⟨i + 1, ⟨by omega, fun j hj => by rcases Nat.lt_succ_iff_lt_or_eq.1 hj with h | h; exact hall j h; subst h; simp only [digB, b10, b11]; first | done | rfl⟩, by omega, ?_⟩
 (have e1_ : ((i : Int) + 1) = ((((i + 1) : Nat) : Int)) := (by first | rfl | (omega)); exact (hs.cst [(0, vs s), (1, vi m), (6, vi (numTo s (i + 1))), (7, vi (((i + 1) : Nat) : Int))] [] (by first | (rw [e1_]; done) | (simp only [e1_]; done) | rfl | (simp only [e1_]; rfl))).rk [])
 refine wN hs hI (bz 1 0) 7608 [q1 b9] (.exit 0) [(1, vi m), (6, vi (numTo s i))] [] fun a w hs => ?_
 refine then_exit ?_
 refine inb_hit ?_
 refine then_norm ?_
 rcases bd ((numTo s i) > m) with ⟨b12, n12⟩ | ⟨b12, n12⟩
 refine wN hs hI (bz 1 1) 19072918 [q1 b12] .ret [(4, vi 0), (5, vb false)] [] fun a w hs => ?_
 exact rK (.val (.tup [vi 0, vb false])) [] hs (by obtain rfl : i = s.size := (by omega); rw [index_more hbad (fun j hj => hall j hj) (of_decide_eq_true b12)])
 refine wN hs hI (bz 1 0) 12918972918 [q1 b12] .ret [(4, vi (numTo s i)), (5, vb true)] [] fun a w hs => ?_
 exact rK (.val (.tup [vi (numTo s i), vb true])) [] hs (by obtain rfl : i = s.size := (by omega); rw [index_is hbad (fun j hj => hall j hj) (of_decide_eq_false b12)])
theorem con125 (t : Tree) (x : ByteArray) (hv : t.v.length < 100000000) : Con Tryz.prog I0 125 [.agg (encTree t), vs x] (.val (.tup [.agg (encTree ((childF t x).1)), vb ((childF t x).2)])) := by
 refine con_of Tryz.func125 rfl (Nat.le_of_ble_eq_true rfl) stab (fun w0 fz a hI hs => ?_)
 rcases bq (t.kind) (6) with ⟨b1, n1⟩ | ⟨b1, n1⟩
 rcases bt ((indexF x ((t.v.length : Int) - 1)).2) with b2 | b2
 have hix := index_in (by assumption : (indexF x ((t.v.length : Int) - 1)).2 = true)
 refine wL hs hI [(2, rc [(5, ciV 176 [vs x, vi ((t.v.length : Int) - 1)] (.tup [vi ((indexF x ((t.v.length : Int) - 1)).1), vb ((indexF x ((t.v.length : Int) - 1)).2)]))])] (bz 2 3) 1296870720296688438729182918 [q1 b1, q3 ((t.v.length : Int) - 1), q1 b2, q4 ((indexF x ((t.v.length : Int) - 1)).1) t.v.length] .ret [(4, .ptr 1001 0), (5, vb true)] [(1001, bTr ((t.v.getD (((indexF x ((t.v.length : Int) - 1)).1).toNat) (dflt .tree))))] ⟨con176 _ _, tv⟩ fun a w hs => ?_
 exact rK (.val (.tup [aTr ((t.v.getD (((indexF x ((t.v.length : Int) - 1)).1).toNat) (dflt .tree))), vb true])) [] hs (by rw [childF, if_pos b1, if_pos b2])
 refine wL hs hI [(2, rc [(5, ciV 176 [vs x, vi ((t.v.length : Int) - 1)] (.tup [vi ((indexF x ((t.v.length : Int) - 1)).1), vb ((indexF x ((t.v.length : Int) - 1)).2)]))]), (5, rc [(2, ciV 69 [aTr (t), vs x] (.tup [aTr ((memV t x)), vb (memB t x)]))])] (bz 2 1) 1296084026720296688438729182918 [q1 b1, q3 ((t.v.length : Int) - 1), q1 b2] .ret [(4, .ptr 1001 0), (5, vb (memB t x))] [(1001, bTr ((memV t x)))] ⟨con176 _ _, con69 _ _ (by omega), tv⟩ fun a w hs => ?_
 exact rK (.val (.tup [aTr ((memV t x)), vb (memB t x)])) [] hs (by rw [childF, if_pos b1, if_neg (by rw [b2]; decide)])
 refine wL hs hI [(5, rc [(2, ciV 69 [aTr (t), vs x] (.tup [aTr ((memV t x)), vb (memB t x)]))])] (bz 1 0) 129608409729182918 [q1 b1] .ret [(4, .ptr 1001 0), (5, vb (memB t x))] [(1001, bTr ((memV t x)))] ⟨con69 _ _ (by omega), tv⟩ fun a w hs => ?_
 exact rK (.val (.tup [aTr ((memV t x)), vb (memB t x)])) [] hs (by rw [childF, if_neg (by rw [b1]; decide)])
theorem con63 (t : Tree) (q : List ByteArray) (hn : nodes t < 100000000) (hp : q.length < 4611686018427387904) : Con Tryz.prog I0 63 [.agg (encTree t), .row .str q] (.val (.tup [.agg (encTree ((getR q t).1)), vb ((getR q t).2)])) := by
 refine con_of Tryz.func63 rfl (Nat.le_of_ble_eq_true rfl) stab (fun w0 fz a hI hs => ?_)
 refine wNs hs hI [] 18 [] [(1, rwS q), (2, .ptr 1000 0), (4, .ptr 1001 0)] [(1000, bTr (t)), (1001, .var zTr)] fun a w hs => ?_
 refine wp_seq ?_
 refine wNs hs hI [] 11 [] [(1, rwS q), (2, .ptr 1000 0), (4, .ptr 1001 0), (6, vi 0)] [(1000, bTr (t)), (1001, .var zTr)] fun a w hs => ?_
 refine wp_block ?_
 refine loop_L (N := Tryz.f63.ntmps) (w0 := w0) (ow := noO fz) (α := Nat × Tree) (fun p => [(1, rwS q), (2, .ptr 90000003 0), (4, .ptr 1001 0), (6, vi ((p.1 : Nat) : Int))]) (fun p => [(1001, .var zTr), (90000003, bTr (p.2))]) (fun p => p.1 ≤ q.length ∧ getR (q.drop p.1) p.2 = getR q t ∧ nodes p.2 ≤ nodes t) (fun p => q.length - p.1) (0, t) ?_ ?_ ?_
 exact ⟨Nat.zero_le _, rfl, Nat.le_refl _⟩
 exact hs.rk [(1001, 1001), (90000003, 1000)]
 rintro ⟨i, u⟩ hJ a w hs
 try dsimp only at hJ
 obtain ⟨hi, hg, hu⟩ := hJ
 rcases bd ((i : Int) < (q.length : Int)) with ⟨b1, n1⟩ | ⟨b1, n1⟩
 rcases bt ((childF u (q.getD i (dflt .str))).2) with b2 | b2
 refine wL hs hI [(4, rc [(5, ciV 125 [aTr (u), vs (q.getD i (dflt .str))] (.tup [aTr (((childF u (q.getD i (dflt .str))).1)), vb ((childF u (q.getD i (dflt .str))).2)]))])] (bz 2 1) 17168979866618847897608 [q1 b1, q4 (i : Int) q.length, q1 (ng1 b2), q3 ((i : Int) + 1)] .norm [(1, rwS q), (2, .ptr 90000003 0), (4, .ptr 1001 0), (6, vi ((i : Int) + 1))] [(1001, .var zTr), (90000003, bTr (((childF u (q.getD i (dflt .str))).1)))] ⟨con125 _ _ (by have h1 := nodes_eq u; have h2 := nodesL_len u.v; omega), tv⟩ fun a w hs => ?_
 refine then_norm ⟨(i + 1, (childF u (q.getD i (dflt .str))).1), ⟨by omega, by rw [← getR_yes (by omega) b2]; exact hg, Nat.le_trans (child_nodes _ _) hu⟩, by omega, ?_⟩
 exact hs.rk [(1001, 1001), (90000003, 90000003)]
 refine wL hs hI [(4, rc [(5, ciV 125 [aTr (u), vs (q.getD i (dflt .str))] (.tup [aTr (((childF u (q.getD i (dflt .str))).1)), vb ((childF u (q.getD i (dflt .str))).2)]))])] (bz 2 3) 129879866618847897608 [q1 b1, q4 (i : Int) q.length, q1 (ng0 b2)] .ret [(4, .ptr 1001 0), (5, vb false)] [(1001, .var zTr)] ⟨con125 _ _ (by have h1 := nodes_eq u; have h2 := nodesL_len u.v; omega), tv⟩ fun a w hs => ?_
 refine then_ret ?_
 refine inb_ret ?_
 refine then_ret ?_
 exact rK (.val (.tup [.agg [vi 0, vb false, vb false, rwU ([]), vi 0, vs (ba []), rwS ([]), rwT ([])], vb false])) [] hs (by rw [← hg, getR_no (by omega) b2]; try rfl)
 refine wN hs hI (bz 1 0) 7608 [q1 b1] (.exit 0) [(2, .ptr 90000003 0), (4, .ptr 1001 0)] [(1001, .var zTr), (90000003, bTr (u))] fun a w hs => ?_
 refine then_exit ?_
 refine inb_hit ?_
 refine then_norm ?_
 refine wN hs hI [] 12918 [] .ret [(4, .ptr 1001 0), (5, vb true)] [(1001, bTr (u))] fun a w hs => ?_
 exact rK (.val (.tup [aTr (u), vb true])) [] hs (by rw [← hg, List.drop_of_length_le (by omega)]; try rfl)
theorem con128_ (v : Tree) : ∀ (n : Nat) (q : List ByteArray) (t : Tree), q.length < n → nodes t < 100000000 → Con Tryz.prog I0 128 [.agg (encTree t), .row .str q, .agg (encTree v)] (.val (.tup [.agg (encTree ((putR q t v).1)), vb ((putR q t v).2)])) := by
 intro n
 induction n
 case zero => intro q t hn ht; omega
 rename_i n ih
 intro q t hn ht
 have hvl := nodesL_len t.v
 have hne := nodes_eq t
 refine con_of Tryz.func128 rfl (Nat.le_of_ble_eq_true rfl) stab (fun w0 fz a hI hs => ?_)
 refine wNs hs hI [] 118 [] [(1, rwS q), (3, .ptr 1000 0), (5, .ptr 1001 0), (6, .ptr 1002 0)] [(1000, bTr (t)), (1001, bTr (v)), (1002, .var zTr)] fun a w hs => ?_
 refine wp_seq ?_
 rcases bq (q.length : Int) (0) with ⟨b1, n1⟩ | ⟨b1, n1⟩
 refine wN hs hI (bz 1 1) 129872918 [q1 b1] .ret [(6, .ptr 1002 0), (7, vb true)] [(1002, bTr (v))] fun a w hs => ?_
 refine then_ret ?_
 exact rK (.val (.tup [aTr (v), vb true])) [] hs (by have h0 : q = [] := List.eq_nil_of_length_eq_zero (by omega); rw [h0]; rfl)
 refine wN hs hI (bz 1 0) 72918 [q1 b1] .norm [(1, rwS q), (3, .ptr 1000 0), (5, .ptr 1001 0), (6, .ptr 1002 0)] [(1000, bTr (t)), (1001, bTr (v)), (1002, .var zTr)] fun a w hs => ?_
 refine then_norm ?_
 refine wLs hs hI [(3, rc [(4, ciV 125 [aTr (t), vs (q.getD 0 (dflt .str))] (.tup [aTr (((childF t (q.getD 0 (dflt .str))).1)), vb ((childF t (q.getD 0 (dflt .str))).2)]))])] [] 188470 [q4 (0 : Int) q.length] [(1, rwS q), (3, .ptr 1000 0), (5, .ptr 1001 0), (6, .ptr 1002 0), (8, .ptr 4008 0), (9, vb ((childF t (q.getD 0 (dflt .str))).2))] [(1000, bTr (t)), (1001, bTr (v)), (1002, .var zTr), (4008, bTr (((childF t (q.getD 0 (dflt .str))).1)))] ⟨con125 _ _ (by have h1 := nodes_eq t; have h2 := nodesL_len t.v; omega), tv⟩ fun a w hs => ?_
 refine wp_seq ?_
 rcases bt ((childF t (q.getD 0 (dflt .str))).2) with b2 | b2
 refine wN hs hI (bz 1 0) 798 [q1 (ng1 b2)] .norm [(1, rwS q), (3, .ptr 1000 0), (5, .ptr 1001 0), (6, .ptr 1002 0), (8, .ptr 4008 0)] [(1000, bTr (t)), (1001, bTr (v)), (1002, .var zTr), (4008, bTr (((childF t (q.getD 0 (dflt .str))).1)))] fun a w hs => ?_
 refine then_norm ?_
 refine wLs hs hI [(6, rc [(4, ciV 128 [aTr (((childF t (q.getD 0 (dflt .str))).1)), rwS (q.drop 1), aTr (v)] (.tup [aTr (((putR (q.drop 1) ((childF t (q.getD 0 (dflt .str))).1) v).1)), vb ((putR (q.drop 1) ((childF t (q.getD 0 (dflt .str))).1) v).2)]))])] [] 88470 [⟨0 ≤ (1 : Int) ∧ (1 : Int) ≤ (q.length : Int) ∧ (q.length : Int) ≤ (q.length : Int) ∧ (q.length : Int) ≤ (q.length : Int), (by (repeat' apply And.intro) <;> (try split) <;> omega)⟩] [(1, rwS q), (3, .ptr 1000 0), (6, .ptr 1002 0), (8, .ptr 4008 0), (9, vb ((putR (q.drop 1) ((childF t (q.getD 0 (dflt .str))).1) v).2))] [(1000, bTr (t)), (1002, .var zTr), (4008, bTr (((putR (q.drop 1) ((childF t (q.getD 0 (dflt .str))).1) v).1)))] ⟨ih _ _ (by rw [List.length_drop]; omega) (by have := child_nodes t (q.getD 0 (dflt .str)); omega), tv⟩ fun a w hs => ?_
 rcases bt ((putR (q.drop 1) ((childF t (q.getD 0 (dflt .str))).1) v).2) with b3 | b3
 rcases bq (t.kind) (7) with ⟨b4, n4⟩ | ⟨b4, n4⟩
 refine wL hs hI [(10, rc [(5, ciV 22 [aTr (t), vs (q.getD 0 (dflt .str)), aTr (((putR (q.drop 1) ((childF t (q.getD 0 (dflt .str))).1) v).1))] (aTr ((setT t (q.getD 0 (dflt .str)) ((putR (q.drop 1) ((childF t (q.getD 0 (dflt .str))).1) v).1)))))])] (bz 2 2) 16684171729189798 [q1 (ng1 b3), q1 b4, q4 (0 : Int) q.length] .ret [(6, .ptr 1002 0), (7, vb true)] [(1002, bTr ((setT t (q.getD 0 (dflt .str)) ((putR (q.drop 1) ((childF t (q.getD 0 (dflt .str))).1) v).1))))] ⟨con22 _ _ _ (by have h1 := nodes_eq t; have h2 := nodesL_len t.v; omega), tv⟩ fun a w hs => ?_
 exact rK (.val (.tup [aTr ((setT t (q.getD 0 (dflt .str)) ((putR (q.drop 1) ((childF t (q.getD 0 (dflt .str))).1) v).1))), vb true])) [] hs (by rw [putR_at (q := q) (by omega), if_pos b2, if_pos b3, if_pos b4]; first | done | rfl | (rw [Tree.eta']; rfl))
 have hsx := child_six (by assumption : (childF t (q.getD 0 (dflt .str))).2 = true) (by omega)
 have hix := index_in hsx.2
 refine wL hs hI [(11, rc [(7, ciV 176 [vs (q.getD 0 (dflt .str)), vi ((t.v.length : Int) - 1)] (.tup [vi ((indexF (q.getD 0 (dflt .str)) ((t.v.length : Int) - 1)).1), vb ((indexF (q.getD 0 (dflt .str)) ((t.v.length : Int) - 1)).2)]))])] (bz 2 0) 12918967318260702918266688438719729189798 [q1 (ng1 b3), q1 b4, q4 (0 : Int) q.length, q3 ((t.v.length : Int) - 1), q2 ((t.v.length * 120 : Nat) ≤ 140737488355328 ∧ t.v.length ≤ 140737488355328), q4 ((indexF (q.getD 0 (dflt .str)) ((t.v.length : Int) - 1)).1) t.v.length, q2 (((indexF (q.getD 0 (dflt .str)) ((t.v.length : Int) - 1)).1).toNat < t.v.length)] .ret [(6, .ptr 1002 0), (7, vb true)] [(1002, .var [vi t.kind, vb t.b, vb t.n.neg, rwU t.n.m, vi t.n.e, vs t.s, rwS t.k, .own 14002]), (14002, .sl 29 .tree (t.v.set (((indexF (q.getD 0 (dflt .str)) ((t.v.length : Int) - 1)).1).toNat) (Tree.et ((putR (q.drop 1) ((childF t (q.getD 0 (dflt .str))).1) v).1))))] ⟨con176 _ _, tv⟩ fun a w hs => ?_
 exact rK (.val (.tup [.agg [vi t.kind, vb t.b, vb t.n.neg, rwU t.n.m, vi t.n.e, vs t.s, rwS t.k, rwT (t.v.set (((indexF (q.getD 0 (dflt .str)) ((t.v.length : Int) - 1)).1).toNat) (Tree.et ((putR (q.drop 1) ((childF t (q.getD 0 (dflt .str))).1) v).1)))], vb true])) [14002] hs (by rw [putR_at (q := q) (by omega), if_pos b2, if_pos b3, if_neg (by rw [b4]; decide)]; first | done | rfl | (rw [Tree.eta']; rfl))
 refine wN hs hI (bz 1 1) 1298798 [q1 (ng0 b3)] .ret [(6, .ptr 1002 0), (7, vb false)] [(1002, .var zTr)] fun a w hs => ?_
 exact rK (.val (.tup [.agg [vi 0, vb false, vb false, rwU ([]), vi 0, vs (ba []), rwS ([]), rwT ([])], vb false])) [] hs (by rw [putR_at (q := q) (by omega), if_pos b2, if_neg (by rw [b3]; decide)]; first | done | rfl | (rw [Tree.eta']; rfl))
 refine wN hs hI (bz 1 1) 1298798 [q1 (ng0 b2)] .ret [(6, .ptr 1002 0), (7, vb false)] [(1002, .var zTr)] fun a w hs => ?_
 refine then_ret ?_
 exact rK (.val (.tup [.agg [vi 0, vb false, vb false, rwU ([]), vi 0, vs (ba []), rwS ([]), rwT ([])], vb false])) [] hs (by rw [putR_at (q := q) (by omega), if_neg (by rw [b2]; decide)]; first | done | rfl | (rw [Tree.eta']; rfl))
def itemsT (l : List Tree) : Tree := .mk 6 false ⟨false, [], 0⟩ (ba []) [] l
abbrev upF (p : List ByteArray) : List ByteArray := p.take ((p.length : Int) - 1).toNat
abbrev lastF (p : List ByteArray) : ByteArray := p.getD ((p.length : Int) - 1).toNat (dflt .str)
def insV (l : List Tree) (n : Nat) (v : Tree) : List Tree := (l.take n ++ [v]) ++ l.drop n
def delV (l : List Tree) (i : Int) : List Tree := l.take i.toNat ++ l.drop (i + 1).toNat
def addR (t : Tree) (p : List ByteArray) (v : Tree) : Tree × Bool :=
  if ((p.length : Int) == 0) = true then (v, true)
  else if (getR (upF p) t).2 = true then
    (if ((getR (upF p) t).1.kind == 7) = true then putR (upF p) t (setT (getR (upF p) t).1 (lastF p) v)
     else if ((getR (upF p) t).1.kind == 6) = true then
       (if ((lastF p).toList == (ba [45]).toList) = true then putR (upF p) t (itemsT (insV (getR (upF p) t).1.v (getR (upF p) t).1.v.length v))
        else if (indexF (lastF p) ((getR (upF p) t).1.v.length : Int)).2 = true then putR (upF p) t (itemsT (insV (getR (upF p) t).1.v (indexF (lastF p) ((getR (upF p) t).1.v.length : Int)).1.toNat v))
        else (Tree.zero, false))
     else (Tree.zero, false))
  else (Tree.zero, false)
def removeR (t : Tree) (p : List ByteArray) : Tree × Bool :=
  if ((p.length : Int) == 0) = true then (Tree.zero, false)
  else if (getR p t).2 = true then
    (if ((getR (upF p) t).1.kind == 7) = true then putR (upF p) t (unsetT (getR (upF p) t).1 (lastF p))
     else putR (upF p) t (itemsT (delV (getR (upF p) t).1.v (indexF (lastF p) (((getR (upF p) t).1.v.length : Int) - 1)).1)))
  else (Tree.zero, false)
def moveR (t : Tree) (a b : List ByteArray) : Tree × Bool :=
  if (getR a t).2 = true then
    (if (startsF a b && decide ((a.length : Int) < (b.length : Int))) = true then (Tree.zero, false)
     else if ((a.length : Int) == (b.length : Int) && startsF a b) = true then (t, true)
     else if (removeR t a).2 = true then addR (removeR t a).1 b (getR a t).1 else (Tree.zero, false))
  else (Tree.zero, false)
def oneR (t : Tree) (k : Int) (p f : List ByteArray) (v : Tree) : Tree × Bool :=
 if (k == 1) = true then addR t p v else if (k == 2) = true then removeR t p else if (k == 3) = true then putR p t v else if (k == 4) = true then moveR t f p
 else if (k == 5) = true then (if (getR f t).2 = true then addR t p (getR f t).1 else (Tree.zero, false))
 else if (k == 6 && ((getR p t).2 && sameT (getR p t).1 v)) = true then (t, true) else (Tree.zero, false)
theorem getR_up : ∀ {p : List ByteArray} {t : Tree}, 0 < p.length → (getR p t).2 = true → (getR (upF p) t).2 = true ∧ childF (getR (upF p) t).1 (lastF p) = getR p t
 | [], t, h, _ => by simp at h
 | [x], t, _, h => by
  show (getR [] t).2 = true ∧ childF (getR [] t).1 x = getR [x] t
  rw [getR] at h
  split at h
  ·rename_i hc
   refine ⟨rfl, ?_⟩
   show childF t x = _
   rw [getR, if_pos hc, getR]
   exact Prod.ext rfl hc
  ·cases h
 | x :: y :: p, t, _, h => by
  have e1 : upF (x :: y :: p) = x :: upF (y :: p) := by
   unfold upF
   rw [show (((x :: y :: p).length : Int) - 1).toNat = (((y :: p).length : Int) - 1).toNat + 1 by simp only [List.length_cons]; omega, List.take_succ_cons]
  have e2 : lastF (x :: y :: p) = lastF (y :: p) := by
   unfold lastF
   rw [show (((x :: y :: p).length : Int) - 1).toNat = (((y :: p).length : Int) - 1).toNat + 1 by simp only [List.length_cons]; omega, List.getD_cons_succ]
  rw [getR] at h
  split at h
  ·rename_i hc
   have ih := getR_up (p := y :: p) (t := (childF t x).1) (by simp) h
   rw [e1, e2, getR, if_pos hc]
   refine ⟨ih.1, ?_⟩
   rw [ih.2]
   conv => rhs; rw [getR, if_pos hc]
  ·cases h
theorem set_nodes (t : Tree) (x : ByteArray) (v : Tree) : nodes (setT t x v) ≤ nodes t + nodes v := set_more measNodes t x v
theorem nodesL_set : ∀ {l : List Tree} {i : Nat} (r : Tree), i < l.length → nodesL (l.set i r) + nodes (l.getD i (dflt .tree)) = nodesL l + nodes r
 | [], i, r, h => by simp at h
 | x :: l, 0, r, h => by
  show nodes r + nodesL l + nodes x = nodes x + nodesL l + nodes r
  omega
 | x :: l, i + 1, r, h => by
  have ih := nodesL_set (l := l) (i := i) r (by simpa using h)
  show nodes x + nodesL (l.set i r) + nodes (l.getD i (dflt .tree)) = nodes x + nodesL l + nodes r
  omega
theorem zero_nodes : nodes Tree.zero = 1 := by simp [Tree.zero, nodes, nodesL]
theorem nodes_pos (t : Tree) : 1 ≤ nodes t := by have := nodes_eq t; omega
theorem putR_nodes : ∀ (p : List ByteArray) (t v : Tree), nodes (putR p t v).1 ≤ nodes t + nodes v
 | [], t, v => Nat.le_add_left _ _
 | x :: p, t, v => by
  have hz := zero_nodes
  have h1 := nodes_pos t
  have h2 := nodes_pos v
  rw [putR]
  split
  rename_i hc
  have ih := putR_nodes p (childF t x).1 v
  split
  split
  rename_i h7
  have hb : memB t x = true ∧ (childF t x).1 = memV t x := by
   unfold childF at hc ⊢
   have h6 : ¬ (t.kind == 6) = true := by have := eq_of_beq h7; rw [this]; decide
   rw [if_neg h6] at hc ⊢
   exact ⟨hc, rfl⟩
  have h3 := set_there measNodes hb.1 (putR p (childF t x).1 v).1
  rw [hb.2] at ih h3 ⊢
  show nodes (setT t x _) ≤ _; omega
  rename_i h7
  have h6 := child_six hc (by simpa using h7)
  have hi := index_in h6.2
  have he : (childF t x).1 = t.v.getD (indexF x ((t.v.length : Int) - 1)).1.toNat (dflt .tree) := by
   unfold childF
   rw [if_pos (by rw [h6.1]; rfl), if_pos h6.2]
  have h3 := nodesL_set (l := t.v) (i := (indexF x ((t.v.length : Int) - 1)).1.toNat) (putR p (childF t x).1 v).1 (by omega)
  have h4 := nodes_eq t
  rw [← he] at h3
  show nodes (withV t _) ≤ _
  have h5 : ∀ l, nodes (withV t l) = 1 + nodesL l := fun l => by rw [nodes_eq]; rfl
  rw [h5]; omega
  show nodes Tree.zero ≤ _; omega
  show nodes Tree.zero ≤ _; omega
theorem nodesL_app : ∀ (a b : List Tree), nodesL (a ++ b) = nodesL a + nodesL b
 | [], b => by simp [nodesL]
 | x :: a, b => by simp only [List.cons_append, nodesL, nodesL_app a b]; omega
theorem nodesL_cut (l : List Tree) (n : Nat) : nodesL (l.take n) + nodesL (l.drop n) = nodesL l := by rw [← nodesL_app, List.take_append_drop]
theorem items_nodes (l : List Tree) : nodes (itemsT l) = 1 + nodesL l := by rw [nodes_eq]; rfl
theorem ins_nodes (l : List Tree) (n : Nat) (v : Tree) : nodesL (insV l n v) = nodesL l + nodes v := by
 unfold insV
 have h := nodesL_cut l n
 rw [nodesL_app, nodesL_app]; simp only [nodesL]; omega
theorem nodesL_drop (l : List Tree) {a b : Nat} (h : a ≤ b) : nodesL (l.drop b) ≤ nodesL (l.drop a) := by
 have h1 := nodesL_cut (l.drop a) (b - a)
 rw [List.drop_drop, show a + (b - a) = b by omega] at h1; omega
theorem del_nodes (l : List Tree) (i : Int) : nodesL (delV l i) ≤ nodesL l := by
 unfold delV
 rw [nodesL_app]
 have h1 := nodesL_cut l i.toNat
 have h2 := nodesL_drop l (show i.toNat ≤ (i + 1).toNat by omega)
 omega
theorem remove_nodes (t : Tree) (p : List ByteArray) : nodes (removeR t p).1 ≤ nodes t + nodes t := by
 have hz := zero_nodes
 have h1 := nodes_pos t
 have h2 := getR_nodes (upF p) t
 unfold removeR
 split
 show nodes Tree.zero ≤ _; omega
 split
 split
 have h3 := putR_nodes (upF p) t (unsetT (getR (upF p) t).1 (lastF p))
 have h4 := unset_less measNodes (getR (upF p) t).1 (lastF p); omega
 have h3 := putR_nodes (upF p) t (itemsT (delV (getR (upF p) t).1.v (indexF (lastF p) (((getR (upF p) t).1.v.length : Int) - 1)).1))
 rw [items_nodes] at h3
 have h4 := del_nodes (getR (upF p) t).1.v (indexF (lastF p) (((getR (upF p) t).1.v.length : Int) - 1)).1
 have h5 := nodes_eq (getR (upF p) t).1; omega
 show nodes Tree.zero ≤ _; omega
theorem remove_ix {t : Tree} {p : List ByteArray} (hp : 0 < p.length) (h : (getR p t).2 = true) (h7 : ¬ (getR (upF p) t).1.kind = 7) : 0 ≤ (indexF (lastF p) (((getR (upF p) t).1.v.length : Int) - 1)).1 ∧ (indexF (lastF p) (((getR (upF p) t).1.v.length : Int) - 1)).1 < ((getR (upF p) t).1.v.length : Int) := by
 obtain ⟨h1, h2⟩ := getR_up hp h
 have h3 := child_six (t := (getR (upF p) t).1) (x := lastF p) (by rw [h2]; exact h) h7
 have h4 := index_in h3.2
 omega
theorem con126 (t : Tree) (p : List ByteArray) (v : Tree) (hn : nodes t < 100000000) (hp : p.length < 1000000000) : Con Tryz.prog I0 126 [.agg (encTree t), .row .str p, .agg (encTree v)] (.val (.tup [.agg (encTree ((addR t p v).1)), vb ((addR t p v).2)])) := by
 have hgn := getR_nodes (upF p) t
 have hgl := nodesL_len (getR (upF p) t).1.v
 have hge := nodes_eq (getR (upF p) t).1
 refine con_of Tryz.func126 rfl (Nat.le_of_ble_eq_true rfl) stab (fun w0 fz a hI hs => ?_)
 refine wNs hs hI [] 118 [] [(1, rwS p), (3, .ptr 1000 0), (5, .ptr 1001 0), (6, .ptr 1002 0)] [(1000, bTr (t)), (1001, bTr (v)), (1002, .var zTr)] fun a w hs => ?_
 refine wp_seq ?_
 rcases bq (p.length : Int) (0) with ⟨b1, n1⟩ | ⟨b1, n1⟩
 refine wN hs hI (bz 1 1) 129872918 [q1 b1] .ret [(6, .ptr 1002 0), (7, vb true)] [(1002, bTr (v))] fun a w hs => ?_
 refine then_ret ?_
 exact rK (.val (.tup [aTr (v), vb true])) [] hs (by rw [addR, if_pos b1]; first | done | rfl | (simp only [Tree.eta', itemsT, insV, delV]; done) | (simp only [Tree.eta', itemsT, insV, delV]; rfl))
 refine wN hs hI (bz 1 0) 72918 [q1 b1] .norm [(1, rwS p), (3, .ptr 1000 0), (5, .ptr 1001 0), (6, .ptr 1002 0)] [(1000, bTr (t)), (1001, bTr (v)), (1002, .var zTr)] fun a w hs => ?_
 refine then_norm ?_
 refine wNs hs hI [] 8730738 [q3 ((p.length : Int) - 1), ⟨0 ≤ (0 : Int) ∧ (0 : Int) ≤ ((p.length : Int) - 1) ∧ ((p.length : Int) - 1) ≤ (p.length : Int) ∧ (p.length : Int) ≤ (p.length : Int), (by (repeat' apply And.intro) <;> (try split) <;> omega)⟩, q3 ((p.length : Int) - 1), q4 ((p.length : Int) - 1) p.length] [(3, .ptr 1000 0), (5, .ptr 1001 0), (6, .ptr 1002 0), (8, rwS (upF p)), (9, vs (lastF p))] [(1000, bTr (t)), (1001, bTr (v)), (1002, .var zTr)] fun a w hs => ?_
 refine wLs hs hI [(4, rc [(2, ciV 63 [aTr (t), rwS (upF p)] (.tup [aTr (((getR (upF p) t).1)), vb ((getR (upF p) t).2)]))])] [] 18840 [] [(3, .ptr 1000 0), (5, .ptr 1001 0), (6, .ptr 1002 0), (8, rwS (upF p)), (9, vs (lastF p)), (10, .ptr 5006 0), (11, vb ((getR (upF p) t).2))] [(1000, bTr (t)), (1001, bTr (v)), (1002, .var zTr), (5006, bTr (((getR (upF p) t).1)))] ⟨con63 _ _ (by omega) (by first | omega | (rw [List.length_take]; omega)), tv⟩ fun a w hs => ?_
 refine wp_seq ?_
 rcases bt ((getR (upF p) t).2) with b2 | b2
 refine wN hs hI (bz 1 0) 798 [q1 (ng1 b2)] .norm [(3, .ptr 1000 0), (5, .ptr 1001 0), (6, .ptr 1002 0), (8, rwS (upF p)), (9, vs (lastF p)), (10, .ptr 5006 0)] [(1000, bTr (t)), (1001, bTr (v)), (1002, .var zTr), (5006, bTr (((getR (upF p) t).1)))] fun a w hs => ?_
 refine then_norm ?_
 rcases bq (((getR (upF p) t).1).kind) (7) with ⟨b3, n3⟩ | ⟨b3, n3⟩
 refine wL hs hI [(9, rc [(5, ciV 22 [aTr (((getR (upF p) t).1)), vs (lastF p), aTr (v)] (aTr ((setT ((getR (upF p) t).1) (lastF p) v)))), (6, ciV 128 [aTr (t), rwS (upF p), aTr ((setT ((getR (upF p) t).1) (lastF p) v))] (.tup [aTr (((putR (upF p) t (setT ((getR (upF p) t).1) (lastF p) v)).1)), vb ((putR (upF p) t (setT ((getR (upF p) t).1) (lastF p) v)).2)]))])] (bz 1 1) 1296608441879898 [q1 b3] .ret [(6, .ptr 1002 0), (7, vb ((putR (upF p) t (setT ((getR (upF p) t).1) (lastF p) v)).2))] [(1002, bTr (((putR (upF p) t (setT ((getR (upF p) t).1) (lastF p) v)).1)))] ⟨con22 _ _ _ (by have h1 := nodes_eq (getR (upF p) t).1; have h2 := nodesL_len (getR (upF p) t).1.v; have h3 := getR_nodes (upF p) t; omega), con128_ (setT ((getR (upF p) t).1) (lastF p) v) _ (upF p) t (Nat.lt_succ_self _) (by omega), tv⟩ fun a w hs => ?_
 exact rK (.val (.tup [aTr (((putR (upF p) t (setT ((getR (upF p) t).1) (lastF p) v)).1)), vb ((putR (upF p) t (setT ((getR (upF p) t).1) (lastF p) v)).2)])) [] hs (by rw [addR, if_neg (by rw [b1]; decide), if_pos b2, if_pos b3]; first | done | rfl | (simp only [Tree.eta', itemsT, insV, delV]; done) | (simp only [Tree.eta', itemsT, insV, delV]; rfl))
 rcases bq (((getR (upF p) t).1).kind) (6) with ⟨b4, n4⟩ | ⟨b4, n4⟩
 rcases bq ((lastF p).toList) ((ba [45]).toList) with ⟨b5, n5⟩ | ⟨b5, n5⟩
 refine wL hs hI [(11, rc [(4, ciV 176 [vs (lastF p), vi ((((getR (upF p) t).1).v).length : Int)] (.tup [vi ((indexF (lastF p) ((((getR (upF p) t).1).v).length : Int)).1), vb ((indexF (lastF p) ((((getR (upF p) t).1).v).length : Int)).2)]))]), (17, rc [(3, ciA 128 [aTr (t), rwS (upF p), .agg [vi 6, vb false, vb false, nilv, vi 0, vs (ba []), nilv, rwT ((((((getR (upF p) t).1).v).take ((((getR (upF p) t).1).v).length)) ++ ([(Tree.et v)])) ++ ((((getR (upF p) t).1).v).drop ((((getR (upF p) t).1).v).length)))]] [] [17012] (.val (.tup [aTr (((putR (upF p) t (Tree.mk 6 false ⟨false, [], 0⟩ (ba []) ([]) ((((((getR (upF p) t).1).v).take ((((getR (upF p) t).1).v).length)) ++ ([(Tree.et v)])) ++ ((((getR (upF p) t).1).v).drop ((((getR (upF p) t).1).v).length))))).1)), vb ((putR (upF p) t (Tree.mk 6 false ⟨false, [], 0⟩ (ba []) ([]) ((((((getR (upF p) t).1).v).take ((((getR (upF p) t).1).v).length)) ++ ([(Tree.et v)])) ++ ((((getR (upF p) t).1).v).drop ((((getR (upF p) t).1).v).length))))).2)])))])] (bz 4 6) 16608486666873071738979829608798966884879079898 [q1 b3, q1 b4, q1 b5, q0 false, ⟨0 ≤ (0 : Int) ∧ (0 : Int) ≤ ((((getR (upF p) t).1).v).length : Int) ∧ ((((getR (upF p) t).1).v).length : Int) ≤ ((((getR (upF p) t).1).v).length : Int) ∧ ((((getR (upF p) t).1).v).length : Int) ≤ ((((getR (upF p) t).1).v).length : Int), (by (repeat' apply And.intro) <;> (try split) <;> omega)⟩, ⟨(((((getR (upF p) t).1).v).take ((((getR (upF p) t).1).v).length)).length * 120 : Nat) ≤ 140737488355328 ∧ ((((getR (upF p) t).1).v).take ((((getR (upF p) t).1).v).length)).length ≤ 140737488355328, (by skip; (try simp only [List.length_append, List.length_take, List.length_drop, List.length_cons, List.length_nil]); omega)⟩, ⟨((((((getR (upF p) t).1).v).take ((((getR (upF p) t).1).v).length)).length + 1) * 120 : Nat) ≤ 140737488355328 ∧ ((((getR (upF p) t).1).v).take ((((getR (upF p) t).1).v).length)).length + 1 ≤ 140737488355328, (by skip; (try simp only [List.length_append, List.length_take, List.length_drop, List.length_cons, List.length_nil]); omega)⟩, ⟨0 ≤ ((((getR (upF p) t).1).v).length : Int) ∧ ((((getR (upF p) t).1).v).length : Int) ≤ ((((getR (upF p) t).1).v).length : Int) ∧ ((((getR (upF p) t).1).v).length : Int) ≤ ((((getR (upF p) t).1).v).length : Int) ∧ ((((getR (upF p) t).1).v).length : Int) ≤ ((((getR (upF p) t).1).v).length : Int), (by (repeat' apply And.intro) <;> (try split) <;> omega)⟩, ⟨(((((((getR (upF p) t).1).v).take ((((getR (upF p) t).1).v).length)) ++ ([(Tree.et v)])).length + ((((getR (upF p) t).1).v).drop ((((getR (upF p) t).1).v).length)).length) * 120 : Nat) ≤ 140737488355328 ∧ (((((getR (upF p) t).1).v).take ((((getR (upF p) t).1).v).length)) ++ ([(Tree.et v)])).length + ((((getR (upF p) t).1).v).drop ((((getR (upF p) t).1).v).length)).length ≤ 140737488355328, (by skip; (try simp only [List.length_append, List.length_take, List.length_drop, List.length_cons, List.length_nil]); omega)⟩] .ret [(6, .ptr 1002 0), (7, vb ((putR (upF p) t (Tree.mk 6 false ⟨false, [], 0⟩ (ba []) ([]) ((((((getR (upF p) t).1).v).take ((((getR (upF p) t).1).v).length)) ++ ([(Tree.et v)])) ++ ((((getR (upF p) t).1).v).drop ((((getR (upF p) t).1).v).length))))).2))] [(1002, bTr (((putR (upF p) t (Tree.mk 6 false ⟨false, [], 0⟩ (ba []) ([]) ((((((getR (upF p) t).1).v).take ((((getR (upF p) t).1).v).length)) ++ ([(Tree.et v)])) ++ ((((getR (upF p) t).1).v).drop ((((getR (upF p) t).1).v).length))))).1)))] ⟨con176 _ _, Con.told (con128_ (Tree.mk 6 false ⟨false, [], 0⟩ (ba []) ([]) ((((((getR (upF p) t).1).v).take ((((getR (upF p) t).1).v).length)) ++ ([(Tree.et v)])) ++ ((((getR (upF p) t).1).v).drop ((((getR (upF p) t).1).v).length)))) _ (upF p) t (Nat.lt_succ_self _) (by omega)) ⟨.inl rfl, .inl rfl, .inr (.inr ⟨_, rfl, _, rfl, .inl rfl, .inl rfl, .inl rfl, .inr ⟨rfl, _, rfl⟩, .inl rfl, .inl rfl, .inr ⟨rfl, _, rfl⟩, .inl rfl, trivial⟩), trivial⟩, tv⟩ fun a w hs => ?_
 exact rK (.val (.tup [aTr (((putR (upF p) t (Tree.mk 6 false ⟨false, [], 0⟩ (ba []) ([]) ((((((getR (upF p) t).1).v).take ((((getR (upF p) t).1).v).length)) ++ ([(Tree.et v)])) ++ ((((getR (upF p) t).1).v).drop ((((getR (upF p) t).1).v).length))))).1)), vb ((putR (upF p) t (Tree.mk 6 false ⟨false, [], 0⟩ (ba []) ([]) ((((((getR (upF p) t).1).v).take ((((getR (upF p) t).1).v).length)) ++ ([(Tree.et v)])) ++ ((((getR (upF p) t).1).v).drop ((((getR (upF p) t).1).v).length))))).2)])) [] hs (by rw [addR, if_neg (by rw [b1]; decide), if_pos b2, if_neg (by rw [b3]; decide), if_pos b4, if_pos b5]; first | done | rfl | (simp only [Tree.eta', itemsT, insV, delV]; done) | (simp only [Tree.eta', itemsT, insV, delV]; rfl))
 rcases bt ((indexF (lastF p) ((((getR (upF p) t).1).v).length : Int)).2) with b6 | b6
 have hix := index_in b6
 refine wL hs hI [(11, rc [(4, ciV 176 [vs (lastF p), vi ((((getR (upF p) t).1).v).length : Int)] (.tup [vi ((indexF (lastF p) ((((getR (upF p) t).1).v).length : Int)).1), vb ((indexF (lastF p) ((((getR (upF p) t).1).v).length : Int)).2)]))]), (17, rc [(3, ciA 128 [aTr (t), rwS (upF p), .agg [vi 6, vb false, vb false, nilv, vi 0, vs (ba []), nilv, rwT ((((((getR (upF p) t).1).v).take ((indexF (lastF p) ((((getR (upF p) t).1).v).length : Int)).1).toNat) ++ ([(Tree.et v)])) ++ ((((getR (upF p) t).1).v).drop ((indexF (lastF p) ((((getR (upF p) t).1).v).length : Int)).1).toNat))]] [] [17012] (.val (.tup [aTr (((putR (upF p) t (Tree.mk 6 false ⟨false, [], 0⟩ (ba []) ([]) ((((((getR (upF p) t).1).v).take ((indexF (lastF p) ((((getR (upF p) t).1).v).length : Int)).1).toNat) ++ ([(Tree.et v)])) ++ ((((getR (upF p) t).1).v).drop ((indexF (lastF p) ((((getR (upF p) t).1).v).length : Int)).1).toNat)))).1)), vb ((putR (upF p) t (Tree.mk 6 false ⟨false, [], 0⟩ (ba []) ([]) ((((((getR (upF p) t).1).v).take ((indexF (lastF p) ((((getR (upF p) t).1).v).length : Int)).1).toNat) ++ ([(Tree.et v)])) ++ ((((getR (upF p) t).1).v).drop ((indexF (lastF p) ((((getR (upF p) t).1).v).length : Int)).1).toNat)))).2)])))])] (bz 4 2) 1660848666687307173897989798966884879079898 [q1 b3, q1 b4, q1 b5, q1 (ng1 b6), ⟨0 ≤ (0 : Int) ∧ (0 : Int) ≤ ((indexF (lastF p) ((((getR (upF p) t).1).v).length : Int)).1) ∧ ((indexF (lastF p) ((((getR (upF p) t).1).v).length : Int)).1) ≤ ((((getR (upF p) t).1).v).length : Int) ∧ ((((getR (upF p) t).1).v).length : Int) ≤ ((((getR (upF p) t).1).v).length : Int), (by (repeat' apply And.intro) <;> (try split) <;> omega)⟩, ⟨(((((getR (upF p) t).1).v).take ((indexF (lastF p) ((((getR (upF p) t).1).v).length : Int)).1).toNat).length * 120 : Nat) ≤ 140737488355328 ∧ ((((getR (upF p) t).1).v).take ((indexF (lastF p) ((((getR (upF p) t).1).v).length : Int)).1).toNat).length ≤ 140737488355328, (by skip; (try simp only [List.length_append, List.length_take, List.length_drop, List.length_cons, List.length_nil]); omega)⟩, ⟨((((((getR (upF p) t).1).v).take ((indexF (lastF p) ((((getR (upF p) t).1).v).length : Int)).1).toNat).length + 1) * 120 : Nat) ≤ 140737488355328 ∧ ((((getR (upF p) t).1).v).take ((indexF (lastF p) ((((getR (upF p) t).1).v).length : Int)).1).toNat).length + 1 ≤ 140737488355328, (by skip; (try simp only [List.length_append, List.length_take, List.length_drop, List.length_cons, List.length_nil]); omega)⟩, ⟨0 ≤ ((indexF (lastF p) ((((getR (upF p) t).1).v).length : Int)).1) ∧ ((indexF (lastF p) ((((getR (upF p) t).1).v).length : Int)).1) ≤ ((((getR (upF p) t).1).v).length : Int) ∧ ((((getR (upF p) t).1).v).length : Int) ≤ ((((getR (upF p) t).1).v).length : Int) ∧ ((((getR (upF p) t).1).v).length : Int) ≤ ((((getR (upF p) t).1).v).length : Int), (by (repeat' apply And.intro) <;> (try split) <;> omega)⟩, ⟨(((((((getR (upF p) t).1).v).take ((indexF (lastF p) ((((getR (upF p) t).1).v).length : Int)).1).toNat) ++ ([(Tree.et v)])).length + ((((getR (upF p) t).1).v).drop ((indexF (lastF p) ((((getR (upF p) t).1).v).length : Int)).1).toNat).length) * 120 : Nat) ≤ 140737488355328 ∧ (((((getR (upF p) t).1).v).take ((indexF (lastF p) ((((getR (upF p) t).1).v).length : Int)).1).toNat) ++ ([(Tree.et v)])).length + ((((getR (upF p) t).1).v).drop ((indexF (lastF p) ((((getR (upF p) t).1).v).length : Int)).1).toNat).length ≤ 140737488355328, (by skip; (try simp only [List.length_append, List.length_take, List.length_drop, List.length_cons, List.length_nil]); omega)⟩] .ret [(6, .ptr 1002 0), (7, vb ((putR (upF p) t (Tree.mk 6 false ⟨false, [], 0⟩ (ba []) ([]) ((((((getR (upF p) t).1).v).take ((indexF (lastF p) ((((getR (upF p) t).1).v).length : Int)).1).toNat) ++ ([(Tree.et v)])) ++ ((((getR (upF p) t).1).v).drop ((indexF (lastF p) ((((getR (upF p) t).1).v).length : Int)).1).toNat)))).2))] [(1002, bTr (((putR (upF p) t (Tree.mk 6 false ⟨false, [], 0⟩ (ba []) ([]) ((((((getR (upF p) t).1).v).take ((indexF (lastF p) ((((getR (upF p) t).1).v).length : Int)).1).toNat) ++ ([(Tree.et v)])) ++ ((((getR (upF p) t).1).v).drop ((indexF (lastF p) ((((getR (upF p) t).1).v).length : Int)).1).toNat)))).1)))] ⟨con176 _ _, Con.told (con128_ (Tree.mk 6 false ⟨false, [], 0⟩ (ba []) ([]) ((((((getR (upF p) t).1).v).take ((indexF (lastF p) ((((getR (upF p) t).1).v).length : Int)).1).toNat) ++ ([(Tree.et v)])) ++ ((((getR (upF p) t).1).v).drop ((indexF (lastF p) ((((getR (upF p) t).1).v).length : Int)).1).toNat))) _ (upF p) t (Nat.lt_succ_self _) (by omega)) ⟨.inl rfl, .inl rfl, .inr (.inr ⟨_, rfl, _, rfl, .inl rfl, .inl rfl, .inl rfl, .inr ⟨rfl, _, rfl⟩, .inl rfl, .inl rfl, .inr ⟨rfl, _, rfl⟩, .inl rfl, trivial⟩), trivial⟩, tv⟩ fun a w hs => ?_
 exact rK (.val (.tup [aTr (((putR (upF p) t (Tree.mk 6 false ⟨false, [], 0⟩ (ba []) ([]) ((((((getR (upF p) t).1).v).take ((indexF (lastF p) ((((getR (upF p) t).1).v).length : Int)).1).toNat) ++ ([(Tree.et v)])) ++ ((((getR (upF p) t).1).v).drop ((indexF (lastF p) ((((getR (upF p) t).1).v).length : Int)).1).toNat)))).1)), vb ((putR (upF p) t (Tree.mk 6 false ⟨false, [], 0⟩ (ba []) ([]) ((((((getR (upF p) t).1).v).take ((indexF (lastF p) ((((getR (upF p) t).1).v).length : Int)).1).toNat) ++ ([(Tree.et v)])) ++ ((((getR (upF p) t).1).v).drop ((indexF (lastF p) ((((getR (upF p) t).1).v).length : Int)).1).toNat)))).2)])) [] hs (by rw [addR, if_neg (by rw [b1]; decide), if_pos b2, if_neg (by rw [b3]; decide), if_pos b4, if_neg (by rw [b5]; decide), if_pos b6]; first | done | rfl | (simp only [Tree.eta', itemsT, insV, delV]; done) | (simp only [Tree.eta', itemsT, insV, delV]; rfl))
 refine wL hs hI [(11, rc [(4, ciV 176 [vs (lastF p), vi ((((getR (upF p) t).1).v).length : Int)] (.tup [vi ((indexF (lastF p) ((((getR (upF p) t).1).v).length : Int)).1), vb ((indexF (lastF p) ((((getR (upF p) t).1).v).length : Int)).2)]))])] (bz 4 10) 12987989798966884879079898 [q1 b3, q1 b4, q1 b5, q1 (ng0 b6)] .ret [(6, .ptr 1002 0), (7, vb false)] [(1002, .var zTr)] ⟨con176 _ _, tv⟩ fun a w hs => ?_
 exact rK (.val (.tup [.agg [vi 0, vb false, vb false, rwU ([]), vi 0, vs (ba []), rwS ([]), rwT ([])], vb false])) [] hs (by rw [addR, if_neg (by rw [b1]; decide), if_pos b2, if_neg (by rw [b3]; decide), if_pos b4, if_neg (by rw [b5]; decide), if_neg (by rw [b6]; decide)]; first | done | rfl | (simp only [Tree.eta', itemsT, insV, delV]; done) | (simp only [Tree.eta', itemsT, insV, delV]; rfl))
 refine wN hs hI (bz 2 0) 129182679079898 [q1 b3, q1 b4] .ret [(6, .ptr 1002 0), (7, vb false)] [(1002, .var zTr)] fun a w hs => ?_
 exact rK (.val (.tup [.agg [vi 0, vb false, vb false, rwU ([]), vi 0, vs (ba []), rwS ([]), rwT ([])], vb false])) [] hs (by rw [addR, if_neg (by rw [b1]; decide), if_pos b2, if_neg (by rw [b3]; decide), if_neg (by rw [b4]; decide)]; first | done | rfl | (simp only [Tree.eta', itemsT, insV, delV]; done) | (simp only [Tree.eta', itemsT, insV, delV]; rfl))
 refine wN hs hI (bz 1 1) 1298798 [q1 (ng0 b2)] .ret [(6, .ptr 1002 0), (7, vb false)] [(1002, .var zTr)] fun a w hs => ?_
 refine then_ret ?_
 exact rK (.val (.tup [.agg [vi 0, vb false, vb false, rwU ([]), vi 0, vs (ba []), rwS ([]), rwT ([])], vb false])) [] hs (by rw [addR, if_neg (by rw [b1]; decide), if_neg (by rw [b2]; decide)]; first | done | rfl | (simp only [Tree.eta', itemsT, insV, delV]; done) | (simp only [Tree.eta', itemsT, insV, delV]; rfl))
theorem con127 (t : Tree) (p : List ByteArray) (hn : nodes t < 100000000) (hp : p.length < 1000000000) : Con Tryz.prog I0 127 [.agg (encTree t), .row .str p] (.val (.tup [.agg (encTree ((removeR t p).1)), vb ((removeR t p).2)])) := by
 have hgn := getR_nodes (upF p) t
 have hgl := nodesL_len (getR (upF p) t).1.v
 have hge := nodes_eq (getR (upF p) t).1
 refine con_of Tryz.func127 rfl (Nat.le_of_ble_eq_true rfl) stab (fun w0 fz a hI hs => ?_)
 refine wNs hs hI [] 18 [] [(1, rwS p), (2, .ptr 1000 0), (4, .ptr 1001 0)] [(1000, bTr (t)), (1001, .var zTr)] fun a w hs => ?_
 refine wp_seq ?_
 rcases bq (p.length : Int) (0) with ⟨b1, n1⟩ | ⟨b1, n1⟩
 refine wN hs hI (bz 1 1) 129872918 [q1 b1] .ret [(4, .ptr 1001 0), (5, vb false)] [(1001, .var zTr)] fun a w hs => ?_
 refine then_ret ?_
 exact rK (.val (.tup [.agg [vi 0, vb false, vb false, rwU ([]), vi 0, vs (ba []), rwS ([]), rwT ([])], vb false])) [] hs (by rw [removeR, if_pos b1]; first | done | rfl | (simp only [Tree.eta', itemsT, insV, delV]; done) | (simp only [Tree.eta', itemsT, insV, delV]; rfl))
 refine wN hs hI (bz 1 0) 72918 [q1 b1] .norm [(1, rwS p), (2, .ptr 1000 0), (4, .ptr 1001 0)] [(1000, bTr (t)), (1001, .var zTr)] fun a w hs => ?_
 refine then_norm ?_
 refine wp_seq ?_
 rcases bt ((getR p t).2) with b2 | b2
 refine wL hs hI [(3, rc [(2, ciV 63 [aTr (t), rwS p] (.tup [aTr (((getR p t).1)), vb ((getR p t).2)]))])] (bz 1 0) 79826618840 [q1 (ng1 b2)] .norm [(1, rwS p), (2, .ptr 1000 0), (4, .ptr 1001 0)] [(1000, bTr (t)), (1001, .var zTr)] ⟨con63 _ _ (by omega) (by first | omega | (rw [List.length_take]; omega)), tv⟩ fun a w hs => ?_
 refine then_norm ?_
 refine wNs hs hI [] 8730738 [q3 ((p.length : Int) - 1), ⟨0 ≤ (0 : Int) ∧ (0 : Int) ≤ ((p.length : Int) - 1) ∧ ((p.length : Int) - 1) ≤ (p.length : Int) ∧ (p.length : Int) ≤ (p.length : Int), (by (repeat' apply And.intro) <;> (try split) <;> omega)⟩, q3 ((p.length : Int) - 1), q4 ((p.length : Int) - 1) p.length] [(2, .ptr 1000 0), (4, .ptr 1001 0), (8, rwS (upF p)), (9, vs (lastF p))] [(1000, bTr (t)), (1001, .var zTr)] fun a w hs => ?_
 refine wLs hs hI [(7, rc [(2, ciV 63 [aTr (t), rwS (upF p)] (.tup [aTr (((getR (upF p) t).1)), vb ((getR (upF p) t).2)]))])] [] 18840 [] [(2, .ptr 1000 0), (4, .ptr 1001 0), (8, rwS (upF p)), (9, vs (lastF p)), (10, .ptr 8006 0)] [(1000, bTr (t)), (1001, .var zTr), (8006, bTr (((getR (upF p) t).1)))] ⟨con63 _ _ (by omega) (by first | omega | (rw [List.length_take]; omega)), tv⟩ fun a w hs => ?_
 rcases bq (((getR (upF p) t).1).kind) (7) with ⟨b3, n3⟩ | ⟨b3, n3⟩
 refine wL hs hI [(9, rc [(4, ciV 21 [aTr (((getR (upF p) t).1)), vs (lastF p)] (aTr ((unsetT ((getR (upF p) t).1) (lastF p))))), (5, ciV 128 [aTr (t), rwS (upF p), aTr ((unsetT ((getR (upF p) t).1) (lastF p)))] (.tup [aTr (((putR (upF p) t (unsetT ((getR (upF p) t).1) (lastF p))).1)), vb ((putR (upF p) t (unsetT ((getR (upF p) t).1) (lastF p))).2)]))])] (bz 1 1) 19660844872918 [q1 b3] .ret [(4, .ptr 1001 0), (5, vb ((putR (upF p) t (unsetT ((getR (upF p) t).1) (lastF p))).2))] [(1001, bTr (((putR (upF p) t (unsetT ((getR (upF p) t).1) (lastF p))).1)))] ⟨con21 _ _ (by have h1 := nodes_eq (getR (upF p) t).1; have h2 := nodesL_len (getR (upF p) t).1.v; have h3 := getR_nodes (upF p) t; omega), con128_ (unsetT ((getR (upF p) t).1) (lastF p)) _ (upF p) t (Nat.lt_succ_self _) (by omega), tv⟩ fun a w hs => ?_
 exact rK (.val (.tup [aTr (((putR (upF p) t (unsetT ((getR (upF p) t).1) (lastF p))).1)), vb ((putR (upF p) t (unsetT ((getR (upF p) t).1) (lastF p))).2)])) [] hs (by rw [removeR, if_neg (by rw [b1]; decide), if_pos b2, if_pos b3]; first | done | rfl | (simp only [Tree.eta', itemsT, insV, delV]; done) | (simp only [Tree.eta', itemsT, insV, delV]; rfl))
 have hix := remove_ix (t := t) (p := p) (by omega) (by assumption) (by omega)
 refine wL hs hI [(10, rc [(5, ciV 176 [vs (lastF p), vi (((((getR (upF p) t).1).v).length : Int) - 1)] (.tup [vi ((indexF (lastF p) (((((getR (upF p) t).1).v).length : Int) - 1)).1), vb ((indexF (lastF p) (((((getR (upF p) t).1).v).length : Int) - 1)).2)]))]), (12, rc [(3, ciA 128 [aTr (t), rwS (upF p), .agg [vi 6, vb false, vb false, nilv, vi 0, vs (ba []), nilv, rwT (((((getR (upF p) t).1).v).take ((indexF (lastF p) (((((getR (upF p) t).1).v).length : Int) - 1)).1).toNat) ++ ((((getR (upF p) t).1).v).drop (((indexF (lastF p) (((((getR (upF p) t).1).v).length : Int) - 1)).1) + 1).toNat))]] [] [12010] (.val (.tup [aTr (((putR (upF p) t (Tree.mk 6 false ⟨false, [], 0⟩ (ba []) ([]) (((((getR (upF p) t).1).v).take ((indexF (lastF p) (((((getR (upF p) t).1).v).length : Int) - 1)).1).toNat) ++ ((((getR (upF p) t).1).v).drop (((indexF (lastF p) (((((getR (upF p) t).1).v).length : Int) - 1)).1) + 1).toNat)))).1)), vb ((putR (upF p) t (Tree.mk 6 false ⟨false, [], 0⟩ (ba []) ([]) (((((getR (upF p) t).1).v).take ((indexF (lastF p) (((((getR (upF p) t).1).v).length : Int) - 1)).1).toNat) ++ ((((getR (upF p) t).1).v).drop (((indexF (lastF p) (((((getR (upF p) t).1).v).length : Int) - 1)).1) + 1).toNat)))).2)])))])] (bz 1 0) 16608489666873307382966884318972918 [q1 b3, q3 (((((getR (upF p) t).1).v).length : Int) - 1), ⟨0 ≤ (0 : Int) ∧ (0 : Int) ≤ ((indexF (lastF p) (((((getR (upF p) t).1).v).length : Int) - 1)).1) ∧ ((indexF (lastF p) (((((getR (upF p) t).1).v).length : Int) - 1)).1) ≤ ((((getR (upF p) t).1).v).length : Int) ∧ ((((getR (upF p) t).1).v).length : Int) ≤ ((((getR (upF p) t).1).v).length : Int), (by (repeat' apply And.intro) <;> (try split) <;> omega)⟩, ⟨(((((getR (upF p) t).1).v).take ((indexF (lastF p) (((((getR (upF p) t).1).v).length : Int) - 1)).1).toNat).length * 120 : Nat) ≤ 140737488355328 ∧ ((((getR (upF p) t).1).v).take ((indexF (lastF p) (((((getR (upF p) t).1).v).length : Int) - 1)).1).toNat).length ≤ 140737488355328, (by skip; (try simp only [List.length_append, List.length_take, List.length_drop, List.length_cons, List.length_nil]); omega)⟩, q3 (((indexF (lastF p) (((((getR (upF p) t).1).v).length : Int) - 1)).1) + 1), ⟨0 ≤ (((indexF (lastF p) (((((getR (upF p) t).1).v).length : Int) - 1)).1) + 1) ∧ (((indexF (lastF p) (((((getR (upF p) t).1).v).length : Int) - 1)).1) + 1) ≤ ((((getR (upF p) t).1).v).length : Int) ∧ ((((getR (upF p) t).1).v).length : Int) ≤ ((((getR (upF p) t).1).v).length : Int) ∧ ((((getR (upF p) t).1).v).length : Int) ≤ ((((getR (upF p) t).1).v).length : Int), (by (repeat' apply And.intro) <;> (try split) <;> omega)⟩, ⟨((((((getR (upF p) t).1).v).take ((indexF (lastF p) (((((getR (upF p) t).1).v).length : Int) - 1)).1).toNat).length + ((((getR (upF p) t).1).v).drop (((indexF (lastF p) (((((getR (upF p) t).1).v).length : Int) - 1)).1) + 1).toNat).length) * 120 : Nat) ≤ 140737488355328 ∧ ((((getR (upF p) t).1).v).take ((indexF (lastF p) (((((getR (upF p) t).1).v).length : Int) - 1)).1).toNat).length + ((((getR (upF p) t).1).v).drop (((indexF (lastF p) (((((getR (upF p) t).1).v).length : Int) - 1)).1) + 1).toNat).length ≤ 140737488355328, (by skip; (try simp only [List.length_append, List.length_take, List.length_drop, List.length_cons, List.length_nil]); omega)⟩] .ret [(4, .ptr 1001 0), (5, vb ((putR (upF p) t (Tree.mk 6 false ⟨false, [], 0⟩ (ba []) ([]) (((((getR (upF p) t).1).v).take ((indexF (lastF p) (((((getR (upF p) t).1).v).length : Int) - 1)).1).toNat) ++ ((((getR (upF p) t).1).v).drop (((indexF (lastF p) (((((getR (upF p) t).1).v).length : Int) - 1)).1) + 1).toNat)))).2))] [(1001, bTr (((putR (upF p) t (Tree.mk 6 false ⟨false, [], 0⟩ (ba []) ([]) (((((getR (upF p) t).1).v).take ((indexF (lastF p) (((((getR (upF p) t).1).v).length : Int) - 1)).1).toNat) ++ ((((getR (upF p) t).1).v).drop (((indexF (lastF p) (((((getR (upF p) t).1).v).length : Int) - 1)).1) + 1).toNat)))).1)))] ⟨con176 _ _, Con.told (con128_ (Tree.mk 6 false ⟨false, [], 0⟩ (ba []) ([]) (((((getR (upF p) t).1).v).take ((indexF (lastF p) (((((getR (upF p) t).1).v).length : Int) - 1)).1).toNat) ++ ((((getR (upF p) t).1).v).drop (((indexF (lastF p) (((((getR (upF p) t).1).v).length : Int) - 1)).1) + 1).toNat))) _ (upF p) t (Nat.lt_succ_self _) (by omega)) ⟨.inl rfl, .inl rfl, .inr (.inr ⟨_, rfl, _, rfl, .inl rfl, .inl rfl, .inl rfl, .inr ⟨rfl, _, rfl⟩, .inl rfl, .inl rfl, .inr ⟨rfl, _, rfl⟩, .inl rfl, trivial⟩), trivial⟩, tv⟩ fun a w hs => ?_
 exact rK (.val (.tup [aTr (((putR (upF p) t (Tree.mk 6 false ⟨false, [], 0⟩ (ba []) ([]) (((((getR (upF p) t).1).v).take ((indexF (lastF p) (((((getR (upF p) t).1).v).length : Int) - 1)).1).toNat) ++ ((((getR (upF p) t).1).v).drop (((indexF (lastF p) (((((getR (upF p) t).1).v).length : Int) - 1)).1) + 1).toNat)))).1)), vb ((putR (upF p) t (Tree.mk 6 false ⟨false, [], 0⟩ (ba []) ([]) (((((getR (upF p) t).1).v).take ((indexF (lastF p) (((((getR (upF p) t).1).v).length : Int) - 1)).1).toNat) ++ ((((getR (upF p) t).1).v).drop (((indexF (lastF p) (((((getR (upF p) t).1).v).length : Int) - 1)).1) + 1).toNat)))).2)])) [] hs (by rw [removeR, if_neg (by rw [b1]; decide), if_pos b2, if_neg (by rw [b3]; decide)]; first | done | rfl | (simp only [Tree.eta', itemsT, insV, delV]; done) | (simp only [Tree.eta', itemsT, insV, delV]; rfl))
 refine wL hs hI [(3, rc [(2, ciV 63 [aTr (t), rwS p] (.tup [aTr (((getR p t).1)), vb ((getR p t).2)]))])] (bz 1 1) 129879826618840 [q1 (ng0 b2)] .ret [(4, .ptr 1001 0), (5, vb false)] [(1001, .var zTr)] ⟨con63 _ _ (by omega) (by first | omega | (rw [List.length_take]; omega)), tv⟩ fun a w hs => ?_
 refine then_ret ?_
 exact rK (.val (.tup [.agg [vi 0, vb false, vb false, rwU ([]), vi 0, vs (ba []), rwS ([]), rwT ([])], vb false])) [] hs (by rw [removeR, if_neg (by rw [b1]; decide), if_neg (by rw [b2]; decide)]; first | done | rfl | (simp only [Tree.eta', itemsT, insV, delV]; done) | (simp only [Tree.eta', itemsT, insV, delV]; rfl))
theorem con129 (t : Tree) (xs ys : List ByteArray) (hn : nodes t < 30000000) (hp : xs.length < 1000000000) (hq : ys.length < 1000000000) : Con Tryz.prog I0 129 [.agg (encTree t), .row .str xs, .row .str ys] (.val (.tup [.agg (encTree ((moveR t xs ys).1)), vb ((moveR t xs ys).2)])) := by
 refine con_of Tryz.func129 rfl (Nat.le_of_ble_eq_true rfl) stab (fun w0 fz a hI hs => ?_)
 refine wNs hs hI [] 18 [] [(1, rwS xs), (2, rwS ys), (3, .ptr 1000 0), (6, .ptr 1001 0)] [(1000, bTr (t)), (1001, .var zTr)] fun a w hs => ?_
 refine wLs hs hI [(1, rc [(2, ciV 63 [aTr (t), rwS xs] (.tup [aTr (((getR xs t).1)), vb ((getR xs t).2)]))])] [] 18840 [] [(1, rwS xs), (2, rwS ys), (3, .ptr 1000 0), (6, .ptr 1001 0), (8, .ptr 2006 0), (9, vb ((getR xs t).2))] [(1000, bTr (t)), (1001, .var zTr), (2006, bTr (((getR xs t).1)))] ⟨con63 _ _ (by omega) (by first | omega | (rw [List.length_take]; omega)), tv⟩ fun a w hs => ?_
 refine wp_seq ?_
 rcases bt ((getR xs t).2) with b1 | b1
 rcases bt (startsF xs ys) with b2 | b2
 rcases bd ((xs.length : Int) < (ys.length : Int)) with ⟨b3, n3⟩ | ⟨b3, n3⟩
 refine wL hs hI [(2, rg [(5, ciV 93 [rwS xs, rwS ys] (vb (startsF xs ys)))] [3, 4, 5, 6, 7, 8, 9, 10, 11, 12, 1012] [1013])] (bz 1 1) 1298766666673377777743778 [q1 (ng1 b1), q1 (ng1 b1), q1 (ng1 b1), q1 (ng1 b1), q1 b2, q1 b2, q1 b2, q1 b2, q1 b2, q1 (ng1 b1), q1 b2, q1 (ng1 b1), q1 b3] .ret [(6, .ptr 1001 0), (7, vb false)] [(1001, .var zTr)] ⟨con93 _ _ (by omega) (by omega), tv⟩ fun a w hs => ?_
 refine then_ret ?_
 exact rK (.val (.tup [.agg [vi 0, vb false, vb false, rwU ([]), vi 0, vs (ba []), rwS ([]), rwT ([])], vb false])) [] hs (by rw [moveR, if_pos b1, if_pos (by first | (simp only [b2, b3]; done) | (simp [b2, b3]; done) | (simp [b2, b3]; omega))]; rfl)
 refine wL hs hI [(2, rg [(5, ciV 93 [rwS xs, rwS ys] (vb (startsF xs ys)))] [3, 4, 5, 6, 7, 8, 9, 10, 11, 12, 1012] [1013])] (bz 1 0) 766666673377777743778 [q1 (ng1 b1), q1 (ng1 b1), q1 (ng1 b1), q1 (ng1 b1), q1 b2, q1 b2, q1 b2, q1 b2, q1 b2, q1 (ng1 b1), q1 b2, q1 (ng1 b1), q1 b3] .norm [(1, rwS xs), (2, rwS ys), (3, .ptr 1000 0), (6, .ptr 1001 0), (8, .ptr 2006 0)] [(1000, bTr (t)), (1001, .var zTr), (2006, bTr (((getR xs t).1)))] ⟨con93 _ _ (by omega) (by omega), tv⟩ fun a w hs => ?_
 refine then_norm ?_
 refine wp_seq ?_
 rcases bq (xs.length : Int) (ys.length : Int) with ⟨b4, n4⟩ | ⟨b4, n4⟩
 refine wL hs hI [(4, rg [(8, ciV 93 [rwS xs, rwS ys] (vb (startsF xs ys)))] [6, 7, 8, 1009] [])] (bz 1 1) 1298726667437788 [q1 b4, q1 b4, q1 b4, q1 b4, q1 b2] .ret [(6, .ptr 1001 0), (7, vb true)] [(1001, bTr (t))] ⟨con93 _ _ (by omega) (by omega), tv⟩ fun a w hs => ?_
 refine then_ret ?_
 exact rK (.val (.tup [aTr (t), vb true])) [] hs (by rw [moveR, if_pos b1, if_neg (by first | (simp only [b2, b3, b4]; done) | (simp [b2, b3, b4]; done) | (simp [b2, b3, b4]; omega)), if_pos (by first | (simp only [b2, b3, b4]; done) | (simp [b2, b3, b4]; done) | (simp [b2, b3, b4]; omega))])
 refine wL hs hI [(4, rg [] [] [6, 7, 8, 1009])] (bz 1 0) 7966733388 [q1 b4, q1 b4, q1 b4, q1 b4, q0 false] .norm [(1, rwS xs), (2, rwS ys), (3, .ptr 1000 0), (6, .ptr 1001 0), (8, .ptr 2006 0)] [(1000, bTr (t)), (1001, .var zTr), (2006, bTr (((getR xs t).1)))] tv fun a w hs => ?_
 refine then_norm ?_
 rcases bt ((removeR t xs).2) with b5 | b5
 refine wL hs hI [(6, rc [(2, ciV 127 [aTr (t), rwS xs] (.tup [aTr (((removeR t xs).1)), vb ((removeR t xs).2)]))]), (9, rc [(3, ciV 126 [aTr (((removeR t xs).1)), rwS ys, aTr (((getR xs t).1))] (.tup [aTr (((addR ((removeR t xs).1) ys ((getR xs t).1)).1)), vb ((addR ((removeR t xs).1) ys ((getR xs t).1)).2)]))])] (bz 1 0) 1660848979826618840 [q1 (ng1 b5)] .ret [(6, .ptr 1001 0), (7, vb ((addR ((removeR t xs).1) ys ((getR xs t).1)).2))] [(1001, bTr (((addR ((removeR t xs).1) ys ((getR xs t).1)).1)))] ⟨con127 _ _ (by omega) (by omega), con126 _ _ _ (by have := remove_nodes t xs; omega) (by omega), tv⟩ fun a w hs => ?_
 exact rK (.val (.tup [aTr (((addR ((removeR t xs).1) ys ((getR xs t).1)).1)), vb ((addR ((removeR t xs).1) ys ((getR xs t).1)).2)])) [] hs (by rw [moveR, if_pos b1, if_neg (by first | (simp only [b2, b3, b4]; done) | (simp [b2, b3, b4]; done) | (simp [b2, b3, b4]; omega)), if_neg (by first | (simp only [b2, b3, b4]; done) | (simp [b2, b3, b4]; done) | (simp [b2, b3, b4]; omega)), if_pos b5]; try rfl)
 refine wL hs hI [(6, rc [(2, ciV 127 [aTr (t), rwS xs] (.tup [aTr (((removeR t xs).1)), vb ((removeR t xs).2)]))])] (bz 1 1) 129879826618840 [q1 (ng0 b5)] .ret [(6, .ptr 1001 0), (7, vb false)] [(1001, .var zTr)] ⟨con127 _ _ (by omega) (by omega), tv⟩ fun a w hs => ?_
 exact rK (.val (.tup [.agg [vi 0, vb false, vb false, rwU ([]), vi 0, vs (ba []), rwS ([]), rwT ([])], vb false])) [] hs (by rw [moveR, if_pos b1, if_neg (by first | (simp only [b2, b3, b4]; done) | (simp [b2, b3, b4]; done) | (simp [b2, b3, b4]; omega)), if_neg (by first | (simp only [b2, b3, b4]; done) | (simp [b2, b3, b4]; done) | (simp [b2, b3, b4]; omega)), if_neg (by rw [b5]; decide)]; try rfl)
 refine wL hs hI [(2, rg [(5, ciV 93 [rwS xs, rwS ys] (vb (startsF xs ys)))] [3, 4, 5, 6, 12] [7, 8, 9, 10, 11, 1012, 1013])] (bz 1 0) 729666673333333743778 [q1 (ng1 b1), q1 (ng1 b1), q1 (ng1 b1), q1 (ng1 b1), q1 b2, q1 b2, q1 b2, q1 b2, q1 b2, q1 (ng1 b1), q1 b2, q1 (ng1 b1), q0 false] .norm [(1, rwS xs), (2, rwS ys), (3, .ptr 1000 0), (6, .ptr 1001 0), (8, .ptr 2006 0)] [(1000, bTr (t)), (1001, .var zTr), (2006, bTr (((getR xs t).1)))] ⟨con93 _ _ (by omega) (by omega), tv⟩ fun a w hs => ?_
 refine then_norm ?_
 refine wp_seq ?_
 rcases bq (xs.length : Int) (ys.length : Int) with ⟨b6, n6⟩ | ⟨b6, n6⟩
 refine wL hs hI [(4, rg [(8, ciV 93 [rwS xs, rwS ys] (vb (startsF xs ys)))] [6, 7, 8, 1009] [])] (bz 1 0) 726667437788 [q1 b6, q1 b6, q1 b6, q1 b6, q1 b2] .norm [(1, rwS xs), (2, rwS ys), (3, .ptr 1000 0), (6, .ptr 1001 0), (8, .ptr 2006 0)] [(1000, bTr (t)), (1001, .var zTr), (2006, bTr (((getR xs t).1)))] ⟨con93 _ _ (by omega) (by omega), tv⟩ fun a w hs => ?_
 refine then_norm ?_
 rcases bt ((removeR t xs).2) with b7 | b7
 refine wL hs hI [(6, rc [(2, ciV 127 [aTr (t), rwS xs] (.tup [aTr (((removeR t xs).1)), vb ((removeR t xs).2)]))]), (9, rc [(3, ciV 126 [aTr (((removeR t xs).1)), rwS ys, aTr (((getR xs t).1))] (.tup [aTr (((addR ((removeR t xs).1) ys ((getR xs t).1)).1)), vb ((addR ((removeR t xs).1) ys ((getR xs t).1)).2)]))])] (bz 1 0) 1660848979826618840 [q1 (ng1 b7)] .ret [(6, .ptr 1001 0), (7, vb ((addR ((removeR t xs).1) ys ((getR xs t).1)).2))] [(1001, bTr (((addR ((removeR t xs).1) ys ((getR xs t).1)).1)))] ⟨con127 _ _ (by omega) (by omega), con126 _ _ _ (by have := remove_nodes t xs; omega) (by omega), tv⟩ fun a w hs => ?_
 exact rK (.val (.tup [aTr (((addR ((removeR t xs).1) ys ((getR xs t).1)).1)), vb ((addR ((removeR t xs).1) ys ((getR xs t).1)).2)])) [] hs (by rw [moveR, if_pos b1, if_neg (by first | (simp only [b2, b6]; done) | (simp [b2, b6]; done) | (simp [b2, b6]; omega)), if_neg (by first | (simp only [b2, b6]; done) | (simp [b2, b6]; done) | (simp [b2, b6]; omega)), if_pos b7]; try rfl)
 refine wL hs hI [(6, rc [(2, ciV 127 [aTr (t), rwS xs] (.tup [aTr (((removeR t xs).1)), vb ((removeR t xs).2)]))])] (bz 1 1) 129879826618840 [q1 (ng0 b7)] .ret [(6, .ptr 1001 0), (7, vb false)] [(1001, .var zTr)] ⟨con127 _ _ (by omega) (by omega), tv⟩ fun a w hs => ?_
 exact rK (.val (.tup [.agg [vi 0, vb false, vb false, rwU ([]), vi 0, vs (ba []), rwS ([]), rwT ([])], vb false])) [] hs (by rw [moveR, if_pos b1, if_neg (by first | (simp only [b2, b6]; done) | (simp [b2, b6]; done) | (simp [b2, b6]; omega)), if_neg (by first | (simp only [b2, b6]; done) | (simp [b2, b6]; done) | (simp [b2, b6]; omega)), if_neg (by rw [b7]; decide)]; try rfl)
 refine wL hs hI [(4, rg [] [] [6, 7, 8, 1009])] (bz 1 0) 7966733388 [q1 b6, q1 b6, q1 b6, q1 b6, q0 false] .norm [(1, rwS xs), (2, rwS ys), (3, .ptr 1000 0), (6, .ptr 1001 0), (8, .ptr 2006 0)] [(1000, bTr (t)), (1001, .var zTr), (2006, bTr (((getR xs t).1)))] tv fun a w hs => ?_
 refine then_norm ?_
 rcases bt ((removeR t xs).2) with b8 | b8
 refine wL hs hI [(6, rc [(2, ciV 127 [aTr (t), rwS xs] (.tup [aTr (((removeR t xs).1)), vb ((removeR t xs).2)]))]), (9, rc [(3, ciV 126 [aTr (((removeR t xs).1)), rwS ys, aTr (((getR xs t).1))] (.tup [aTr (((addR ((removeR t xs).1) ys ((getR xs t).1)).1)), vb ((addR ((removeR t xs).1) ys ((getR xs t).1)).2)]))])] (bz 1 0) 1660848979826618840 [q1 (ng1 b8)] .ret [(6, .ptr 1001 0), (7, vb ((addR ((removeR t xs).1) ys ((getR xs t).1)).2))] [(1001, bTr (((addR ((removeR t xs).1) ys ((getR xs t).1)).1)))] ⟨con127 _ _ (by omega) (by omega), con126 _ _ _ (by have := remove_nodes t xs; omega) (by omega), tv⟩ fun a w hs => ?_
 exact rK (.val (.tup [aTr (((addR ((removeR t xs).1) ys ((getR xs t).1)).1)), vb ((addR ((removeR t xs).1) ys ((getR xs t).1)).2)])) [] hs (by rw [moveR, if_pos b1, if_neg (by first | (simp only [b2, b6]; done) | (simp [b2, b6]; done) | (simp [b2, b6]; omega)), if_neg (by first | (simp only [b2, b6]; done) | (simp [b2, b6]; done) | (simp [b2, b6]; omega)), if_pos b8]; try rfl)
 refine wL hs hI [(6, rc [(2, ciV 127 [aTr (t), rwS xs] (.tup [aTr (((removeR t xs).1)), vb ((removeR t xs).2)]))])] (bz 1 1) 129879826618840 [q1 (ng0 b8)] .ret [(6, .ptr 1001 0), (7, vb false)] [(1001, .var zTr)] ⟨con127 _ _ (by omega) (by omega), tv⟩ fun a w hs => ?_
 exact rK (.val (.tup [.agg [vi 0, vb false, vb false, rwU ([]), vi 0, vs (ba []), rwS ([]), rwT ([])], vb false])) [] hs (by rw [moveR, if_pos b1, if_neg (by first | (simp only [b2, b6]; done) | (simp [b2, b6]; done) | (simp [b2, b6]; omega)), if_neg (by first | (simp only [b2, b6]; done) | (simp [b2, b6]; done) | (simp [b2, b6]; omega)), if_neg (by rw [b8]; decide)]; try rfl)
 refine wL hs hI [(2, rg [] [1013] [3, 4, 5, 6, 12])] (bz 1 1) 129879666731873338 [q1 (ng0 b1), q1 (ng0 b1), q1 (ng0 b1), q1 (ng0 b1), q1 (ng0 b1), q1 (ng0 b1), q0 true] .ret [(6, .ptr 1001 0), (7, vb false)] [(1001, .var zTr)] tv fun a w hs => ?_
 refine then_ret ?_
 exact rK (.val (.tup [.agg [vi 0, vb false, vb false, rwU ([]), vi 0, vs (ba []), rwS ([]), rwT ([])], vb false])) [] hs (by rw [moveR, if_neg (by rw [b1]; decide)]; rfl)
theorem fine_zero : fineT Tree.zero := (fine_eq _).2 ⟨⟨Ok.nil, by decide, by decide, by decide⟩, trivial⟩
theorem fine_childF {t : Tree} (h : fineT t) (x : ByteArray) : fineT (childF t x).1 := by
 unfold childF
 split
 split
 rename_i hi
 have := index_in hi
 exact fine_at h (by omega) _
 exact fine_memV h x
 exact fine_memV h x
theorem fine_getR : ∀ {t : Tree}, fineT t → ∀ (p : List ByteArray), fineT (getR p t).1
 | t, h, [] => h
 | t, h, x :: p => by
  rw [getR]
  split
  exact fine_getR (fine_childF h x) p
  exact fine_zero
theorem con65 (t : Tree) (o : Opn) (hn : nodes t < 30000000) (hp : o.path.length < 1000000000) (hq : o.frm.length < 1000000000) (hft : fineT t) (hfv : fineT o.value) : Con Tryz.prog I0 65 [.agg (encTree t), .agg (enc .opn o)] (.val (.tup [.agg (encTree ((oneR t o.op o.path o.frm o.value).1)), vb ((oneR t o.op o.path o.frm o.value).2)])) := by
 refine con_of Tryz.func65 rfl (Nat.le_of_ble_eq_true rfl) stab (fun w0 fz a hI hs => ?_)
 refine wNs hs hI [] 118 [] [(2, .ptr 1000 0), (3, .ptr 1001 0), (4, .ptr 1002 0)] [(1000, bTr (t)), (1001, .var (enc .opn o)), (1002, .var zTr)] fun a w hs => ?_
 refine wp_seq ?_
 rcases bq (o.op) (1) with ⟨b1, n1⟩ | ⟨b1, n1⟩
 refine wL hs hI [(3, rc [(5, ciV 126 [aTr (t), rwS o.path, aTr (o.value)] (.tup [aTr (((addR t o.path o.value).1)), vb ((addR t o.path o.value).2)]))])] (bz 1 1) 19660841879898 [q1 b1] .ret [(4, .ptr 1002 0), (5, vb ((addR t o.path o.value).2))] [(1002, bTr (((addR t o.path o.value).1)))] ⟨con126 _ _ _ (by omega) (by omega), tv⟩ fun a w hs => ?_
 refine then_ret ?_
 exact rK (.val (.tup [aTr (((addR t o.path o.value).1)), vb ((addR t o.path o.value).2)])) [] hs (by rw [oneR, if_pos b1]; try rfl)
 rcases bq (o.op) (2) with ⟨b2, n2⟩ | ⟨b2, n2⟩
 refine wL hs hI [(5, rc [(3, ciV 127 [aTr (t), rwS o.path] (.tup [aTr (((removeR t o.path).1)), vb ((removeR t o.path).2)]))])] (bz 2 2) 166084079079898 [q1 b1, q1 b2] .ret [(4, .ptr 1002 0), (5, vb ((removeR t o.path).2))] [(1002, bTr (((removeR t o.path).1)))] ⟨con127 _ _ (by omega) (by omega), tv⟩ fun a w hs => ?_
 refine then_ret ?_
 exact rK (.val (.tup [aTr (((removeR t o.path).1)), vb ((removeR t o.path).2)])) [] hs (by rw [oneR, if_neg (by rw [b1]; decide), if_pos b2]; try rfl)
 rcases bq (o.op) (3) with ⟨b3, n3⟩ | ⟨b3, n3⟩
 refine wL hs hI [(7, rc [(5, ciV 128 [aTr (t), rwS o.path, aTr (o.value)] (.tup [aTr (((putR o.path t o.value).1)), vb ((putR o.path t o.value).2)]))])] (bz 3 4) 19660841879079079898 [q1 b1, q1 b2, q1 b3] .ret [(4, .ptr 1002 0), (5, vb ((putR o.path t o.value).2))] [(1002, bTr (((putR o.path t o.value).1)))] ⟨con128_ o.value _ o.path t (Nat.lt_succ_self _) (by omega), tv⟩ fun a w hs => ?_
 refine then_ret ?_
 exact rK (.val (.tup [aTr (((putR o.path t o.value).1)), vb ((putR o.path t o.value).2)])) [] hs (by rw [oneR, if_neg (by rw [b1]; decide), if_neg (by rw [b2]; decide), if_pos b3]; try rfl)
 rcases bq (o.op) (4) with ⟨b4, n4⟩ | ⟨b4, n4⟩
 refine wL hs hI [(9, rc [(5, ciV 129 [aTr (t), rwS o.frm, rwS o.path] (.tup [aTr (((moveR t o.frm o.path).1)), vb ((moveR t o.frm o.path).2)]))])] (bz 4 8) 19660841879079079079898 [q1 b1, q1 b2, q1 b3, q1 b4] .ret [(4, .ptr 1002 0), (5, vb ((moveR t o.frm o.path).2))] [(1002, bTr (((moveR t o.frm o.path).1)))] ⟨con129 _ _ _ (by omega) (by omega) (by omega), tv⟩ fun a w hs => ?_
 refine then_ret ?_
 exact rK (.val (.tup [aTr (((moveR t o.frm o.path).1)), vb ((moveR t o.frm o.path).2)])) [] hs (by rw [oneR, if_neg (by rw [b1]; decide), if_neg (by rw [b2]; decide), if_neg (by rw [b3]; decide), if_pos b4]; try rfl)
 refine wN hs hI (bz 4 0) 79079079079898 [q1 b1, q1 b2, q1 b3, q1 b4] .norm [(2, .ptr 1000 0), (3, .ptr 1001 0), (4, .ptr 1002 0)] [(1000, bTr (t)), (1001, .var (enc .opn o)), (1002, .var zTr)] fun a w hs => ?_
 refine then_norm ?_
 refine wLs hs hI [(10, rc [(3, ciV 63 [aTr (t), rwS o.path] (.tup [aTr (((getR o.path t).1)), vb ((getR o.path t).2)]))])] [] 18848 [] [(2, .ptr 1000 0), (3, .ptr 1001 0), (4, .ptr 1002 0), (6, .ptr 11007 0), (7, vb ((getR o.path t).2))] [(1000, bTr (t)), (1001, .var (enc .opn o)), (1002, .var zTr), (11007, bTr (((getR o.path t).1)))] ⟨con63 _ _ (by omega) (by omega), tv⟩ fun a w hs => ?_
 refine wp_seq ?_
 rcases bq (o.op) (5) with ⟨b5, n5⟩ | ⟨b5, n5⟩
 rcases bt ((getR o.frm t).2) with b6 | b6
 refine wL hs hI [(12, rc [(3, ciV 63 [aTr (t), rwS o.frm] (.tup [aTr (((getR o.frm t).1)), vb ((getR o.frm t).2)]))]), (14, rc [(4, ciV 126 [aTr (t), rwS o.path, aTr (((getR o.frm t).1))] (.tup [aTr (((addR t o.path ((getR o.frm t).1)).1)), vb ((addR t o.path ((getR o.frm t).1)).2)]))])] (bz 2 3) 12660848720266884072918 [q1 b5, q1 b6] .ret [(4, .ptr 1002 0), (5, vb ((addR t o.path ((getR o.frm t).1)).2))] [(1002, bTr (((addR t o.path ((getR o.frm t).1)).1)))] ⟨con63 _ _ (by omega) (by omega), con126 _ _ _ (by omega) (by omega), tv⟩ fun a w hs => ?_
 refine then_ret ?_
 exact rK (.val (.tup [aTr (((addR t o.path ((getR o.frm t).1)).1)), vb ((addR t o.path ((getR o.frm t).1)).2)])) [] hs (by rw [oneR, if_neg (by rw [b1]; decide), if_neg (by rw [b2]; decide), if_neg (by rw [b3]; decide), if_neg (by rw [b4]; decide), if_pos b5, if_pos b6]; try rfl)
 refine wL hs hI [(12, rc [(3, ciV 63 [aTr (t), rwS o.frm] (.tup [aTr (((getR o.frm t).1)), vb ((getR o.frm t).2)]))])] (bz 2 1) 720266884072918 [q1 b5, q1 b6] .norm [(2, .ptr 1000 0), (3, .ptr 1001 0), (4, .ptr 1002 0), (6, .ptr 11007 0), (7, vb ((getR o.frm t).2))] [(1000, bTr (t)), (1001, .var (enc .opn o)), (1002, .var zTr), (11007, bTr (((getR o.frm t).1)))] ⟨con63 _ _ (by omega) (by omega), tv⟩ fun a w hs => ?_
 refine then_norm ?_
 have b7 : (o.op == 6) = false := by rw [show o.op = 5 from eq_of_beq b5]; rfl
 refine wL hs hI [(15, rg [] [] [4, 1005, 7, 8, 9, 10, 1011])] (bz 1 0) 1291897666733337318 [q1 b7, q1 b7, q0 false, q0 false, q0 false, q0 false, q0 false, q0 false] .ret [(4, .ptr 1002 0), (5, vb false)] [(1002, .var zTr)] tv fun a w hs => ?_
 exact rK (.val (.tup [.agg [vi 0, vb false, vb false, rwU ([]), vi 0, vs (ba []), rwS ([]), rwT ([])], vb false])) [] hs (by rw [oneR, if_neg (by rw [b1]; decide), if_neg (by rw [b2]; decide), if_neg (by rw [b3]; decide), if_neg (by rw [b4]; decide), if_pos b5, if_neg (by rw [b6]; decide)]; try rfl)
 refine wN hs hI (bz 1 0) 72918 [q1 b5] .norm [(2, .ptr 1000 0), (3, .ptr 1001 0), (4, .ptr 1002 0), (6, .ptr 11007 0), (7, vb ((getR o.path t).2))] [(1000, bTr (t)), (1001, .var (enc .opn o)), (1002, .var zTr), (11007, bTr (((getR o.path t).1)))] fun a w hs => ?_
 refine then_norm ?_
 rcases bq (o.op) (6) with ⟨b8, n8⟩ | ⟨b8, n8⟩
 rcases bt ((getR o.path t).2) with b9 | b9
 rcases bt (sameT ((getR o.path t).1) o.value) with b10 | b10
 refine wL hs hI [(15, rg [(10, ciV 18 [aTr (((getR o.path t).1)), aTr (o.value)] (vb (sameT ((getR o.path t).1) o.value)))] [4, 1005, 7, 8, 9, 10, 1011] [])] (bz 1 1) 12987266667437777718 [q1 b8, q1 b8, q1 b9, q1 b9, q1 b9, q1 b9, q1 b9, q1 b10] .ret [(4, .ptr 1002 0), (5, vb true)] [(1002, bTr (t))] ⟨con18 _ _ (fine_getR hft _) hfv, tv⟩ fun a w hs => ?_
 exact rK (.val (.tup [aTr (t), vb true])) [] hs (by rw [oneR, if_neg (by rw [b1]; decide), if_neg (by rw [b2]; decide), if_neg (by rw [b3]; decide), if_neg (by rw [b4]; decide), if_neg (by rw [b5]; decide), if_pos (by first | (simp only [b8, b9, b10]; done) | (simp [b8, b9, b10]; done))]; try rfl)
 refine wL hs hI [(15, rg [(10, ciV 18 [aTr (((getR o.path t).1)), aTr (o.value)] (vb (sameT ((getR o.path t).1) o.value)))] [4, 1005, 7, 8, 9, 10, 1011] [])] (bz 1 0) 1291897266667437777718 [q1 b8, q1 b8, q1 b9, q1 b9, q1 b9, q1 b9, q1 b9, q1 b10] .ret [(4, .ptr 1002 0), (5, vb false)] [(1002, .var zTr)] ⟨con18 _ _ (fine_getR hft _) hfv, tv⟩ fun a w hs => ?_
 exact rK (.val (.tup [.agg [vi 0, vb false, vb false, rwU ([]), vi 0, vs (ba []), rwS ([]), rwT ([])], vb false])) [] hs (by rw [oneR, if_neg (by rw [b1]; decide), if_neg (by rw [b2]; decide), if_neg (by rw [b3]; decide), if_neg (by rw [b4]; decide), if_neg (by rw [b5]; decide), if_neg (by first | (simp only [b8, b9, b10]; done) | (simp [b8, b9, b10]; done))]; try rfl)
 refine wL hs hI [(15, rg [] [4, 1005] [7, 8, 9, 10, 1011])] (bz 1 0) 12918972666733337718 [q1 b8, q1 b8, q1 b9, q1 b9, q1 b9, q1 b9, q1 b9, q0 false] .ret [(4, .ptr 1002 0), (5, vb false)] [(1002, .var zTr)] tv fun a w hs => ?_
 exact rK (.val (.tup [.agg [vi 0, vb false, vb false, rwU ([]), vi 0, vs (ba []), rwS ([]), rwT ([])], vb false])) [] hs (by rw [oneR, if_neg (by rw [b1]; decide), if_neg (by rw [b2]; decide), if_neg (by rw [b3]; decide), if_neg (by rw [b4]; decide), if_neg (by rw [b5]; decide), if_neg (by first | (simp only [b8, b9]; done) | (simp [b8, b9]; done))]; try rfl)
 refine wL hs hI [(15, rg [] [] [4, 1005, 7, 8, 9, 10, 1011])] (bz 1 0) 1291897666733337318 [q1 b8, q1 b8, q0 false, q0 false, q0 false, q0 false, q0 false, q0 false] .ret [(4, .ptr 1002 0), (5, vb false)] [(1002, .var zTr)] tv fun a w hs => ?_
 exact rK (.val (.tup [.agg [vi 0, vb false, vb false, rwU ([]), vi 0, vs (ba []), rwS ([]), rwT ([])], vb false])) [] hs (by rw [oneR, if_neg (by rw [b1]; decide), if_neg (by rw [b2]; decide), if_neg (by rw [b3]; decide), if_neg (by rw [b4]; decide), if_neg (by rw [b5]; decide), if_neg (by first | (simp only [b8]; done) | (simp [b8]; done))]; try rfl)
def tokW (v : Int) : ByteArray := ([ba [97], ba [48], ba [45], ba [110, 101, 119], ba [50]] : List ByteArray).getD (((v.tdiv 15).tmod 5).toNat * 1) ⟨#[]⟩
def digW (k : Int) : ByteArray := ([ba [48], ba [49], ba [50], ba [51], ba [52], ba [53], ba [54], ba [55], ba [56], ba [57]] : List ByteArray).getD ((k.tmod 10).toNat * 1) ⟨#[]⟩
def kW (t : Tree) (v : Int) : Int := (v.tdiv 5).tmod (t.v.length : Int)
def stopW (t : Tree) (v : Int) : Bool := ((v.tmod 5 == 0) || ((t.v.length : Int) == 0)) || (t.kind != 7 && t.kind != 6)
def nameW (t : Tree) (v : Int) : ByteArray := if (t.kind == 7) = true then t.k.getD (kW t v).toNat (dflt .str) else digW (kW t v)
def wayG : Nat → Tree → List Int → List ByteArray
 | 0, _, _ => []
 | _ + 1, _, [] => []
 | n + 1, t, x :: l =>
  if stopW t (placeF x 1048576) = true then (if ((placeF x 1048576).tmod 3 == 0) = true then [tokW (placeF x 1048576)] else [])
  else nameW t (placeF x 1048576) :: wayG n (t.v.getD (kW t (placeF x 1048576)).toNat (dflt .tree)) l
def wayF (t : Tree) (l : List Int) : List ByteArray := wayG 4 t l
theorem wayG_at {n i : Nat} {t : Tree} {l : List Int} (h : i < l.length) : wayG (n + 1) t (l.drop i) = if stopW t (placeF (l.getD i (dflt (.int .i64))) 1048576) = true then (if ((placeF (l.getD i (dflt (.int .i64))) 1048576).tmod 3 == 0) = true then [tokW (placeF (l.getD i (dflt (.int .i64))) 1048576)] else []) else nameW t (placeF (l.getD i (dflt (.int .i64))) 1048576) :: wayG n (t.v.getD (kW t (placeF (l.getD i (dflt (.int .i64))) 1048576)).toNat (dflt .tree)) (l.drop (i + 1)) := by
 rw [List.drop_eq_getElem_cons h, wayG]
 have e : l.getD i (dflt (.int .i64)) = l[i] := by rw [List.getD_eq_getElem?_getD, List.getElem?_eq_getElem h]; rfl
 rw [e]
theorem kW_in {t : Tree} {v : Int} (h0 : 0 ≤ v) (h : ((t.v.length : Int) == 0) = false) : 0 ≤ kW t v ∧ kW t v < (t.v.length : Int) := by
 have h1 : (t.v.length : Int) ≠ 0 := beq_eq_false_iff_ne.1 h
 have h2 : 0 ≤ v.tdiv 5 := Int.tdiv_nonneg h0 (by decide)
 unfold kW
 exact ⟨Int.tmod_nonneg _ h2, Int.tmod_lt_of_pos _ (by omega)⟩
theorem own_keys {t : Tree} (h : ownO t = true) (h7 : t.kind = 7) : t.k.length = t.v.length := by
 simp only [ownO, Bool.and_eq_true] at h
 have h1 := h.2.2.2.2.1
 unfold keysO at h1
 rw [if_pos h7, Bool.and_eq_true] at h1
 have := eq_of_beq h1.2; omega
structure WayJ (t : Tree) (l : List Int) (i : Nat) (u : Tree) (acc : List ByteArray) : Prop where
 le : i ≤ l.length
 le4 : i ≤ 4
 eq : acc ++ wayG (4 - i) u (l.drop i) = wayG 4 t l
 own : ∃ d n, (chk u d n).1 = true
 len : acc.length ≤ i
theorem WayJ.start {t : Tree} (l : List Int) (h : ∃ d n, (chk t d n).1 = true) : WayJ t l 0 t [] := ⟨Nat.zero_le _, Nat.zero_le _, rfl, h, Nat.le_refl _⟩
abbrev vW (l : List Int) (i : Nat) : Int := placeF (l.getD i (dflt (.int .i64))) 1048576
theorem vW_in (l : List Int) (i : Nat) : 0 ≤ vW l i ∧ vW l i < 1048576 := placeF_in _ _ (by decide)
theorem WayJ.on {t u : Tree} {l : List Int} {i : Nat} {acc : List ByteArray} (h : WayJ t l i u acc) (hi : i < l.length) (h4 : i < 4) (hs : stopW u (vW l i) = false) : WayJ t l (i + 1) (u.v.getD (kW u (vW l i)).toNat (dflt .tree)) (acc ++ [nameW u (vW l i)]) := by
 obtain ⟨d, n, ho⟩ := h.own
 have h5 : ((u.v.length : Int) == 0) = false := by
  unfold stopW at hs
  simp only [Bool.or_eq_false_iff] at hs
  exact hs.1.2
 have hk := kW_in (t := u) (vW_in l i).1 h5
 have he := h.eq
 obtain ⟨m, hm⟩ : ∃ m, 4 - i = m + 1 := ⟨3 - i, by omega⟩
 rw [hm, wayG_at hi, if_neg (by rw [hs]; decide)] at he
 refine ⟨by omega, by omega, ?_, ?_, by have := h.len; simp; omega⟩
 rw [show 4 - (i + 1) = m by omega, List.append_assoc]; exact he
 obtain ⟨l', h6⟩ := chkL_mem (chk_own ho).2 (getD_mem (l := u.v) (i := (kW u (vW l i)).toNat) (by omega) (dflt .tree))
 exact ⟨_, l', h6⟩
theorem WayJ.stop {t u : Tree} {l : List Int} {i : Nat} {acc : List ByteArray} (h : WayJ t l i u acc) (hi : i < l.length) (h4 : i < 4) (hs : stopW u (vW l i) = true) : wayF t l = acc ++ (if ((vW l i).tmod 3 == 0) = true then [tokW (vW l i)] else []) := by
 have he := h.eq
 obtain ⟨m, hm⟩ : ∃ m, 4 - i = m + 1 := ⟨3 - i, by omega⟩
 rw [hm, wayG_at hi, if_pos hs] at he
 exact he.symm
theorem WayJ.fin {t u : Tree} {l : List Int} {i : Nat} {acc : List ByteArray} (h : WayJ t l i u acc) (hi : ¬ (i < l.length ∧ i < 4)) : wayF t l = acc := by
 have he := h.eq
 have h1 : wayG (4 - i) u (l.drop i) = [] := by
  by_cases h4 : i < 4
  rw [List.drop_of_length_le (by omega)]
  obtain ⟨m, hm⟩ : ∃ m, 4 - i = m + 1 := ⟨3 - i, by omega⟩
  rw [hm]; rfl
  rw [show 4 - i = 0 by omega]; rfl
 rw [h1, List.append_nil] at he
 exact he.symm
theorem tm_w {v n : Int} (h0 : 0 ≤ v) (hn : 0 < n) : 0 ≤ v.tmod n ∧ v.tmod n < n := ⟨Int.tmod_nonneg _ h0, Int.tmod_lt_of_pos _ hn⟩
theorem td_w {v n : Int} (h0 : 0 ≤ v) (hn : 0 < n) (h1 : v < 1048576) : 0 ≤ v.tdiv n ∧ v.tdiv n < 1048576 := by
 have h2 := Int.tdiv_nonneg h0 (Int.le_of_lt hn)
 have h3 := Int.tdiv_le_self n h0
 omega
theorem con62 (t : Tree) (l : List Int) (hO : ∃ d n, (chk t d n).1 = true) (hft : fineT t) (hl : l.length < 4611686018427387904) : Con Tryz.prog I0 62 [.agg (encTree t), .row (.int .i64) l] (.own 9 .str (wayF t l)) := by
 refine con_of Tryz.func62 rfl (Nat.le_of_ble_eq_true rfl) stab (fun w0 fz a hI hs => ?_)
 refine wNs hs hI [] 8 [] [(1, .row (.int .i64) l), (2, .ptr 1000 0)] [(1000, bTr (t))] fun a w hs => ?_
 refine wNs hs hI [] 11 [] [(1, .row (.int .i64) l), (2, .ptr 1000 0), (5, nilv)] [(1000, bTr (t))] fun a w hs => ?_
 refine wp_seq ?_
 refine wNs hs hI [] 11 [] [(1, .row (.int .i64) l), (2, .ptr 1000 0), (5, nilv), (6, vi 0)] [(1000, bTr (t))] fun a w hs => ?_
 refine wp_block ?_
 refine loop_L (N := Tryz.f62.ntmps) (w0 := w0) (ow := noO fz) (α := Nat × Tree × List ByteArray) (fun p => [(1, .row (.int .i64) l), (2, .ptr 90000001 0), (5, .own 90000002), (6, vi ((p.1 : Nat) : Int))]) (fun p => [(90000001, bTr (p.2.1)), (90000002, .sl 9 .str p.2.2)]) (fun p => WayJ t l p.1 p.2.1 p.2.2 ∧ fineT p.2.1) (fun p => l.length - p.1) (0, t, []) ?_ ?_ ?_
 exact ⟨WayJ.start l hO, hft⟩
 (have hs := (hs.nil 10000005 5 9 .str (by kernel_rfl) (by decide) (by kernel_rfl) (by kernel_rfl)).rmT [(1, .row (.int .i64) l), (2, .ptr 1000 0), (5, .own 10000005), (6, vi 0)] [(1000, bTr (t)), (10000005, .sl 9 .str ([]))] [(1000, 1000), (10000005, 10000005)] (by kernel_rfl); exact (hs.cst [(1, .row (.int .i64) l), (2, .ptr 1000 0), (5, .own 10000005), (6, vi ((0 : Nat) : Int))] [(1000, bTr (t)), (10000005, .sl 9 .str ([]))] rfl).rk [(90000001, 1000), (90000002, 10000005)])
 rintro ⟨i, u, acc⟩ hJ a w hs
 try dsimp only at hJ
 obtain ⟨hJ, hft2⟩ := hJ
 have hle := hJ.le
 have hle4 := hJ.le4
 have hln := hJ.len
 have hv := vW_in l i
 have h5 := tm_w (n := 5) hv.1 (by decide)
 have h3 := tm_w (n := 3) hv.1 (by decide)
 have hd15 := td_w (n := 15) hv.1 (by decide) hv.2
 have h155 := tm_w (n := 5) hd15.1 (by decide)
 have hd5 := td_w (n := 5) hv.1 (by decide) hv.2
 have hk0 : ((u.v.length : Int) == 0) = false → 0 ≤ kW u (vW l i) ∧ kW u (vW l i) < (u.v.length : Int) := kW_in (t := u) hv.1
 obtain ⟨dd, nn_, hown⟩ := hJ.own
 have hkk : u.kind = 7 → u.k.length = u.v.length := own_keys (chk_own hown).1
 simp only [kW] at hk0
 refine wp_seq ?_
 rcases bd ((i : Int) < (l.length : Int)) with ⟨b1, n1⟩ | ⟨b1, n1⟩
 rcases bd ((i : Int) < 4) with ⟨b2, n2⟩ | ⟨b2, n2⟩
 refine wL hs hI [(3, rg [] [5, 6, 1007] [])] (bz 1 1) 796677708 [q1 b1, q1 b1, q1 b1, q1 b2] .norm [(1, .row (.int .i64) l), (2, .ptr 90000001 0), (5, .own 90000002), (6, vi (i : Int))] [(90000001, bTr (u)), (90000002, .sl 9 .str acc)] tv fun a w hs => ?_
 refine then_norm ?_
 rcases bq ((vW l i).tmod 5) (0) with ⟨b3, n3⟩ | ⟨b3, n3⟩
 rcases bq ((vW l i).tmod 3) (0) with ⟨b4, n4⟩ | ⟨b4, n4⟩
 refine wL hs hI [(5, rc [(4, ciV 17 [vi (l.getD i (dflt (.int .i64))), vi 1048576] (vi (vW l i)))]), (6, rg [] [1008, 1018] [4, 5, 6, 7, 10, 11, 12, 13, 17])] (bz 2 3) 1982966177330729177296666730733373333171960470 [q4 (i : Int) l.length, q2 ((5 : Int) ≠ 0), q1 b3, q1 b3, q1 b3, q1 b3, q1 b3, q0 true, q0 true, q0 true, q0 true, q0 true, q0 true, q0 true, q2 ((3 : Int) ≠ 0), q1 b4, q5 15 ((vW l i).tdiv 15), q2 ((5 : Int) ≠ 0), ⟨(0 ≤ (((vW l i).tdiv 15).tmod 5) ∧ (((vW l i).tdiv 15).tmod 5) < (5 : Nat)) ∧ (((vW l i).tdiv 15).tmod 5).toNat * 1 < 5, (by first | omega | (refine ⟨by decide, inR64 (by omega) (by omega)⟩) | (have h10 := tm_w (n := 10) hkx.1 (by decide); omega))⟩, q7 acc.length 1 16] .ret [(4, .own 9007)] [(9007, .sl 9 .str (acc ++ ([([(ba [97]), (ba [48]), (ba [45]), (ba [110, 101, 119]), (ba [50])] : List ByteArray).getD ((((vW l i).tdiv 15).tmod 5).toNat * 1) ⟨#[]⟩])))] ⟨con17 _ _ (by decide) (by decide), tv⟩ fun a w hs => ?_
 refine then_ret ?_
 refine inb_ret ?_
 refine then_ret ?_
 exact FnQ_cast (out := .own 9 .str (acc ++ ([([(ba [97]), (ba [48]), (ba [45]), (ba [110, 101, 119]), (ba [50])] : List ByteArray).getD ((((vW l i).tdiv 15).tmod 5).toNat * 1) ⟨#[]⟩]))) (by rw [hJ.stop (by omega) (by omega) (by simp only [stopW, b3]; first | done | rfl | simp), if_pos b4]; rfl) (ret_ok [] hs (.inl ⟨9007, by kernel_rfl, rfl⟩))
 refine wL hs hI [(5, rc [(4, ciV 17 [vi (l.getD i (dflt (.int .i64))), vi 1048576] (vi (vW l i)))]), (6, rg [] [1008, 1018] [4, 5, 6, 7, 10, 11, 12, 13, 17])] (bz 2 1) 1989729177296666730733373333171960470 [q4 (i : Int) l.length, q2 ((5 : Int) ≠ 0), q1 b3, q1 b3, q1 b3, q1 b3, q1 b3, q0 true, q0 true, q0 true, q0 true, q0 true, q0 true, q0 true, q2 ((3 : Int) ≠ 0), q1 b4] .ret [(4, .own 90000002)] [(90000002, .sl 9 .str acc)] ⟨con17 _ _ (by decide) (by decide), tv⟩ fun a w hs => ?_
 refine then_ret ?_
 refine inb_ret ?_
 refine then_ret ?_
 exact FnQ_cast (out := .own 9 .str acc) (by rw [hJ.stop (by omega) (by omega) (by simp only [stopW, b3]; first | done | rfl | simp), if_neg (by rw [b4]; decide)]; rw [List.append_nil]) (ret_ok [] hs (.inl ⟨90000002, by kernel_rfl, rfl⟩))
 rcases bq (u.v.length : Int) (0) with ⟨b5, n5⟩ | ⟨b5, n5⟩
 rcases bq ((vW l i).tmod 3) (0) with ⟨b6, n6⟩ | ⟨b6, n6⟩
 refine wL hs hI [(5, rc [(4, ciV 17 [vi (l.getD i (dflt (.int .i64))), vi 1048576] (vi (vW l i)))]), (6, rg [] [4, 5, 6, 7, 1018] [1008, 10, 11, 12, 13, 17])] (bz 2 3) 19829661773307291772966666730733377777171960470 [q4 (i : Int) l.length, q2 ((5 : Int) ≠ 0), q1 b3, q1 b3, q1 b3, q1 b3, q1 b3, q1 b5, q1 b5, q1 b5, q1 b5, q1 b5, q1 b5, q0 true, q2 ((3 : Int) ≠ 0), q1 b6, q5 15 ((vW l i).tdiv 15), q2 ((5 : Int) ≠ 0), ⟨(0 ≤ (((vW l i).tdiv 15).tmod 5) ∧ (((vW l i).tdiv 15).tmod 5) < (5 : Nat)) ∧ (((vW l i).tdiv 15).tmod 5).toNat * 1 < 5, (by first | omega | (refine ⟨by decide, inR64 (by omega) (by omega)⟩) | (have h10 := tm_w (n := 10) hkx.1 (by decide); omega))⟩, q7 acc.length 1 16] .ret [(4, .own 9007)] [(9007, .sl 9 .str (acc ++ ([([(ba [97]), (ba [48]), (ba [45]), (ba [110, 101, 119]), (ba [50])] : List ByteArray).getD ((((vW l i).tdiv 15).tmod 5).toNat * 1) ⟨#[]⟩])))] ⟨con17 _ _ (by decide) (by decide), tv⟩ fun a w hs => ?_
 refine then_ret ?_
 refine inb_ret ?_
 refine then_ret ?_
 exact FnQ_cast (out := .own 9 .str (acc ++ ([([(ba [97]), (ba [48]), (ba [45]), (ba [110, 101, 119]), (ba [50])] : List ByteArray).getD ((((vW l i).tdiv 15).tmod 5).toNat * 1) ⟨#[]⟩]))) (by rw [hJ.stop (by omega) (by omega) (by simp only [stopW, b3, b5]; first | done | rfl | simp), if_pos b6]; rfl) (ret_ok [] hs (.inl ⟨9007, by kernel_rfl, rfl⟩))
 refine wL hs hI [(5, rc [(4, ciV 17 [vi (l.getD i (dflt (.int .i64))), vi 1048576] (vi (vW l i)))]), (6, rg [] [4, 5, 6, 7, 1018] [1008, 10, 11, 12, 13, 17])] (bz 2 1) 19897291772966666730733377777171960470 [q4 (i : Int) l.length, q2 ((5 : Int) ≠ 0), q1 b3, q1 b3, q1 b3, q1 b3, q1 b3, q1 b5, q1 b5, q1 b5, q1 b5, q1 b5, q1 b5, q0 true, q2 ((3 : Int) ≠ 0), q1 b6] .ret [(4, .own 90000002)] [(90000002, .sl 9 .str acc)] ⟨con17 _ _ (by decide) (by decide), tv⟩ fun a w hs => ?_
 refine then_ret ?_
 refine inb_ret ?_
 refine then_ret ?_
 exact FnQ_cast (out := .own 9 .str acc) (by rw [hJ.stop (by omega) (by omega) (by simp only [stopW, b3, b5]; first | done | rfl | simp), if_neg (by rw [b6]; decide)]; rw [List.append_nil]) (ret_ok [] hs (.inl ⟨90000002, by kernel_rfl, rfl⟩))
 have hkx := hk0 b5
 rcases bt (u.kind != 7) with b7 | b7
 have n7 := bne_iff_ne.1 b7
 rcases bt (u.kind != 6) with b8 | b8
 have n8 := bne_iff_ne.1 b8
 rcases bq ((vW l i).tmod 3) (0) with ⟨b9, n9⟩ | ⟨b9, n9⟩
 refine wL hs hI [(5, rc [(4, ciV 17 [vi (l.getD i (dflt (.int .i64))), vi 1048576] (vi (vW l i)))]), (6, rg [] [4, 5, 6, 7, 10, 11, 12, 13, 14, 15, 16, 17, 1017] [1008, 1018])] (bz 2 3) 1982966177330729177296666666733777777777777171960470 [q4 (i : Int) l.length, q2 ((5 : Int) ≠ 0), q1 b3, q1 b3, q1 b3, q1 b3, q1 b3, q1 b5, q1 b5, q1 b5, q1 b5, q1 b7, q1 b7, q1 b7, q1 b5, q1 b7, q1 b5, q1 b8, q2 ((3 : Int) ≠ 0), q1 b9, q5 15 ((vW l i).tdiv 15), q2 ((5 : Int) ≠ 0), ⟨(0 ≤ (((vW l i).tdiv 15).tmod 5) ∧ (((vW l i).tdiv 15).tmod 5) < (5 : Nat)) ∧ (((vW l i).tdiv 15).tmod 5).toNat * 1 < 5, (by first | omega | (refine ⟨by decide, inR64 (by omega) (by omega)⟩) | (have h10 := tm_w (n := 10) hkx.1 (by decide); omega))⟩, q7 acc.length 1 16] .ret [(4, .own 9007)] [(9007, .sl 9 .str (acc ++ ([([(ba [97]), (ba [48]), (ba [45]), (ba [110, 101, 119]), (ba [50])] : List ByteArray).getD ((((vW l i).tdiv 15).tmod 5).toNat * 1) ⟨#[]⟩])))] ⟨con17 _ _ (by decide) (by decide), tv⟩ fun a w hs => ?_
 refine then_ret ?_
 refine inb_ret ?_
 refine then_ret ?_
 exact FnQ_cast (out := .own 9 .str (acc ++ ([([(ba [97]), (ba [48]), (ba [45]), (ba [110, 101, 119]), (ba [50])] : List ByteArray).getD ((((vW l i).tdiv 15).tmod 5).toNat * 1) ⟨#[]⟩]))) (by rw [hJ.stop (by omega) (by omega) (by simp only [stopW, b3, b5, b7, b8]; first | done | rfl | simp), if_pos b9]; rfl) (ret_ok [] hs (.inl ⟨9007, by kernel_rfl, rfl⟩))
 refine wL hs hI [(5, rc [(4, ciV 17 [vi (l.getD i (dflt (.int .i64))), vi 1048576] (vi (vW l i)))]), (6, rg [] [4, 5, 6, 7, 10, 11, 12, 13, 14, 15, 16, 17, 1017] [1008, 1018])] (bz 2 1) 1989729177296666666733777777777777171960470 [q4 (i : Int) l.length, q2 ((5 : Int) ≠ 0), q1 b3, q1 b3, q1 b3, q1 b3, q1 b3, q1 b5, q1 b5, q1 b5, q1 b5, q1 b7, q1 b7, q1 b7, q1 b5, q1 b7, q1 b5, q1 b8, q2 ((3 : Int) ≠ 0), q1 b9] .ret [(4, .own 90000002)] [(90000002, .sl 9 .str acc)] ⟨con17 _ _ (by decide) (by decide), tv⟩ fun a w hs => ?_
 refine then_ret ?_
 refine inb_ret ?_
 refine then_ret ?_
 exact FnQ_cast (out := .own 9 .str acc) (by rw [hJ.stop (by omega) (by omega) (by simp only [stopW, b3, b5, b7, b8]; first | done | rfl | simp), if_neg (by rw [b9]; decide)]; rw [List.append_nil]) (ret_ok [] hs (.inl ⟨90000002, by kernel_rfl, rfl⟩))
 have n8 := bne_eq_false_iff_eq.1 b8
 rcases bq (u.kind) (7) with ⟨b10, n10⟩ | ⟨b10, n10⟩
 have hk7 := hkk (eq_of_beq b10)
 refine wL hs hI [(5, rc [(4, ciV 17 [vi (l.getD i (dflt (.int .i64))), vi 1048576] (vi (vW l i)))]), (6, rg [] [4, 5, 6, 7, 10, 11, 12, 13, 14, 15, 16, 17, 1017] [1008, 1018])] (bz 2 2) 171966078296617178729182961707197296666666733777777777777171960470 [q4 (i : Int) l.length, q2 ((5 : Int) ≠ 0), q1 b3, q1 b3, q1 b3, q1 b3, q1 b3, q1 b5, q1 b5, q1 b5, q1 b5, q1 b7, q1 b7, q1 b7, q1 b5, q1 b7, q1 b5, q1 b8, q5 5 ((vW l i).tdiv 5), q2 ((u.v.length : Int) ≠ 0), q1 b10, ⟨0 ≤ (((vW l i).tdiv 5).tmod (u.v.length : Int)) ∧ (((vW l i).tdiv 5).tmod (u.v.length : Int)) < u.k.length, (by first | omega | (refine ⟨by decide, inR64 (by omega) (by omega)⟩) | (have h10 := tm_w (n := 10) hkx.1 (by decide); omega))⟩, q7 acc.length 1 16, ⟨0 ≤ (((vW l i).tdiv 5).tmod (u.v.length : Int)) ∧ (((vW l i).tdiv 5).tmod (u.v.length : Int)) < u.v.length, (by first | omega | (refine ⟨by decide, inR64 (by omega) (by omega)⟩) | (have h10 := tm_w (n := 10) hkx.1 (by decide); omega))⟩, q3 ((i : Int) + 1)] .norm [(1, .row (.int .i64) l), (2, .ptr 90000001 0), (5, .own 13007), (6, vi ((i : Int) + 1))] [(13007, .sl 9 .str (acc ++ ([(u.k.getD ((((vW l i).tdiv 5).tmod (u.v.length : Int)).toNat) (dflt .str))]))), (90000001, bTr ((u.v.getD ((((vW l i).tdiv 5).tmod (u.v.length : Int)).toNat) (dflt .tree))))] ⟨con17 _ _ (by decide) (by decide), tv⟩ fun a w hs => ?_
 refine then_norm ⟨(i + 1, u.v.getD (kW u (vW l i)).toNat (dflt .tree), acc ++ [nameW u (vW l i)]), ⟨hJ.on (by omega) (by omega) (by simp only [stopW, b3, b5, b7, b8, b10]; first | done | rfl), fine_at hft2 (by have := kW_in (t := u) (vW_in l i).1 (by assumption); omega) _⟩, by omega, ?_⟩
 (have e0_ : ((i : Int) + 1) = ((((i + 1) : Nat) : Int)) := (by first | rfl | (first | rfl | omega)); have e1_ : (acc ++ ([(u.k.getD ((((vW l i).tdiv 5).tmod (u.v.length : Int)).toNat) (dflt .str))])) = ((acc ++ [nameW u (vW l i)])) := (by (rw [nameW, if_pos b10]; rfl)); have e2_ : ((u.v.getD ((((vW l i).tdiv 5).tmod (u.v.length : Int)).toNat) (dflt .tree))) = ((u.v.getD (kW u (vW l i)).toNat (dflt .tree))) := (by first | rfl | (first | rfl | omega)); exact (hs.cst [(1, .row (.int .i64) l), (2, .ptr 90000001 0), (5, .own 13007), (6, vi (((i + 1) : Nat) : Int))] [(13007, .sl 9 .str (acc ++ [nameW u (vW l i)])), (90000001, bTr ((u.v.getD (kW u (vW l i)).toNat (dflt .tree))))] (by first | (rw [e0_, e1_, e2_]; done) | (simp only [e0_, e1_, e2_]; done) | rfl | (simp only [e0_, e1_, e2_]; rfl))).rk [(90000001, 90000001), (90000002, 13007)])
 refine wL hs hI [(5, rc [(4, ciV 17 [vi (l.getD i (dflt (.int .i64))), vi 1048576] (vi (vW l i)))]), (6, rg [] [4, 5, 6, 7, 10, 11, 12, 13, 14, 15, 16, 17, 1017] [1008, 1018])] (bz 2 0) 17196607896617730729182961707197296666666733777777777777171960470 [q4 (i : Int) l.length, q2 ((5 : Int) ≠ 0), q1 b3, q1 b3, q1 b3, q1 b3, q1 b3, q1 b5, q1 b5, q1 b5, q1 b5, q1 b7, q1 b7, q1 b7, q1 b5, q1 b7, q1 b5, q1 b8, q5 5 ((vW l i).tdiv 5), q2 ((u.v.length : Int) ≠ 0), q1 b10, q2 ((10 : Int) ≠ 0), ⟨(0 ≤ ((((vW l i).tdiv 5).tmod (u.v.length : Int)).tmod 10) ∧ ((((vW l i).tdiv 5).tmod (u.v.length : Int)).tmod 10) < (10 : Nat)) ∧ ((((vW l i).tdiv 5).tmod (u.v.length : Int)).tmod 10).toNat * 1 < 10, (by first | omega | (refine ⟨by decide, inR64 (by omega) (by omega)⟩) | (have h10 := tm_w (n := 10) hkx.1 (by decide); omega))⟩, q7 acc.length 1 16, ⟨0 ≤ (((vW l i).tdiv 5).tmod (u.v.length : Int)) ∧ (((vW l i).tdiv 5).tmod (u.v.length : Int)) < u.v.length, (by first | omega | (refine ⟨by decide, inR64 (by omega) (by omega)⟩) | (have h10 := tm_w (n := 10) hkx.1 (by decide); omega))⟩, q3 ((i : Int) + 1)] .norm [(1, .row (.int .i64) l), (2, .ptr 90000001 0), (5, .own 14006), (6, vi ((i : Int) + 1))] [(14006, .sl 9 .str (acc ++ ([([(ba [48]), (ba [49]), (ba [50]), (ba [51]), (ba [52]), (ba [53]), (ba [54]), (ba [55]), (ba [56]), (ba [57])] : List ByteArray).getD (((((vW l i).tdiv 5).tmod (u.v.length : Int)).tmod 10).toNat * 1) ⟨#[]⟩]))), (90000001, bTr ((u.v.getD ((((vW l i).tdiv 5).tmod (u.v.length : Int)).toNat) (dflt .tree))))] ⟨con17 _ _ (by decide) (by decide), tv⟩ fun a w hs => ?_
 refine then_norm ⟨(i + 1, u.v.getD (kW u (vW l i)).toNat (dflt .tree), acc ++ [nameW u (vW l i)]), ⟨hJ.on (by omega) (by omega) (by simp only [stopW, b3, b5, b7, b8, b10]; first | done | rfl), fine_at hft2 (by have := kW_in (t := u) (vW_in l i).1 (by assumption); omega) _⟩, by omega, ?_⟩
 (have e0_ : ((i : Int) + 1) = ((((i + 1) : Nat) : Int)) := (by first | rfl | (first | rfl | omega)); have e1_ : (acc ++ ([([(ba [48]), (ba [49]), (ba [50]), (ba [51]), (ba [52]), (ba [53]), (ba [54]), (ba [55]), (ba [56]), (ba [57])] : List ByteArray).getD (((((vW l i).tdiv 5).tmod (u.v.length : Int)).tmod 10).toNat * 1) ⟨#[]⟩])) = ((acc ++ [nameW u (vW l i)])) := (by (rw [nameW, if_neg (by rw [b10]; decide)]; rfl)); have e2_ : ((u.v.getD ((((vW l i).tdiv 5).tmod (u.v.length : Int)).toNat) (dflt .tree))) = ((u.v.getD (kW u (vW l i)).toNat (dflt .tree))) := (by first | rfl | (first | rfl | omega)); exact (hs.cst [(1, .row (.int .i64) l), (2, .ptr 90000001 0), (5, .own 14006), (6, vi (((i + 1) : Nat) : Int))] [(14006, .sl 9 .str (acc ++ [nameW u (vW l i)])), (90000001, bTr ((u.v.getD (kW u (vW l i)).toNat (dflt .tree))))] (by first | (rw [e0_, e1_, e2_]; done) | (simp only [e0_, e1_, e2_]; done) | rfl | (simp only [e0_, e1_, e2_]; rfl))).rk [(90000001, 90000001), (90000002, 14006)])
 have n7 := bne_eq_false_iff_eq.1 b7
 rcases bq (u.kind) (7) with ⟨b11, n11⟩ | ⟨b11, n11⟩
 have hk7 := hkk (eq_of_beq b11)
 refine wL hs hI [(5, rc [(4, ciV 17 [vi (l.getD i (dflt (.int .i64))), vi 1048576] (vi (vW l i)))]), (6, rg [] [4, 5, 6, 7, 10, 11, 12, 13, 17] [1008, 14, 15, 16, 1017, 1018])] (bz 2 2) 1719660782966171787291829617071976666666733333777777777171960470 [q4 (i : Int) l.length, q2 ((5 : Int) ≠ 0), q1 b3, q1 b3, q1 b3, q1 b3, q1 b3, q1 b5, q1 b5, q1 b5, q1 b5, q1 b7, q1 b7, q1 b7, q1 b5, q1 b7, q1 b5, q0 false, q5 5 ((vW l i).tdiv 5), q2 ((u.v.length : Int) ≠ 0), q1 b11, ⟨0 ≤ (((vW l i).tdiv 5).tmod (u.v.length : Int)) ∧ (((vW l i).tdiv 5).tmod (u.v.length : Int)) < u.k.length, (by first | omega | (refine ⟨by decide, inR64 (by omega) (by omega)⟩) | (have h10 := tm_w (n := 10) hkx.1 (by decide); omega))⟩, q7 acc.length 1 16, ⟨0 ≤ (((vW l i).tdiv 5).tmod (u.v.length : Int)) ∧ (((vW l i).tdiv 5).tmod (u.v.length : Int)) < u.v.length, (by first | omega | (refine ⟨by decide, inR64 (by omega) (by omega)⟩) | (have h10 := tm_w (n := 10) hkx.1 (by decide); omega))⟩, q3 ((i : Int) + 1)] .norm [(1, .row (.int .i64) l), (2, .ptr 90000001 0), (5, .own 13007), (6, vi ((i : Int) + 1))] [(13007, .sl 9 .str (acc ++ ([(u.k.getD ((((vW l i).tdiv 5).tmod (u.v.length : Int)).toNat) (dflt .str))]))), (90000001, bTr ((u.v.getD ((((vW l i).tdiv 5).tmod (u.v.length : Int)).toNat) (dflt .tree))))] ⟨con17 _ _ (by decide) (by decide), tv⟩ fun a w hs => ?_
 refine then_norm ⟨(i + 1, u.v.getD (kW u (vW l i)).toNat (dflt .tree), acc ++ [nameW u (vW l i)]), ⟨hJ.on (by omega) (by omega) (by simp only [stopW, b3, b5, b7, b11]; first | done | rfl), fine_at hft2 (by have := kW_in (t := u) (vW_in l i).1 (by assumption); omega) _⟩, by omega, ?_⟩
 (have e0_ : ((i : Int) + 1) = ((((i + 1) : Nat) : Int)) := (by first | rfl | (first | rfl | omega)); have e1_ : (acc ++ ([(u.k.getD ((((vW l i).tdiv 5).tmod (u.v.length : Int)).toNat) (dflt .str))])) = ((acc ++ [nameW u (vW l i)])) := (by (rw [nameW, if_pos b11]; rfl)); have e2_ : ((u.v.getD ((((vW l i).tdiv 5).tmod (u.v.length : Int)).toNat) (dflt .tree))) = ((u.v.getD (kW u (vW l i)).toNat (dflt .tree))) := (by first | rfl | (first | rfl | omega)); exact (hs.cst [(1, .row (.int .i64) l), (2, .ptr 90000001 0), (5, .own 13007), (6, vi (((i + 1) : Nat) : Int))] [(13007, .sl 9 .str (acc ++ [nameW u (vW l i)])), (90000001, bTr ((u.v.getD (kW u (vW l i)).toNat (dflt .tree))))] (by first | (rw [e0_, e1_, e2_]; done) | (simp only [e0_, e1_, e2_]; done) | rfl | (simp only [e0_, e1_, e2_]; rfl))).rk [(90000001, 90000001), (90000002, 13007)])
 refine wL hs hI [(5, rc [(4, ciV 17 [vi (l.getD i (dflt (.int .i64))), vi 1048576] (vi (vW l i)))]), (6, rg [] [4, 5, 6, 7, 10, 11, 12, 13, 17] [1008, 14, 15, 16, 1017, 1018])] (bz 2 0) 171966078966177307291829617071976666666733333777777777171960470 [q4 (i : Int) l.length, q2 ((5 : Int) ≠ 0), q1 b3, q1 b3, q1 b3, q1 b3, q1 b3, q1 b5, q1 b5, q1 b5, q1 b5, q1 b7, q1 b7, q1 b7, q1 b5, q1 b7, q1 b5, q0 false, q5 5 ((vW l i).tdiv 5), q2 ((u.v.length : Int) ≠ 0), q1 b11, q2 ((10 : Int) ≠ 0), ⟨(0 ≤ ((((vW l i).tdiv 5).tmod (u.v.length : Int)).tmod 10) ∧ ((((vW l i).tdiv 5).tmod (u.v.length : Int)).tmod 10) < (10 : Nat)) ∧ ((((vW l i).tdiv 5).tmod (u.v.length : Int)).tmod 10).toNat * 1 < 10, (by first | omega | (refine ⟨by decide, inR64 (by omega) (by omega)⟩) | (have h10 := tm_w (n := 10) hkx.1 (by decide); omega))⟩, q7 acc.length 1 16, ⟨0 ≤ (((vW l i).tdiv 5).tmod (u.v.length : Int)) ∧ (((vW l i).tdiv 5).tmod (u.v.length : Int)) < u.v.length, (by first | omega | (refine ⟨by decide, inR64 (by omega) (by omega)⟩) | (have h10 := tm_w (n := 10) hkx.1 (by decide); omega))⟩, q3 ((i : Int) + 1)] .norm [(1, .row (.int .i64) l), (2, .ptr 90000001 0), (5, .own 14006), (6, vi ((i : Int) + 1))] [(14006, .sl 9 .str (acc ++ ([([(ba [48]), (ba [49]), (ba [50]), (ba [51]), (ba [52]), (ba [53]), (ba [54]), (ba [55]), (ba [56]), (ba [57])] : List ByteArray).getD (((((vW l i).tdiv 5).tmod (u.v.length : Int)).tmod 10).toNat * 1) ⟨#[]⟩]))), (90000001, bTr ((u.v.getD ((((vW l i).tdiv 5).tmod (u.v.length : Int)).toNat) (dflt .tree))))] ⟨con17 _ _ (by decide) (by decide), tv⟩ fun a w hs => ?_
 refine then_norm ⟨(i + 1, u.v.getD (kW u (vW l i)).toNat (dflt .tree), acc ++ [nameW u (vW l i)]), ⟨hJ.on (by omega) (by omega) (by simp only [stopW, b3, b5, b7, b11]; first | done | rfl), fine_at hft2 (by have := kW_in (t := u) (vW_in l i).1 (by assumption); omega) _⟩, by omega, ?_⟩
 (have e0_ : ((i : Int) + 1) = ((((i + 1) : Nat) : Int)) := (by first | rfl | (first | rfl | omega)); have e1_ : (acc ++ ([([(ba [48]), (ba [49]), (ba [50]), (ba [51]), (ba [52]), (ba [53]), (ba [54]), (ba [55]), (ba [56]), (ba [57])] : List ByteArray).getD (((((vW l i).tdiv 5).tmod (u.v.length : Int)).tmod 10).toNat * 1) ⟨#[]⟩])) = ((acc ++ [nameW u (vW l i)])) := (by (rw [nameW, if_neg (by rw [b11]; decide)]; rfl)); have e2_ : ((u.v.getD ((((vW l i).tdiv 5).tmod (u.v.length : Int)).toNat) (dflt .tree))) = ((u.v.getD (kW u (vW l i)).toNat (dflt .tree))) := (by first | rfl | (first | rfl | omega)); exact (hs.cst [(1, .row (.int .i64) l), (2, .ptr 90000001 0), (5, .own 14006), (6, vi (((i + 1) : Nat) : Int))] [(14006, .sl 9 .str (acc ++ [nameW u (vW l i)])), (90000001, bTr ((u.v.getD (kW u (vW l i)).toNat (dflt .tree))))] (by first | (rw [e0_, e1_, e2_]; done) | (simp only [e0_, e1_, e2_]; done) | rfl | (simp only [e0_, e1_, e2_]; rfl))).rk [(90000001, 90000001), (90000002, 14006)])
 refine wL hs hI [(3, rg [] [5, 6, 1007] [])] (bz 1 0) 796677708 [q1 b1, q1 b1, q1 b1, q1 b2] (.exit 0) [(5, .own 90000002)] [(90000002, .sl 9 .str acc)] tv fun a w hs => ?_
 refine then_exit ?_
 refine then_exit ?_
 refine inb_hit ?_
 refine then_norm ?_
 refine wN hs hI [] 198 [] .ret [(4, .own 90000002)] [(90000002, .sl 9 .str acc)] fun a w hs => ?_
 exact FnQ_cast (out := .own 9 .str acc) (by rw [hJ.fin (by omega)]) (ret_ok [] hs (.inl ⟨90000002, by kernel_rfl, rfl⟩))
 refine wL hs hI [(3, rg [] [] [5, 6, 1007])] (bz 1 0) 76673308 [q1 b1, q1 b1, q1 b1, q0 false] (.exit 0) [(5, .own 90000002)] [(90000002, .sl 9 .str acc)] tv fun a w hs => ?_
 refine then_exit ?_
 refine then_exit ?_
 refine inb_hit ?_
 refine then_norm ?_
 refine wN hs hI [] 198 [] .ret [(4, .own 90000002)] [(90000002, .sl 9 .str acc)] fun a w hs => ?_
 exact FnQ_cast (out := .own 9 .str acc) (by rw [hJ.fin (by omega)]) (ret_ok [] hs (.inl ⟨90000002, by kernel_rfl, rfl⟩))
theorem own_k_le {t : Tree} (h : ownO t = true) : t.k.length ≤ t.v.length := by
 by_cases h7 : t.kind = 7
 have := own_keys h h7; omega
 simp only [ownO, Bool.and_eq_true] at h
 have h1 := h.2.2.2.2.1
 unfold keysO at h1
 rw [if_neg h7] at h1
 have := eq_of_beq h1; omega
theorem goodN_len {n m : Nat} : ∀ {d : Nat} {t : Tree}, GoodN n d t → nodes t ≤ m + 1 → GoodN m d t
 | 0, _, h, _ => h.elim
 | d + 1, t, ⟨h1, h2, h3⟩, hm => by
  have e1 := nodes_eq t
  have e2 := nodesL_len t.v
  have e3 := own_k_le h1.own
  refine ⟨⟨h1.own, h1.ok, h1.len, by omega, h1.sorted, h1.texts⟩, by omega, fun u hu => goodN_len (h3 u hu) ?_⟩
  obtain ⟨i, hi, e⟩ := List.mem_iff_getElem.1 hu
  have := nodes_at hi
  rw [List.getD_eq_getElem?_getD, List.getElem?_eq_getElem hi, Option.getD_some, e] at this
  omega
theorem depth_mem : ∀ {l : List Tree} {u : Tree}, u ∈ l → depth u ≤ depthL l
 | [], _, h => by simp at h
 | x :: l, u, h => by
  simp only [depthL]
  rcases List.mem_cons.1 h with rfl | h
  exact Nat.le_max_left _ _
  exact Nat.le_trans (depth_mem h) (Nat.le_max_right _ _)
theorem goodN_depth {n : Nat} : ∀ {d e : Nat} {t : Tree}, GoodN n d t → depth t ≤ e → GoodN n e t
 | 0, _, _, h, _ => h.elim
 | d + 1, 0, t, _, h => by rw [depth_eq] at h; omega
 | d + 1, e + 1, t, ⟨h1, h2, h3⟩, h => by
  rw [depth_eq] at h
  exact ⟨h1, h2, fun u hu => goodN_depth (h3 u hu) (by have := depth_mem hu; omega)⟩
theorem good_setT {n D E : Nat} {t u : Tree} {x : ByteArray} (hn : n + 1 ≤ 300) (ht : GoodN n D t) (hx : textOk x = true) (hu : GoodN (n + 1) E u) : GoodN (n + 1) (D + E) (setT t x u) := by
 cases D with
 | zero => exact ht.elim
 | succ D =>
  have h1 : GoodN n (D + E + 1) t := goodN_mono (Nat.le_refl _) (by omega) ht
  have := setN hn hx (goodN_mem h1) (goodN_mono (Nat.le_refl _) (Nat.le_add_left E D) hu)
  rw [show D + 1 + E = D + E + 1 by omega]; exact this
theorem good_child {n d : Nat} {t : Tree} {x : ByteArray} (h : GoodN n (d + 1) t) (hb : (childF t x).2 = true) : GoodN n d (childF t x).1 := by
 unfold childF at hb ⊢
 have mem : memB t x = true → GoodN n d (memV t x) := fun hm => h.2.2 _ (mem_cutV hm)
 split
 rename_i h6
 rw [if_pos h6] at hb
 split
 rename_i hi
 have h1 := index_in hi
 exact h.2.2 _ (getD_mem (by omega) _)
 rename_i hi
 rw [if_neg hi] at hb; exact mem hb
 rename_i h6
 rw [if_neg h6] at hb; exact mem hb
theorem good_getR {n : Nat} : ∀ (p : List ByteArray) {d : Nat} {t : Tree}, GoodN n d t → (getR p t).2 = true → GoodN n d (getR p t).1
 | [], d, t, h, _ => h
 | x :: p, 0, t, h, _ => h.elim
 | x :: p, d + 1, t, h, hb => by
  rw [getR] at hb ⊢
  split
  rename_i hc
  rw [if_pos hc] at hb
  exact goodN_mono (Nat.le_refl _) (Nat.le_succ _) (good_getR p (good_child h hc) hb)
  rename_i hc
  rw [if_neg hc] at hb; cases hb
theorem good_items {n d : Nat} {l : List Tree} (hn : n ≤ 300) (hl : l.length ≤ n) (h : ∀ u ∈ l, GoodN n d u) : GoodN n (d + 1) (itemsT l) := by
 have hm : mems (itemsT l) = [] := mems_none (by show ¬ (6 : Int) = 7; decide)
 refine ⟨⟨?_, Ok.nil, Nat.zero_le _, Nat.zero_le _, by rw [hm]; exact List.Pairwise.nil, by rw [hm]; intro p hp; simp at hp⟩, hl, h⟩
 simp [ownO, truthO, numO, ownN, textO, keysO, itemsO, itemsT, Tree.kind, Tree.b, Tree.n, Tree.s, Tree.k, Tree.v]; exact decide_eq_true (by omega)
theorem good_withV {n d e : Nat} {t : Tree} {l : List Tree} (ht : GoodN n (d + 1) t) (hl : l.length = t.v.length) (h6 : t.kind = 6) (h : ∀ u ∈ l, GoodN n e u) : GoodN n (e + 1) (withV t l) := by
 obtain ⟨h1, h2, h3⟩ := ht
 have hm : mems (withV t l) = [] := mems_none (by show ¬ t.kind = 7; omega)
 refine ⟨⟨?_, h1.ok, h1.len, h1.k, by rw [hm]; exact List.Pairwise.nil, by rw [hm]; intro p hp; simp at hp⟩, by show l.length ≤ n; omega, h⟩
 have h4 := h1.own
 unfold ownO keysO itemsO at h4 ⊢
 show (decide (1 ≤ t.kind ∧ t.kind ≤ 7) && (truthO t && (numO t && (textO t && ((if t.kind = 7 then namesOk t.k && (t.k.length : Int) == (l.length : Int) else (t.k.length : Int) == 0) && (if t.kind = 7 ∨ t.kind = 6 then decide ((l.length : Int) ≤ 300) else (l.length : Int) == 0)))))) = true
 rw [hl]; exact h4
theorem good_putR {n E : Nat} {v : Tree} (hn : n + 1 ≤ 300) (hv : GoodN (n + 1) E v) : ∀ (p : List ByteArray) {D : Nat} {t : Tree}, (∀ x ∈ p, textOk x = true) → GoodN n D t → (putR p t v).2 = true → GoodN (n + 1) (D + E) (putR p t v).1
 | [], D, t, _, _, _ => goodN_mono (Nat.le_refl _) (Nat.le_add_left _ _) hv
 | x :: p, 0, t, _, h, _ => h.elim
 | x :: p, D + 1, t, hx, h, hb => by
  rw [putR] at hb ⊢
  split
  rename_i hc
  rw [if_pos hc] at hb
  split
  rename_i hi
  rw [if_pos hi] at hb
  have ih := good_putR hn hv p (fun y hy => hx y (List.mem_cons_of_mem _ hy)) (good_child h hc) hi
  split
  have hm := goodN_mono (Nat.le_refl n) (show D + 1 ≤ D + E + 1 by omega) h
  have := setN hn (hx x (List.mem_cons_self ..)) (goodN_mem hm) ih
  rw [show D + 1 + E = D + E + 1 by omega]; exact this
  rename_i h7
  have h6 := child_six hc (fun e => h7 (by rw [e]; rfl))
  have h7' := index_in h6.2
  rw [show D + 1 + E = D + E + 1 by omega]
  refine good_withV (goodN_mono (Nat.le_succ n) (Nat.le_refl _) h) (List.length_set ..) h6.1 (fun u hu => ?_)
  rcases List.mem_or_eq_of_mem_set hu with hu | rfl
  exact goodN_mono (Nat.le_succ n) (Nat.le_add_right _ _) (h.2.2 u hu)
  exact ih
  rename_i hi
  rw [if_neg hi] at hb; cases hb
  rename_i hc
  rw [if_neg hc] at hb; cases hb
theorem up_mem {p : List ByteArray} {x : ByteArray} (h : x ∈ upF p) : x ∈ p := List.mem_of_mem_take h
theorem last_mem {p : List ByteArray} (h : ¬ ((p.length : Int) == 0) = true) : lastF p ∈ p := by
 have : p.length ≠ 0 := fun e => h (by rw [e]; rfl)
 exact getD_mem (by omega) _
theorem good_addR {n D E : Nat} {t v : Tree} {p : List ByteArray} (hn : n + 1 ≤ 300) (hp : ∀ x ∈ p, textOk x = true) (ht : GoodN n D t) (hv : GoodN n E v) (h : (addR t p v).2 = true) : ∃ D', GoodN (n + 1) D' (addR t p v).1 := by
 unfold addR at h ⊢
 split
 ·exact ⟨E, goodN_mono (Nat.le_succ n) (Nat.le_refl _) hv⟩
 ·rename_i h0
  rw [if_neg h0] at h
  have hv' := goodN_mono (Nat.le_succ n) (Nat.le_refl E) hv
  have items : ∀ l : List Tree, l.length ≤ n + 1 → (∀ u ∈ l, u = v ∨ u ∈ (getR (upF p) t).1.v) → (getR (upF p) t).2 = true → GoodN (n + 1) (D + E + 1) (itemsT l) := fun l hl hu hg => by
   have hx := good_getR (upF p) ht hg
   refine good_items hn hl (fun u hm => ?_)
   rcases hu u hm with rfl | hm
   ·exact goodN_mono (Nat.le_refl _) (Nat.le_add_left _ _) hv'
   ·cases D with
    | zero => exact hx.elim
    | succ D => exact goodN_mono (Nat.le_succ n) (by omega) (hx.2.2 u hm)
  have ins : ∀ i, (getR (upF p) t).2 = true → GoodN (n + 1) (D + E + 1) (itemsT (insV (getR (upF p) t).1.v i v)) := fun i hg => by
   have hx := good_getR (upF p) ht hg
   have hl : (getR (upF p) t).1.v.length ≤ n := by cases D with
    | zero => exact hx.elim
    | succ D => exact hx.2.1
   refine items _ ?_ (fun u hu => ?_) hg
   ·unfold insV
    simp only [List.length_append, List.length_take, List.length_drop, List.length_cons, List.length_nil]; omega
   ·unfold insV at hu
    rcases List.mem_append.1 hu with hu | hu
    ·rcases List.mem_append.1 hu with hu | hu
     ·exact .inr (List.mem_of_mem_take hu)
     ·exact .inl (by simpa using hu)
    ·exact .inr (List.mem_of_mem_drop hu)
  have put : ∀ {u : Tree} {F : Nat}, GoodN (n + 1) F u → (putR (upF p) t u).2 = true → ∃ D', GoodN (n + 1) D' (putR (upF p) t u).1 := fun hu hb => ⟨_, good_putR hn hu (upF p) (fun x hx => hp x (up_mem hx)) ht hb⟩
  split
  ·rename_i hg
   rw [if_pos hg] at h
   split
   ·rename_i h7
    rw [if_pos h7] at h
    exact put (good_setT hn (good_getR (upF p) ht hg) (hp _ (last_mem h0)) hv') h
   ·rename_i h7
    rw [if_neg h7] at h
    split
    ·rename_i h6
     rw [if_pos h6] at h
     split
     ·rename_i hd
      rw [if_pos hd] at h
      exact put (ins _ hg) h
     ·rename_i hd
      rw [if_neg hd] at h
      split
      ·rename_i hi
       rw [if_pos hi] at h
       exact put (ins _ hg) h
      ·rename_i hi
       rw [if_neg hi] at h; cases h
    ·rename_i h6
     rw [if_neg h6] at h; cases h
  ·rename_i hg
   rw [if_neg hg] at h; cases h
theorem good_removeR {n D : Nat} {t : Tree} {p : List ByteArray} (hn : n + 1 ≤ 300) (hp : ∀ x ∈ p, textOk x = true) (ht : GoodN n D t) (h : (removeR t p).2 = true) : ∃ D', GoodN (n + 1) D' (removeR t p).1 := by
 unfold removeR at h ⊢
 split
 rename_i h0
 rw [if_pos h0] at h; cases h
 rename_i h0
 rw [if_neg h0] at h
 have put : ∀ {u : Tree} {F : Nat}, GoodN (n + 1) F u → (putR (upF p) t u).2 = true → ∃ D', GoodN (n + 1) D' (putR (upF p) t u).1 := fun hu hb => ⟨_, good_putR hn hu (upF p) (fun x hx => hp x (up_mem hx)) ht hb⟩
 split
 rename_i hg
 rw [if_pos hg] at h
 have hx := good_getR (upF p) ht (getR_up (p := p) (t := t) (by have : p.length ≠ 0 := fun e => h0 (by rw [e]; rfl); omega) hg).1
 split
 rename_i h7
 rw [if_pos h7] at h
 exact put (goodN_mono (Nat.le_succ n) (Nat.le_refl _) (unsetN (by omega) hx)) h
 rename_i h7
 rw [if_neg h7] at h
 refine put (F := D) ?_ h
 cases D with
 | zero => exact hx.elim
 | succ D =>
  refine good_items hn ?_ (fun u hu => ?_)
  have := hx.2.1
  have h8 := remove_ix (by have : p.length ≠ 0 := fun e => h0 (by rw [e]; rfl); omega) hg (fun e => h7 (by rw [e]; rfl))
  unfold delV
  simp only [List.length_append, List.length_take, List.length_drop]; omega
  unfold delV at hu
  rcases List.mem_append.1 hu with hu | hu
  exact goodN_mono (Nat.le_succ n) (Nat.le_refl _) (hx.2.2 u (List.mem_of_mem_take hu))
  exact goodN_mono (Nat.le_succ n) (Nat.le_refl _) (hx.2.2 u (List.mem_of_mem_drop hu))
 rename_i hg
 rw [if_neg hg] at h; cases h
theorem good_moveR {n D : Nat} {t : Tree} {a b : List ByteArray} (hn : n + 2 ≤ 300) (ha : ∀ x ∈ a, textOk x = true) (hb : ∀ x ∈ b, textOk x = true) (ht : GoodN n D t) (h : (moveR t a b).2 = true) : ∃ D', GoodN (n + 2) D' (moveR t a b).1 := by
 unfold moveR at h ⊢
 split
 rename_i hg
 rw [if_pos hg] at h
 split
 rename_i hs
 rw [if_pos hs] at h; cases h
 rename_i hs
 rw [if_neg hs] at h
 split
 exact ⟨D, goodN_mono (by omega) (Nat.le_refl _) ht⟩
 rename_i he
 rw [if_neg he] at h
 split
 rename_i hr
 rw [if_pos hr] at h
 obtain ⟨D1, h1⟩ := good_removeR (by omega) ha ht hr
 exact good_addR (n := n + 1) hn hb h1 (goodN_mono (Nat.le_succ n) (Nat.le_refl _) (good_getR a ht hg)) h
 rename_i hr
 rw [if_neg hr] at h; cases h
 rename_i hg
 rw [if_neg hg] at h; cases h
theorem good_oneR {n D E : Nat} {t v : Tree} {k : Int} {p f : List ByteArray} (hn : n + 2 ≤ 300) (hp : ∀ x ∈ p, textOk x = true) (hf : ∀ x ∈ f, textOk x = true) (ht : GoodN n D t) (hv : (k = 1 ∨ k = 3) → GoodN n E v) (h : (oneR t k p f v).2 = true) : ∃ D', GoodN (n + 2) D' (oneR t k p f v).1 := by
 have up : ∀ {u : Tree}, (∃ D', GoodN (n + 1) D' u) → ∃ D', GoodN (n + 2) D' u := fun ⟨D', h⟩ => ⟨D', goodN_mono (by omega) (Nat.le_refl _) h⟩
 unfold oneR at h ⊢
 split
 rename_i h1
 rw [if_pos h1] at h
 exact up (good_addR (by omega) hp ht (hv (.inl (eq_of_beq h1))) h)
 rename_i h1
 rw [if_neg h1] at h
 split
 rename_i h2
 rw [if_pos h2] at h
 exact up (good_removeR (by omega) hp ht h)
 rename_i h2
 rw [if_neg h2] at h
 split
 rename_i h3
 rw [if_pos h3] at h
 exact up ⟨_, good_putR (by omega) (goodN_mono (Nat.le_succ n) (Nat.le_refl _) (hv (.inr (eq_of_beq h3)))) p hp ht h⟩
 rename_i h3
 rw [if_neg h3] at h
 split
 rename_i h4
 rw [if_pos h4] at h
 exact good_moveR hn hf hp ht h
 rename_i h4
 rw [if_neg h4] at h
 split
 rename_i h5
 rw [if_pos h5] at h
 split
 rename_i hg
 rw [if_pos hg] at h
 exact up (good_addR (by omega) hp ht (good_getR f ht hg) h)
 rename_i hg
 rw [if_neg hg] at h; cases h
 rename_i h5
 rw [if_neg h5] at h
 split
 exact ⟨D, goodN_mono (by omega) (Nat.le_refl _) ht⟩
 rename_i h6
 rw [if_neg h6] at h; cases h
theorem tokW_ok (v : Int) : textOk (tokW v) = true := by
 unfold tokW
 generalize ((v.tdiv 15).tmod 5).toNat * 1 = i
 rcases i with _ | _ | _ | _ | _ | i
 kernel_rfl
 kernel_rfl
 kernel_rfl
 kernel_rfl
 kernel_rfl
 rw [List.getD_eq_getElem?_getD, List.getElem?_eq_none (by simp)]; kernel_rfl
theorem digW_ok (k : Int) : textOk (digW k) = true := by
 unfold digW
 generalize (k.tmod 10).toNat * 1 = i
 rcases i with _ | _ | _ | _ | _ | _ | _ | _ | _ | _ | i
 kernel_rfl
 kernel_rfl
 kernel_rfl
 kernel_rfl
 kernel_rfl
 kernel_rfl
 kernel_rfl
 kernel_rfl
 kernel_rfl
 kernel_rfl
 rw [List.getD_eq_getElem?_getD, List.getElem?_eq_none (by simp)]; kernel_rfl
theorem key_ok {n d : Nat} {t : Tree} (h : GoodN n d t) (h7 : t.kind = 7) {x : ByteArray} (hx : x ∈ t.k) : textOk x = true := by
 cases d with
 | zero => exact h.elim
 | succ d =>
  have h1 := own_keys h.1.own h7
  have h2 : (mems t).map (·.1) = t.k := by
   rw [mems_k]; unfold cutK; rw [if_pos h7, List.take_of_length_le (by omega)]
  rw [← h2] at hx
  obtain ⟨p, hp, rfl⟩ := List.mem_map.1 hx
  exact h.1.texts p hp
theorem way_text {n : Nat} : ∀ (f : Nat) (l : List Int) {d : Nat} {t : Tree}, GoodN n d t → ∀ x ∈ wayG f t l, textOk x = true
 | 0, _, _, _, _, x, hx => by simp [wayG] at hx
 | f + 1, [], _, _, _, x, hx => by simp [wayG] at hx
 | f + 1, y :: l, d, t, h, x, hx => by
  rw [wayG] at hx
  split at hx
  split at hx
  simp only [List.mem_singleton] at hx; subst hx; exact tokW_ok _
  simp at hx
  rename_i hs
  have hs' : stopW t (placeF y 1048576) = false := by simpa using hs
  have h5 : ((t.v.length : Int) == 0) = false := by
   unfold stopW at hs'
   simp only [Bool.or_eq_false_iff] at hs'
   exact hs'.1.2
  have hk := kW_in (t := t) (placeF_in y 1048576 (by decide)).1 h5
  cases d with
  | zero => exact h.elim
  | succ d =>
   rcases List.mem_cons.1 hx with rfl | hx
   unfold nameW
   split
   rename_i h7
   have h8 := own_keys h.1.own (eq_of_beq h7)
   exact key_ok h (eq_of_beq h7) (getD_mem (by omega) _)
   exact digW_ok _
   exact way_text f l (h.2.2 _ (getD_mem (by omega) _)) x hx
theorem way_len : ∀ (f : Nat) (l : List Int) (t : Tree), (wayG f t l).length ≤ f
 | 0, _, _ => by simp [wayG]
 | f + 1, [], _ => by simp [wayG]
 | f + 1, y :: l, t => by
  rw [wayG]
  split
  split <;> simp
  have := way_len f l (t.v.getD (kW t (placeF y 1048576)).toNat (dflt .tree))
  simp only [List.length_cons]; omega
end Go.Proofs.YtondpnipoogoiaaGreatDoor.F
