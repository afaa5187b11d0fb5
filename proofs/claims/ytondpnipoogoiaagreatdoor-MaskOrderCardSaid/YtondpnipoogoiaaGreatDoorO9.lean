import Derived.Test.YtondpnipoogoiaaGreatDoorO6
import Derived.Test.YtondpnipoogoiaaGreatDoorO8
namespace Go.Proofs.YtondpnipoogoiaaGreatDoor.F
open Go Go.RowKit Go.Proofs.Tryz
set_option linter.unusedVariables false
set_option linter.unusedSimpArgs false
def normStep (out : List (List ByteArray)) (p : List ByteArray) : List (List ByteArray) :=
  if decide ((out.length : Int) > 0) = true then (if startsF (out.getD ((out.length : Int) - 1).toNat (dflt .strs)) p = true then out else out ++ [p]) else out ++ [p]
def normTo (s : List (List ByteArray)) (i : Nat) : List (List ByteArray) := (s.take i).foldl normStep []
def normF (l : List (List ByteArray)) : List (List ByteArray) := (sortP l).foldl normStep []
theorem normTo_succ {s : List (List ByteArray)} {i : Nat} (h : i < s.length) (d : List ByteArray) : normTo s (i + 1) = normStep (normTo s i) (s.getD i d) := by
  unfold normTo
  rw [List.take_succ_eq_append_getElem h, List.foldl_append, List.getD_eq_getElem?_getD, List.getElem?_eq_getElem h]; rfl
theorem normTo_len (s : List (List ByteArray)) : ∀ i, (normTo s i).length ≤ i
  | 0 => by simp [normTo]
  | i + 1 => by
    have ih := normTo_len s i
    rcases Nat.lt_or_ge i s.length with h | h
    · rw [normTo_succ h []]
      unfold normStep
      split
      · split
        · omega
        · rw [List.length_append]; simp; omega
      · rw [List.length_append]; simp; omega
    · unfold normTo at ih ⊢
      rw [List.take_of_length_le h] at ih
      rw [List.take_of_length_le (by omega)]; omega
theorem step_mem {out : List (List ByteArray)} {p q : List ByteArray} (h : q ∈ normStep out p) : q ∈ out ∨ q = p := by
  unfold normStep at h
  split at h
  · split at h
    · exact .inl h
    · simpa using h
  · simpa using h
theorem fold_mem : ∀ {s out : List (List ByteArray)} {q : List ByteArray}, q ∈ s.foldl normStep out → q ∈ out ∨ q ∈ s
  | [], out, q, h => .inl h
  | p :: s, out, q, h => by
    rcases fold_mem (s := s) h with h | h
    · rcases step_mem h with h | rfl
      · exact .inl h
      · exact .inr (by simp)
    · exact .inr (by simp [h])
theorem normTo_mem {s : List (List ByteArray)} {i : Nat} {q : List ByteArray} (h : q ∈ normTo s i) : q ∈ s := by
  rcases fold_mem h with h | h
  · simp at h
  · exact List.mem_of_mem_take h
theorem sortP_mem {l : List (List ByteArray)} {q : List ByteArray} : q ∈ sortP l ↔ q ∈ l := List.mem_mergeSort
theorem sortP_len (l : List (List ByteArray)) : (sortP l).length = l.length := List.length_mergeSort l
theorem normF_mem {l : List (List ByteArray)} {q : List ByteArray} (h : q ∈ normF l) : q ∈ l := by
  rcases fold_mem h with h | h
  · simp at h
  · exact sortP_mem.1 h
theorem normF_to (l : List (List ByteArray)) : normTo (sortP l) (sortP l).length = normF l := by unfold normTo normF; rw [List.take_length]
theorem normF_len (l : List (List ByteArray)) : (normF l).length ≤ l.length := by
  have h := normTo_len (sortP l) (sortP l).length
  rw [normF_to, sortP_len] at h; exact h
set_option maxRecDepth 100000 in
theorem con24 (l : List (List ByteArray)) (hl : l.length < 1000000) (hp : ∀ p ∈ l, p.length < 1000000) : Con Tryz.prog I0 24 [.row .strs l] (.own 26 .strs (normF l)) := by
 refine con_of Tryz.func24 rfl (Nat.le_of_ble_eq_true rfl) stab (fun w0 fz a hI hs => ?_)
 refine wp_seq ?_
 refine way_L (tt := tt) (rs := []) (bs := []) (tk := [0]) (bk := []) (C := True ∧ True) (lv := .norm) (T' := [(0, .row .strs l)]) (B' := []) mix hI hs ?_ ?_ ?_ ?_
 ·exact trivial
 ·kernel_rfl
 ·exact ⟨trivial, trivial⟩
 intro a w hs
 refine then_norm ?_
 refine wp_scope_straight ?_
 refine wp_seq ?_
 refine way_L (tt := tt) (rs := [(1, ⟨[(1, ciA 70 [.row .strs l] [] [] (.own 26 .strs l))], [], []⟩)]) (bs := []) (tk := [3]) (bk := [2001]) (C := True ∧ (okArgs [.row .strs l]) ∧ True ∧ True) (lv := .norm) (T' := [(3, .own 2001)]) (B' := [(2001, .sl 26 .strs l)]) mix hI hs ?_ ?_ ?_ ?_
 ·exact ⟨⟨⟨ent70, con70 _ (by omega)⟩, trivial⟩, trivial⟩
 ·kernel_rfl
 ·exact ⟨trivial, rfl, trivial, trivial⟩
 intro a w hs
 refine then_norm ?_
 refine wp_seq ?_
 refine way_L (tt := tt) (rs := [(2, ⟨[(1, ciB 71 [.own 0, .lit (.func (.func 72) #[] #[])] [] (.val (.tup [])) [(0, .sl 26 .strs l)] [(0, .sl 26 .strs (sortP l))] [(0, 2001)])], [], []⟩)]) (bs := []) (tk := [3]) (bk := [2001]) (C := True ∧ (okArgs [.own 2001, .lit (.func (.func 72) #[] #[])] ∧ okBxs [some (.sl 26 .strs l)]) ∧ True) (lv := .norm) (T' := [(3, .own 2001)]) (B' := [(2001, .sl 26 .strs (sortP l))]) mix hI hs ?_ ?_ ?_ ?_
 ·exact ⟨⟨⟨ent71, conSort _ (by omega) hp⟩, trivial⟩, trivial⟩
 ·kernel_rfl
 ·exact ⟨trivial, ⟨rfl, rfl⟩, trivial⟩
 intro a w hs
 refine then_norm ?_
 refine wp_seq ?_
 refine way_L (tt := tt) (rs := []) (bs := []) (tk := [3, 4]) (bk := [2001]) (C := True ∧ True) (lv := .norm) (T' := [(3, .own 2001), (4, nilv)]) (B' := [(2001, .sl 26 .strs (sortP l))]) mix hI hs ?_ ?_ ?_ ?_
 ·exact trivial
 ·kernel_rfl
 ·exact ⟨trivial, trivial⟩
 intro a w hs
 refine then_norm ?_
 refine wp_seq ?_
 refine way_L (tt := tt) (rs := []) (bs := []) (tk := [3, 4]) (bk := [2001]) (C := True) (lv := .norm) (T' := [(3, .own 2001), (4, nilv)]) (B' := [(2001, .sl 26 .strs (sortP l))]) mix hI hs ?_ ?_ ?_ ?_
 ·exact trivial
 ·kernel_rfl
 ·exact trivial
 intro a w hs
 refine then_norm ?_
 refine wp_seq ?_
 refine wp_seq ?_
 refine way_L (tt := tt) (rs := []) (bs := []) (tk := [4, 11, 12, 13]) (bk := [2001]) (C := tr 3 True) (lv := .norm) (T' := [(4, nilv), (11, .own 2001), (12, vi ((sortP l).length : Int)), (13, vi 0)]) (B' := [(2001, .sl 26 .strs (sortP l))]) mix hI hs ?_ ?_ ?_ ?_
 ·exact trivial
 ·kernel_rfl
 ·exact tr_mk trivial 3
 intro a w hs
 refine then_norm ?_
 refine wp_block ?_
 refine loop_L (N := Tryz.f24.ntmps) (w0 := w0) (ow := noO fz) (α := Nat) (fun p => [(4, .own 90000001), (11, .own 2001), (12, vi ((sortP l).length : Int)), (13, vi ((p : Nat) : Int))]) (fun p => [(2001, .sl 26 .strs (sortP l)), (90000001, .sl 26 .strs (normTo (sortP l) p))]) (fun p => p ≤ (sortP l).length) (fun p => (sortP l).length - p) 0 ?_ ?_ ?_
 ·exact Nat.zero_le _
 ·(have hs := (hs.nil 10000006 4 26 .strs (by kernel_rfl) (by decide) (by kernel_rfl) (by kernel_rfl)).ren (T' := [(4, .own 10000006), (11, .own 2001), (12, vi ((sortP l).length : Int)), (13, vi 0)]) (B' := [(2001, .sl 26 .strs (sortP l)), (10000006, .sl 26 .strs ([]))]) [(2001, 2001), (10000006, 10000006)] (by kernel_rfl) (by kernel_rfl) (by kernel_rfl); exact (SimL.cast hs (T' := [(4, .own 10000006), (11, .own 2001), (12, vi ((sortP l).length : Int)), (13, vi ((0 : Nat) : Int))]) (B' := [(2001, .sl 26 .strs (sortP l)), (10000006, .sl 26 .strs (normTo (sortP l) 0))]) (by rfl) rfl).ren [(2001, 2001), (90000001, 10000006)] (by kernel_rfl) (by kernel_rfl) (by kernel_rfl))
 rintro i hJ a w hs
 have hnl := normTo_len (sortP l) i
 have hsl := sortP_len l
 rcases Bool.eq_false_or_eq_true (decide (((i : Nat) : Int) < ((sortP l).length : Int))) with b1 | b1
 ·skip
  have n1 := of_decide_eq_true b1
  rcases Bool.eq_false_or_eq_true (decide (((normTo (sortP l) i).length : Int) > 0)) with b2 | b2
  ·skip
   have n2 := of_decide_eq_true b2
   rcases Bool.eq_false_or_eq_true (startsF ((normTo (sortP l) i).getD ((((normTo (sortP l) i).length : Int) - 1).toNat) (dflt .strs)) ((sortP l).getD i (dflt .strs))) with b3 | b3
   ·skip
    refine way_L (tt := tt) (rs := [(7, ⟨[(11, ciA 73 [.row .str ((normTo (sortP l) i).getD ((((normTo (sortP l) i).length : Int) - 1).toNat) (dflt .strs)), .row .str ((sortP l).getD i (dflt .strs))] [] [] (.val (vb (startsF ((normTo (sortP l) i).getD ((((normTo (sortP l) i).length : Int) - 1).toNat) (dflt .strs)) ((sortP l).getD i (dflt .strs))))))], [(4, true), (5, true), (6, true), (7, true), (8, true), (9, true), (10, true), (11, true), (1012, true)], []⟩)]) (bs := [true, true]) (tk := [4, 11, 12, 13]) (bk := [2001, 90000001]) (C := (True ∧ True) ∧ (((decide (((i : Nat) : Int) < ((sortP l).length : Int))) = true) ∧ True) ∧ (((0 ≤ ((i : Nat) : Int) ∧ ((i : Nat) : Int) < (sortP l).length) ∧ (i < (sortP l).length) ∧ True ∧ True) ∧ (tr 4 (((decide (((normTo (sortP l) i).length : Int) > 0)) = true) ∧ True ∧ ((decide (((normTo (sortP l) i).length : Int) > 0)) = true) ∧ True ∧ ((decide (((normTo (sortP l) i).length : Int) > 0)) = true) ∧ True ∧ ((decide (((normTo (sortP l) i).length : Int) > 0)) = true) ∧ (InR .i64 (((normTo (sortP l) i).length : Int) - 1)) ∧ ((decide (((normTo (sortP l) i).length : Int) > 0)) = true) ∧ (0 ≤ (((normTo (sortP l) i).length : Int) - 1) ∧ (((normTo (sortP l) i).length : Int) - 1) < (normTo (sortP l) i).length) ∧ ((decide (((normTo (sortP l) i).length : Int) > 0)) = true) ∧ ((((normTo (sortP l) i).length : Int) - 1).toNat < (normTo (sortP l) i).length) ∧ ((decide (((normTo (sortP l) i).length : Int) > 0)) = true) ∧ True ∧ ((decide (((normTo (sortP l) i).length : Int) > 0)) = true) ∧ (okArgs [.row .str ((normTo (sortP l) i).getD ((((normTo (sortP l) i).length : Int) - 1).toNat) (dflt .strs)), .row .str ((sortP l).getD i (dflt .strs))]) ∧ ((decide (((normTo (sortP l) i).length : Int) > 0)) = true) ∧ True)) ∧ ((startsF ((normTo (sortP l) i).getD ((((normTo (sortP l) i).length : Int) - 1).toNat) (dflt .strs)) ((sortP l).getD i (dflt .strs))) = true) ∧ True) ∧ (InR .i64 (((i : Nat) : Int) + 1)) ∧ True ∧ True) (lv := .norm) (T' := [(4, .own 90000001), (11, .own 2001), (12, vi ((sortP l).length : Int)), (13, vi (((i : Nat) : Int) + 1))]) (B' := [(2001, .sl 26 .strs (sortP l)), (90000001, .sl 26 .strs (normTo (sortP l) i))]) mix hI hs ?_ ?_ ?_ ?_
    ·exact ⟨⟨⟨ent73, con73 _ _ (by have := hp _ (sortP_mem.1 (normTo_mem (getD_mem (l := normTo (sortP l) i) (i := ((((normTo (sortP l) i).length : Int) - 1)).toNat) (by omega) (dflt .strs)))); omega) (by have := hp _ (sortP_mem.1 (getD_mem (l := sortP l) (i := i) (by omega) (dflt .strs))); omega)⟩, trivial⟩, trivial⟩
    ·kernel_rfl
    ·exact ⟨⟨trivial, trivial⟩, ⟨b1, trivial⟩, ⟨⟨⟨by omega, by omega⟩, (by omega), trivial, trivial⟩, tr_mk (⟨b2, trivial, b2, trivial, b2, trivial, b2, (inR64 (by omega) (by omega)), b2, ⟨by omega, by omega⟩, b2, (by omega), b2, trivial, b2, rfl, b2, trivial⟩) 4, b3, trivial⟩, (inR64 (by omega) (by omega)), trivial, trivial⟩
    intro a w hs
    refine then_norm ⟨i + 1, by omega, by omega, ?_⟩
    (have e0_ : (((i : Nat) : Int) + 1) = ((((i + 1) : Nat) : Int)) := (by first | rfl | (omega)); have e1_ : (normTo (sortP l) i) = (normTo (sortP l) (i + 1)) := (by first | rfl | (rw [normTo_succ (i := i) (by omega) (dflt .strs)]; unfold normStep; simp only [b2, b3]; rfl)); exact (SimL.cast hs (T' := [(4, .own 90000001), (11, .own 2001), (12, vi ((sortP l).length : Int)), (13, vi (((i + 1) : Nat) : Int))]) (B' := [(2001, .sl 26 .strs (sortP l)), (90000001, .sl 26 .strs (normTo (sortP l) (i + 1)))]) (by first | rfl | (rw [e0_, e1_]; done) | (simp only [e0_, e1_]; done) | (simp only [e0_, e1_]; rfl)) (by first | rfl | (rw [e0_, e1_]; done) | (simp only [e0_, e1_]; done) | (simp only [e0_, e1_]; rfl))).ren [(2001, 2001), (90000001, 90000001)] (by kernel_rfl) (by kernel_rfl) (by kernel_rfl))
   ·skip
    refine way_L (tt := tt) (rs := [(7, ⟨[(11, ciA 73 [.row .str ((normTo (sortP l) i).getD ((((normTo (sortP l) i).length : Int) - 1).toNat) (dflt .strs)), .row .str ((sortP l).getD i (dflt .strs))] [] [] (.val (vb (startsF ((normTo (sortP l) i).getD ((((normTo (sortP l) i).length : Int) - 1).toNat) (dflt .strs)) ((sortP l).getD i (dflt .strs))))))], [(4, true), (5, true), (6, true), (7, true), (8, true), (9, true), (10, true), (11, true), (1012, true)], []⟩), (8, ⟨[(2, ciA 74 [.row .str ((sortP l).getD i (dflt .strs))] [] [] (.own 9 .str ((sortP l).getD i (dflt .strs))))], [], []⟩)]) (bs := [true, false]) (tk := [4, 11, 12, 13]) (bk := [2001, 9004]) (C := (True ∧ True) ∧ (((decide (((i : Nat) : Int) < ((sortP l).length : Int))) = true) ∧ True) ∧ (((0 ≤ ((i : Nat) : Int) ∧ ((i : Nat) : Int) < (sortP l).length) ∧ (i < (sortP l).length) ∧ True ∧ True) ∧ ((tr 4 (((decide (((normTo (sortP l) i).length : Int) > 0)) = true) ∧ True ∧ ((decide (((normTo (sortP l) i).length : Int) > 0)) = true) ∧ True ∧ ((decide (((normTo (sortP l) i).length : Int) > 0)) = true) ∧ True ∧ ((decide (((normTo (sortP l) i).length : Int) > 0)) = true) ∧ (InR .i64 (((normTo (sortP l) i).length : Int) - 1)) ∧ ((decide (((normTo (sortP l) i).length : Int) > 0)) = true) ∧ (0 ≤ (((normTo (sortP l) i).length : Int) - 1) ∧ (((normTo (sortP l) i).length : Int) - 1) < (normTo (sortP l) i).length) ∧ ((decide (((normTo (sortP l) i).length : Int) > 0)) = true) ∧ ((((normTo (sortP l) i).length : Int) - 1).toNat < (normTo (sortP l) i).length) ∧ ((decide (((normTo (sortP l) i).length : Int) > 0)) = true) ∧ True ∧ ((decide (((normTo (sortP l) i).length : Int) > 0)) = true) ∧ (okArgs [.row .str ((normTo (sortP l) i).getD ((((normTo (sortP l) i).length : Int) - 1).toNat) (dflt .strs)), .row .str ((sortP l).getD i (dflt .strs))]) ∧ ((decide (((normTo (sortP l) i).length : Int) > 0)) = true) ∧ True)) ∧ ((startsF ((normTo (sortP l) i).getD ((((normTo (sortP l) i).length : Int) - 1).toNat) (dflt .strs)) ((sortP l).getD i (dflt .strs))) = false) ∧ True) ∧ True ∧ True ∧ (okArgs [.row .str ((sortP l).getD i (dflt .strs))]) ∧ True ∧ ((((normTo (sortP l) i).length + 1) * 24 : Nat) ≤ 140737488355328 ∧ (normTo (sortP l) i).length + 1 ≤ 140737488355328) ∧ True ∧ True) ∧ (InR .i64 (((i : Nat) : Int) + 1)) ∧ True ∧ True) (lv := .norm) (T' := [(4, .own 9004), (11, .own 2001), (12, vi ((sortP l).length : Int)), (13, vi (((i : Nat) : Int) + 1))]) (B' := [(2001, .sl 26 .strs (sortP l)), (9004, .sl 26 .strs ((normTo (sortP l) i) ++ ([((sortP l).getD i (dflt .strs))])))]) mix hI hs ?_ ?_ ?_ ?_
    ·exact ⟨⟨⟨ent73, con73 _ _ (by have := hp _ (sortP_mem.1 (normTo_mem (getD_mem (l := normTo (sortP l) i) (i := ((((normTo (sortP l) i).length : Int) - 1)).toNat) (by omega) (dflt .strs)))); omega) (by have := hp _ (sortP_mem.1 (getD_mem (l := sortP l) (i := i) (by omega) (dflt .strs))); omega)⟩, trivial⟩, ⟨⟨ent74, con74 _ (by have := hp _ (sortP_mem.1 (getD_mem (l := sortP l) (i := i) (by omega) (dflt .strs))); omega)⟩, trivial⟩, trivial⟩
    ·kernel_rfl
    ·exact ⟨⟨trivial, trivial⟩, ⟨b1, trivial⟩, ⟨⟨⟨by omega, by omega⟩, (by omega), trivial, trivial⟩, ⟨tr_mk (⟨b2, trivial, b2, trivial, b2, trivial, b2, (inR64 (by omega) (by omega)), b2, ⟨by omega, by omega⟩, b2, (by omega), b2, trivial, b2, rfl, b2, trivial⟩) 4, b3, trivial⟩, trivial, trivial, rfl, trivial, ⟨by omega, by omega⟩, trivial, trivial⟩, (inR64 (by omega) (by omega)), trivial, trivial⟩
    intro a w hs
    refine then_norm ⟨i + 1, by omega, by omega, ?_⟩
    (have e0_ : (((i : Nat) : Int) + 1) = ((((i + 1) : Nat) : Int)) := (by first | rfl | (omega)); have e1_ : ((normTo (sortP l) i) ++ ([((sortP l).getD i (dflt .strs))])) = (normTo (sortP l) (i + 1)) := (by first | rfl | (rw [normTo_succ (i := i) (by omega) (dflt .strs)]; unfold normStep; simp only [b2, b3]; rfl)); exact (SimL.cast hs (T' := [(4, .own 9004), (11, .own 2001), (12, vi ((sortP l).length : Int)), (13, vi (((i + 1) : Nat) : Int))]) (B' := [(2001, .sl 26 .strs (sortP l)), (9004, .sl 26 .strs (normTo (sortP l) (i + 1)))]) (by first | rfl | (rw [e0_, e1_]; done) | (simp only [e0_, e1_]; done) | (simp only [e0_, e1_]; rfl)) (by first | rfl | (rw [e0_, e1_]; done) | (simp only [e0_, e1_]; done) | (simp only [e0_, e1_]; rfl))).ren [(2001, 2001), (90000001, 9004)] (by kernel_rfl) (by kernel_rfl) (by kernel_rfl))
  ·skip
   have n2 := of_decide_eq_false b2
   refine way_L (tt := tt) (rs := [(7, ⟨[], [(4, false), (5, false), (6, false), (7, false), (8, false), (9, false), (10, false), (11, false), (1012, false)], []⟩), (8, ⟨[(2, ciA 74 [.row .str ((sortP l).getD i (dflt .strs))] [] [] (.own 9 .str ((sortP l).getD i (dflt .strs))))], [], []⟩)]) (bs := [true, false]) (tk := [4, 11, 12, 13]) (bk := [2001, 9004]) (C := (True ∧ True) ∧ (((decide (((i : Nat) : Int) < ((sortP l).length : Int))) = true) ∧ True) ∧ (((0 ≤ ((i : Nat) : Int) ∧ ((i : Nat) : Int) < (sortP l).length) ∧ (i < (sortP l).length) ∧ True ∧ True) ∧ ((tr 4 (((decide (((normTo (sortP l) i).length : Int) > 0)) = false) ∧ ((decide (((normTo (sortP l) i).length : Int) > 0)) = false) ∧ ((decide (((normTo (sortP l) i).length : Int) > 0)) = false) ∧ ((decide (((normTo (sortP l) i).length : Int) > 0)) = false) ∧ ((decide (((normTo (sortP l) i).length : Int) > 0)) = false) ∧ ((decide (((normTo (sortP l) i).length : Int) > 0)) = false) ∧ ((decide (((normTo (sortP l) i).length : Int) > 0)) = false) ∧ ((decide (((normTo (sortP l) i).length : Int) > 0)) = false) ∧ ((decide (((normTo (sortP l) i).length : Int) > 0)) = false) ∧ True)) ∧ (false = false) ∧ True) ∧ True ∧ True ∧ (okArgs [.row .str ((sortP l).getD i (dflt .strs))]) ∧ True ∧ ((((normTo (sortP l) i).length + 1) * 24 : Nat) ≤ 140737488355328 ∧ (normTo (sortP l) i).length + 1 ≤ 140737488355328) ∧ True ∧ True) ∧ (InR .i64 (((i : Nat) : Int) + 1)) ∧ True ∧ True) (lv := .norm) (T' := [(4, .own 9004), (11, .own 2001), (12, vi ((sortP l).length : Int)), (13, vi (((i : Nat) : Int) + 1))]) (B' := [(2001, .sl 26 .strs (sortP l)), (9004, .sl 26 .strs ((normTo (sortP l) i) ++ ([((sortP l).getD i (dflt .strs))])))]) mix hI hs ?_ ?_ ?_ ?_
   ·exact ⟨trivial, ⟨⟨ent74, con74 _ (by have := hp _ (sortP_mem.1 (getD_mem (l := sortP l) (i := i) (by omega) (dflt .strs))); omega)⟩, trivial⟩, trivial⟩
   ·kernel_rfl
   ·exact ⟨⟨trivial, trivial⟩, ⟨b1, trivial⟩, ⟨⟨⟨by omega, by omega⟩, (by omega), trivial, trivial⟩, ⟨tr_mk (⟨b2, b2, b2, b2, b2, b2, b2, b2, b2, trivial⟩) 4, rfl, trivial⟩, trivial, trivial, rfl, trivial, ⟨by omega, by omega⟩, trivial, trivial⟩, (inR64 (by omega) (by omega)), trivial, trivial⟩
   intro a w hs
   refine then_norm ⟨i + 1, by omega, by omega, ?_⟩
   (have e0_ : (((i : Nat) : Int) + 1) = ((((i + 1) : Nat) : Int)) := (by first | rfl | (omega)); have e1_ : ((normTo (sortP l) i) ++ ([((sortP l).getD i (dflt .strs))])) = (normTo (sortP l) (i + 1)) := (by first | rfl | (rw [normTo_succ (i := i) (by omega) (dflt .strs)]; unfold normStep; simp only [b2]; rfl)); exact (SimL.cast hs (T' := [(4, .own 9004), (11, .own 2001), (12, vi ((sortP l).length : Int)), (13, vi (((i + 1) : Nat) : Int))]) (B' := [(2001, .sl 26 .strs (sortP l)), (9004, .sl 26 .strs (normTo (sortP l) (i + 1)))]) (by first | rfl | (rw [e0_, e1_]; done) | (simp only [e0_, e1_]; done) | (simp only [e0_, e1_]; rfl)) (by first | rfl | (rw [e0_, e1_]; done) | (simp only [e0_, e1_]; done) | (simp only [e0_, e1_]; rfl))).ren [(2001, 2001), (90000001, 9004)] (by kernel_rfl) (by kernel_rfl) (by kernel_rfl))
 ·skip
  have n1 := of_decide_eq_false b1
  refine way_L (tt := tt) (rs := []) (bs := [false]) (tk := [4]) (bk := [90000001]) (C := (True ∧ True) ∧ ((decide (((i : Nat) : Int) < ((sortP l).length : Int))) = false) ∧ True) (lv := .exit 0) (T' := [(4, .own 90000001)]) (B' := [(90000001, .sl 26 .strs (normTo (sortP l) i))]) mix hI hs ?_ ?_ ?_ ?_
  ·exact trivial
  ·kernel_rfl
  ·exact ⟨⟨trivial, trivial⟩, b1, trivial⟩
  intro a w hs
  refine then_exit ?_
  refine inb_hit ?_
  refine then_norm ?_
  refine way_L (tt := tt) (rs := []) (bs := []) (tk := [2]) (bk := [90000001]) (C := (True ∧ True ∧ True) ∧ True) (lv := .ret) (T' := [(2, .own 90000001)]) (B' := [(90000001, .sl 26 .strs (normTo (sortP l) i))]) mix hI hs ?_ ?_ ?_ ?_
  ·exact trivial
  ·kernel_rfl
  ·exact ⟨⟨trivial, trivial, trivial⟩, trivial⟩
  intro a w hs
  refine ng_ret ?_
  exact FnQ_cast (out := .own 26 .strs (normTo (sortP l) i)) (by obtain rfl : i = (sortP l).length := (by omega); rw [normF_to]) (ret_ok [] hs (.inl ⟨90000001, by kernel_rfl, rfl⟩))
end Go.Proofs.YtondpnipoogoiaaGreatDoor.F
namespace Go.Proofs.YtondpnipoogoiaaGreatDoor.F
open Go Go.RowKit
set_option linter.unusedVariables false
set_option linter.unusedSimpArgs false
def sumL (f : Tree → Nat) : List Tree → Nat
  | [] => 0
  | t :: l => f t + sumL f l
def sumM (f : Tree → Nat) : Mem → Nat
  | [] => 0
  | (_, t) :: l => f t + sumM f l
theorem sumM_map (f : Tree → Nat) : ∀ l : Mem, sumM f l = sumL f (l.map (·.2))
  | [] => rfl
  | (_, t) :: l => by simp [sumM, sumL, sumM_map f l]
structure Meas (f : Tree → Nat) : Prop where
  obj : ∀ l, f (objM l) = 1 + sumM f l
  cut : ∀ t, 1 + sumM f (mems t) ≤ f t
  zero : f Tree.zero = 1
section
variable {f : Tree → Nat}
theorem sum_put (x : ByteArray) (v : Tree) : ∀ l : Mem, sumM f (putA x v l) = sumM f l + f v
  | [] => by simp [putA, sumM]
  | (y, u) :: l => by
    simp only [putA]
    split
    · simp only [sumM]; omega
    · simp only [sumM, sum_put x v l]; omega
theorem sum_rep (x : ByteArray) (v : Tree) : ∀ {l : Mem} {o : Tree}, lookA x l = some o → sumM f (repA x v l) + f o = sumM f l + f v
  | [], o, h => by simp [lookA] at h
  | (y, u) :: l, o, h => by
    simp only [lookA] at h
    simp only [repA]
    split at h
    · rename_i e
      simp only [Option.some.injEq] at h
      subst h
      rw [if_pos e]; simp only [sumM]; omega
    · rename_i e
      rw [if_neg e]; simp only [sumM]
      have := sum_rep x v (l := l) h; omega
theorem sum_del (x : ByteArray) : ∀ l : Mem, sumM f (delA x l) ≤ sumM f l
  | [] => Nat.le_refl _
  | (y, u) :: l => by
    simp only [delA]
    split
    · simp only [sumM]; omega
    · simp only [sumM]; have := sum_del x l; omega
theorem set_more (hf : Meas f) (t : Tree) (x : ByteArray) (v : Tree) : f (setT t x v) ≤ f t + f v := by
  have h1 := hf.cut t
  unfold setT insA
  rw [hf.obj]
  split
  · rename_i h
    obtain ⟨o, ho⟩ := Option.isSome_iff_exists.1 h
    have := sum_rep (f := f) x v ho; omega
  · rw [sum_put]; omega
theorem set_there (hf : Meas f) {t : Tree} {x : ByteArray} (h : memB t x = true) (v : Tree) : f (setT t x v) + f (memV t x) ≤ f t + f v := by
  have h1 := hf.cut t
  rw [memB_look] at h
  obtain ⟨o, ho⟩ := Option.isSome_iff_exists.1 h
  rw [memV_look, ho]
  unfold setT insA
  rw [if_pos h, hf.obj]
  have := sum_rep (f := f) x v ho
  simp only [Option.getD_some]; omega
theorem unset_less (hf : Meas f) (t : Tree) (x : ByteArray) : f (unsetT t x) ≤ f t := by
  have h1 := hf.cut t
  unfold unsetT
  split
  · rw [hf.obj]
    have := sum_del (f := f) x (mems t); omega
  · exact Nat.le_refl _
theorem memV_zero {t : Tree} {x : ByteArray} (h : memB t x = false) : memV t x = Tree.zero := (memV_neg (of_decide_eq_false h)).1
theorem setP_more (hf : Meas f) (v : Tree) : ∀ (p : List ByteArray) (t : Tree), f (setP p t v) ≤ f t + f v + p.length
  | [], t => by simp [setP]
  | n :: p, t => by
    have ih := setP_more hf v p (memV t n)
    simp only [setP, List.length_cons]
    cases h : memB t n with
    | true => have := set_there hf h (setP p (memV t n) v); omega
    | false =>
      have h1 := set_more hf t n (setP p (memV t n) v)
      rw [memV_zero h, hf.zero] at ih
      rw [memV_zero h] at h1 ⊢; omega
theorem unsetP_less (hf : Meas f) : ∀ (p : List ByteArray) (t : Tree), f (unsetP p t) ≤ f t
  | [], t => Nat.le_refl _
  | [n], t => unset_less hf t n
  | n :: m :: p, t => by
    simp only [unsetP]
    split
    · rename_i h
      have ih := unsetP_less hf (m :: p) (memV t n)
      have := set_there hf h (unsetP (m :: p) (memV t n)); omega
    · exact Nat.le_refl _
theorem look_sum {x : ByteArray} : ∀ {l : Mem} {o : Tree}, lookA x l = some o → f o ≤ sumM f l
  | [], o, h => by simp [lookA] at h
  | (y, u) :: l, o, h => by
    simp only [lookA] at h
    simp only [sumM]
    split at h
    · simp only [Option.some.injEq] at h; subst h; omega
    · have := look_sum h; omega
theorem mem_less (hf : Meas f) {t : Tree} {x : ByteArray} (h : memB t x = true) : f (memV t x) < f t := by
  have h1 := hf.cut t
  rw [memB_look] at h
  obtain ⟨o, ho⟩ := Option.isSome_iff_exists.1 h
  rw [memV_look, ho]
  have := look_sum (f := f) ho
  simp only [Option.getD_some]; omega
theorem get_less (hf : Meas f) : ∀ (p : List ByteArray) (t : Tree), (getF p t).2 = true → f (getF p t).1 ≤ f t
  | [], t, _ => Nat.le_refl _
  | n :: p, t, h => by
    simp only [getF] at h ⊢
    split at h
    · rename_i hb
      rw [if_pos hb]
      have := get_less hf p (memV t n) h
      have := mem_less hf hb; omega
    · cases h
end
theorem sumL_take (f : Tree → Nat) : ∀ (l : List Tree) (n : Nat), sumL f (l.take n) ≤ sumL f l
  | [], n => by simp [sumL]
  | t :: l, 0 => by simp [sumL]
  | t :: l, n + 1 => by simp only [List.take_succ_cons, sumL]; have := sumL_take f l n; omega
theorem nodesL_sum : ∀ l : List Tree, nodesL l = sumL nodes l
  | [] => rfl
  | t :: l => by simp [nodesL, sumL, nodesL_sum l]
theorem weightL_sum : ∀ l : List Tree, weightL l = sumL weight l
  | [] => rfl
  | t :: l => by simp [weightL, sumL, weightL_sum l]
theorem cut_sum (f : Tree → Nat) (t : Tree) : sumM f (mems t) ≤ sumL f t.v := by
  rw [sumM_map, mems_v]
  unfold cutV
  split
  · exact sumL_take f t.v _
  · simp [sumL]
theorem measNodes : Meas nodes := by
  refine ⟨fun l => ?_, fun t => ?_, by simp [Tree.zero, nodes, nodesL]⟩
  · rw [nodes_eq, nodesL_sum, sumM_map]; rfl
  · have h := cut_sum nodes t
    have h2 := nodes_eq t
    rw [nodesL_sum] at h2; omega
theorem measWeight : Meas weight := by
  refine ⟨fun l => ?_, fun t => ?_, by
    rw [weight_eq]
    have h : bulk Tree.zero = 1 := bulk_0 (t := Tree.zero) (show ¬ (0 : Int) = 3 by decide) (show ¬ (0 : Int) = 4 by decide) (show ¬ (0 : Int) = 5 by decide)
    rw [h]; rfl⟩
  · rw [weight_eq, weightL_sum, sumM_map]
    have : bulk (objM l) = 1 := bulk_0 (by simp [objM, Tree.kind]) (by simp [objM, Tree.kind]) (by simp [objM, Tree.kind])
    rw [this]; rfl
  · have h := cut_sum weight t
    have h2 := weight_eq t
    have h3 : 1 ≤ bulk t := by simp [bulk]
    rw [weightL_sum] at h2; omega
mutual
theorem chk_nodes : ∀ (t : Tree) (d l : Int), (chk t d l).1 = true → (chk t d l).2 = l - nodes t ∧ 0 ≤ (chk t d l).2 ∧ (0 ≤ d → d + depth t ≤ 65)
  | .mk k b n s ks v, d, l, h => by
    rw [chk_eq] at h ⊢
    split at h
    · cases h
    · rename_i hc
      rw [if_neg hc]
      have ih := chkL_nodes v (d + 1) (l - 1) (by omega) h
      have e1 : (chkL (Tree.mk k b n s ks v).v (d + 1) (l - 1)) = chkL v (d + 1) (l - 1) := rfl
      rw [e1]
      simp only [nodes, depth]
      exact ⟨by omega, ih.2.1, fun hd => by have := ih.2.2 (by omega); omega⟩
theorem chkL_nodes : ∀ (v : List Tree) (d l : Int), 0 ≤ l → (chkL v d l).1 = true → (chkL v d l).2 = l - nodesL v ∧ 0 ≤ (chkL v d l).2 ∧ (0 ≤ d → d ≤ 65 → d + depthL v ≤ 65)
  | [], d, l, hl, h => by simp only [chkL, nodesL, depthL]; exact ⟨by omega, hl, fun _ h => by omega⟩
  | x :: v, d, l, hl, h => by
    simp only [chkL] at h ⊢
    split at h
    · rename_i hc
      rw [if_pos hc]
      have h1 := chk_nodes x d l hc
      have h2 := chkL_nodes v d (chk x d l).2 h1.2.1 h
      simp only [nodesL, depthL]
      exact ⟨by omega, h2.2.1, fun a b => by have := h1.2.2 a; have := h2.2.2 a b; omega⟩
    · cases h
end
theorem valid_nodes {t : Tree} (h : validT t = true) : nodes t ≤ 2000 ∧ depth t ≤ 64 := by
  have := chk_nodes t 1 2000 h
  have := this.2.2 (by decide)
  omega
theorem own_bulk {t : Tree} (h : ownO t = true) : bulk t ≤ 2001 := by
  simp only [ownO, Bool.and_eq_true, decide_eq_true_eq] at h
  obtain ⟨_, _, hn, hs, _, _⟩ := h
  by_cases h3 : t.kind = 3
  · rw [bulk_3 h3]
    simp only [numO, h3, if_true, checkN] at hn
    split at hn
    · omega
    · split at hn
      · cases hn
      · omega
  · by_cases h4 : t.kind = 4
    · rw [bulk_4 h4]
      simp only [textO, h4, if_true, textOk, Bool.and_eq_true, decide_eq_true_eq] at hs
      omega
    · by_cases h5 : t.kind = 5
      · rw [bulk_5 h5]
        simp only [textO, h4, h5, if_true, if_false, decide_eq_true_eq] at hs
        simp at hs; omega
      · rw [bulk_0 h3 h4 h5]; omega
mutual
theorem chk_weight : ∀ (t : Tree) (d l : Int), (chk t d l).1 = true → weight t ≤ 2001 * nodes t
  | .mk k b n s ks v, d, l, h => by
    rw [chk_eq] at h
    split at h
    · cases h
    · rename_i hc
      have ih := chkL_weight v (d + 1) (l - 1) h
      have ho : ownO (.mk k b n s ks v) = true := by
        cases hq : ownO (.mk k b n s ks v) with
        | true => rfl
        | false => exact absurd (.inr (.inr hq)) hc
      have := own_bulk ho
      simp only [weight, nodes]; omega
theorem chkL_weight : ∀ (v : List Tree) (d l : Int), (chkL v d l).1 = true → weightL v ≤ 2001 * nodesL v
  | [], d, l, h => by simp [weightL]
  | x :: v, d, l, h => by
    simp only [chkL] at h
    split at h
    · rename_i hc
      have h1 := chk_weight x d l hc
      have h2 := chkL_weight v d (chk x d l).2 h
      simp only [weightL, nodesL]; omega
    · cases h
end
theorem valid_weight {t : Tree} (h : validT t = true) : weight t ≤ 4002000 := by
  have := chk_weight t 1 2000 h
  have := (valid_nodes h).1
  omega
def apStep (v t : Tree) (p : List ByteArray) : Tree := if (getF p v).2 = true then setP p t (getF p v).1 else unsetP p t
def apTo (v t : Tree) (s : List (List ByteArray)) (i : Nat) : Tree := (s.take i).foldl (apStep v) t
def apAll (t : Tree) (s : List (List ByteArray)) (v : Tree) : Tree := s.foldl (apStep v) t
theorem apTo_succ {v t : Tree} {s : List (List ByteArray)} {i : Nat} (h : i < s.length) (d : List ByteArray) : apTo v t s (i + 1) = apStep v (apTo v t s i) (s.getD i d) := by
  unfold apTo
  rw [List.take_succ_eq_append_getElem h, List.foldl_append, List.getD_eq_getElem?_getD, List.getElem?_eq_getElem h]; rfl
theorem apTo_yes {v t : Tree} {s : List (List ByteArray)} {i : Nat} (h : i < s.length) (hb : (getF (s.getD i (dflt .strs)) v).2 = true) : apTo v t s (i + 1) = setP (s.getD i (dflt .strs)) (apTo v t s i) (getF (s.getD i (dflt .strs)) v).1 := by
  rw [apTo_succ h (dflt .strs), apStep, if_pos hb]
theorem apTo_no {v t : Tree} {s : List (List ByteArray)} {i : Nat} (h : i < s.length) (hb : (getF (s.getD i (dflt .strs)) v).2 = false) : apTo v t s (i + 1) = unsetP (s.getD i (dflt .strs)) (apTo v t s i) := by
  rw [apTo_succ h (dflt .strs), apStep, if_neg (by rw [hb]; decide)]
theorem apTo_all (v t : Tree) (s : List (List ByteArray)) : apTo v t s s.length = apAll t s v := by unfold apTo apAll; rw [List.take_length]
theorem apStep_more {f : Tree → Nat} (hf : Meas f) (v t : Tree) (p : List ByteArray) : f (apStep v t p) ≤ f t + (f v + p.length) := by
  unfold apStep
  split
  · rename_i h
    have := setP_more hf (getF p v).1 p t
    have := get_less hf p v h; omega
  · have := unsetP_less hf p t; omega
theorem apTo_more {f : Tree → Nat} (hf : Meas f) (v t : Tree) (s : List (List ByteArray)) (hs : ∀ p ∈ s, p.length ≤ 63) : ∀ i, f (apTo v t s i) ≤ f t + i * (f v + 63)
  | 0 => by simp [apTo]
  | i + 1 => by
    have ih := apTo_more hf v t s hs i
    rw [Nat.succ_mul]
    rcases Nat.lt_or_ge i s.length with h | h
    · rw [apTo_succ h []]
      have h1 := apStep_more hf v (apTo v t s i) (s.getD i [])
      have h2 := hs _ (getD_mem h []); omega
    · unfold apTo at ih ⊢
      rw [List.take_of_length_le h] at ih
      rw [List.take_of_length_le (by omega)]; omega
theorem check_paths {l : List (List ByteArray)} (h : checkF l = true) : l.length ≤ 60 ∧ ∀ p ∈ l, 0 < p.length ∧ p.length ≤ 63 := by
  simp only [checkF, Bool.and_eq_true, decide_eq_true_eq, Bool.not_eq_true'] at h
  refine ⟨by omega, fun p hp => ?_⟩
  have := List.any_eq_false.1 h.2 p hp
  simp only [badPath, Bool.or_eq_true, not_or, decide_eq_true_eq, beq_iff_eq] at this
  omega
def applyF (t : Tree) (l : List (List ByteArray)) (s : List (List ByteArray)) (v : Tree) (w : Int) : Tree × Int :=
  if validT t = false ∨ validT v = false ∨ checkF l = false then (Tree.zero, 1)
  else if ((weight (apAll t s v) : Nat) : Int) > w ∨ nodes (apAll t s v) > 2000 ∨ depth (apAll t s v) > 64 ∨ fewT (apAll t s v) = false then (Tree.zero, 4)
  else (apAll t s v, 0)
end Go.Proofs.YtondpnipoogoiaaGreatDoor.F
namespace Go.Proofs.YtondpnipoogoiaaGreatDoor.F
open Go Go.RowKit Go.Proofs.Tryz
set_option linter.unusedVariables false
set_option linter.unusedSimpArgs false
set_option maxRecDepth 100000 in
theorem con26 (t v : Tree) (l : List (List ByteArray)) (wt : Int) (hft : fineT t) (hfv : fineT v) (hsm : ∀ x ∈ l, smalls x) (hl : l.length < 1000000) : Con Tryz.prog I0 26 [.agg (encTree t), .row .strs l, .agg (encTree v), vi wt] (.val (.tup [.agg (encTree ((applyF t l (normF l) v wt).1)), vi ((applyF t l (normF l) v wt).2)])) := by
 refine con_of Tryz.func26 rfl (Nat.le_of_ble_eq_true rfl) stab (fun w0 fz a hI hs => ?_)
 refine wp_seq ?_
 refine way_L (tt := tt) (rs := []) (bs := []) (tk := [1, 3, 4, 6, 8]) (bk := [1000, 1001, 1002]) (C := tr 4 True) (lv := .norm) (T' := [(1, .row .strs l), (3, vi wt), (4, .ptr 1000 0), (6, .ptr 1001 0), (8, .ptr 1002 0)]) (B' := [(1000, .var [vi t.kind, vb t.b, vb t.n.neg, .row (.int .u32) t.n.m, vi t.n.e, vs t.s, .row .str t.k, .row .tree t.v]), (1001, .var [vi v.kind, vb v.b, vb v.n.neg, .row (.int .u32) v.n.m, vi v.n.e, vs v.s, .row .str v.k, .row .tree v.v]), (1002, .var [vi 0, vb false, vb false, nilv, vi 0, vs (ba []), nilv, nilv])]) mix hI hs ?_ ?_ ?_ ?_
 ·exact trivial
 ·kernel_rfl
 ·exact tr_mk trivial 4
 intro a w hs
 refine then_norm ?_
 refine wp_seq ?_
 rcases Bool.eq_false_or_eq_true (validT t) with b1 | b1
 ·skip
  have ht1 : validT t = true := by assumption
  rcases Bool.eq_false_or_eq_true (validT v) with b2 | b2
  ·skip
   have ht2 : validT v = true := by assumption
   rcases Bool.eq_false_or_eq_true (checkF l) with b3 | b3
   ·skip
    have ht3 : checkF l = true := by assumption
    have hcp := check_paths ht3
    refine way_L (tt := tt) (rs := [(1, ⟨[(1, ciA 57 [.agg (encTree t)] [] [] (.val (vb (validT t)))), (5, ciA 57 [.agg (encTree v)] [] [] (.val (vb (validT v)))), (10, ciA 39 [.row .strs l] [] [] (.val (vb (checkF l))))], [(4, true), (5, true), (6, true), (1007, false), (9, true), (10, true), (11, true), (1012, false)], []⟩)]) (bs := [false]) (tk := [1, 3, 4, 6, 8]) (bk := [1000, 1001, 1002]) (C := (True ∧ (okArgs [.agg (encTree t)]) ∧ True ∧ True ∧ ((!(validT t)) = false) ∧ True ∧ ((!(validT t)) = false) ∧ (okArgs [.agg (encTree v)]) ∧ ((!(validT t)) = false) ∧ True ∧ ((!(validT t)) = false) ∧ True ∧ ((!(validT v)) = false) ∧ True ∧ ((!(validT v)) = false) ∧ (okArgs [.row .strs l]) ∧ ((!(validT v)) = false) ∧ True ∧ ((!(validT v)) = false) ∧ True) ∧ ((!(checkF l)) = false) ∧ True) (lv := .norm) (T' := [(1, .row .strs l), (3, vi wt), (4, .ptr 1000 0), (6, .ptr 1001 0), (8, .ptr 1002 0)]) (B' := [(1000, .var [vi t.kind, vb t.b, vb t.n.neg, .row (.int .u32) t.n.m, vi t.n.e, vs t.s, .row .str t.k, .row .tree t.v]), (1001, .var [vi v.kind, vb v.b, vb v.n.neg, .row (.int .u32) v.n.m, vi v.n.e, vs v.s, .row .str v.k, .row .tree v.v]), (1002, .var [vi 0, vb false, vb false, nilv, vi 0, vs (ba []), nilv, nilv])]) mix hI hs ?_ ?_ ?_ ?_
    ·exact ⟨⟨⟨ent57, con57 _ (by assumption)⟩, ⟨ent57, con57 _ (by assumption)⟩, ⟨ent39, con39 _ hsm (by omega)⟩, trivial⟩, trivial⟩
    ·kernel_rfl
    ·exact ⟨⟨trivial, rfl, trivial, trivial, (by rw [b1]; rfl), trivial, (by rw [b1]; rfl), rfl, (by rw [b1]; rfl), trivial, (by rw [b1]; rfl), trivial, (by rw [b2]; rfl), trivial, (by rw [b2]; rfl), rfl, (by rw [b2]; rfl), trivial, (by rw [b2]; rfl), trivial⟩, (by rw [b3]; rfl), trivial⟩
    intro a w hs
    refine then_norm ?_
    refine wp_seq ?_
    refine wp_seq ?_
    refine way_L (tt := tt) (rs := [(3, ⟨[(1, ciA 24 [.row .strs l] [] [] (.own 26 .strs (normF l)))], [], []⟩)]) (bs := []) (tk := [3, 4, 6, 8, 29, 30, 31]) (bk := [1000, 1001, 1002, 4001]) (C := True ∧ (okArgs [.row .strs l]) ∧ True ∧ True ∧ True) (lv := .norm) (T' := [(3, vi wt), (4, .ptr 1000 0), (6, .ptr 1001 0), (8, .ptr 1002 0), (29, .own 4001), (30, vi ((normF l).length : Int)), (31, vi 0)]) (B' := [(1000, .var [vi t.kind, vb t.b, vb t.n.neg, .row (.int .u32) t.n.m, vi t.n.e, vs t.s, .row .str t.k, .row .tree t.v]), (1001, .var [vi v.kind, vb v.b, vb v.n.neg, .row (.int .u32) v.n.m, vi v.n.e, vs v.s, .row .str v.k, .row .tree v.v]), (1002, .var [vi 0, vb false, vb false, nilv, vi 0, vs (ba []), nilv, nilv]), (4001, .sl 26 .strs (normF l))]) mix hI hs ?_ ?_ ?_ ?_
    ·exact ⟨⟨⟨ent24, con24 _ (by omega) (fun p hp => by have := (hcp.2 p hp).2; omega)⟩, trivial⟩, trivial⟩
    ·kernel_rfl
    ·exact ⟨trivial, rfl, trivial, trivial, trivial⟩
    intro a w hs
    refine then_norm ?_
    refine wp_block ?_
    have hvt := valid_nodes ht1
    have hvw := valid_weight ht1
    have hvv := valid_nodes ht2
    have hvx := valid_weight ht2
    have hnl := normF_len l
    have hcp := check_paths ht3
    refine loop_L (N := Tryz.f26.ntmps) (w0 := w0) (ow := noO fz) (α := Nat) (fun p => [(3, vi wt), (4, .ptr 90000001 0), (6, .ptr 1001 0), (8, .ptr 1002 0), (29, .own 90000002), (30, vi ((normF l).length : Int)), (31, vi ((p : Nat) : Int))]) (fun p => [(1001, .var [vi v.kind, vb v.b, vb v.n.neg, .row (.int .u32) v.n.m, vi v.n.e, vs v.s, .row .str v.k, .row .tree v.v]), (1002, .var [vi 0, vb false, vb false, nilv, vi 0, vs (ba []), nilv, nilv]), (90000001, .var [vi ((apTo v t (normF l) p).kind), vb ((apTo v t (normF l) p).b), vb ((apTo v t (normF l) p).n.neg), .row (.int .u32) ((apTo v t (normF l) p).n.m), vi ((apTo v t (normF l) p).n.e), vs ((apTo v t (normF l) p).s), .row .str ((apTo v t (normF l) p).k), .row .tree ((apTo v t (normF l) p).v)]), (90000002, .sl 26 .strs (normF l))]) (fun p => p ≤ (normF l).length) (fun p => (normF l).length - p) 0 ?_ ?_ ?_
    ·exact Nat.zero_le _
    ·exact (SimL.cast hs (T' := [(3, vi wt), (4, .ptr 1000 0), (6, .ptr 1001 0), (8, .ptr 1002 0), (29, .own 4001), (30, vi ((normF l).length : Int)), (31, vi ((0 : Nat) : Int))]) (B' := [(1000, .var [vi ((apTo v t (normF l) 0).kind), vb ((apTo v t (normF l) 0).b), vb ((apTo v t (normF l) 0).n.neg), .row (.int .u32) ((apTo v t (normF l) 0).n.m), vi ((apTo v t (normF l) 0).n.e), vs ((apTo v t (normF l) 0).s), .row .str ((apTo v t (normF l) 0).k), .row .tree ((apTo v t (normF l) 0).v)]), (1001, .var [vi v.kind, vb v.b, vb v.n.neg, .row (.int .u32) v.n.m, vi v.n.e, vs v.s, .row .str v.k, .row .tree v.v]), (1002, .var [vi 0, vb false, vb false, nilv, vi 0, vs (ba []), nilv, nilv]), (4001, .sl 26 .strs (normF l))]) (by rfl) rfl).ren [(1001, 1001), (1002, 1002), (90000001, 1000), (90000002, 4001)] (by kernel_rfl) (by kernel_rfl) (by kernel_rfl)
    rintro i hJ a w hs
    have hnn := apTo_more measNodes v t (normF l) (fun p hp => (hcp.2 p (normF_mem hp)).2) i
    have hww := apTo_more measWeight v t (normF l) (fun p hp => (hcp.2 p (normF_mem hp)).2) i
    have hpi : i < (normF l).length → 0 < ((normF l).getD i (dflt .strs)).length ∧ ((normF l).getD i (dflt .strs)).length ≤ 63 := fun h => hcp.2 _ (normF_mem (getD_mem h _))
    have hb1 : i * (nodes v + 63) ≤ 60 * (2000 + 63) := Nat.mul_le_mul (by omega) (by omega)
    have hb2 : i * (weight v + 63) ≤ 60 * (4002000 + 63) := Nat.mul_le_mul (by omega) (by omega)
    rcases Bool.eq_false_or_eq_true (decide (((i : Nat) : Int) < ((normF l).length : Int))) with b4 | b4
    ·skip
     have n4 := of_decide_eq_true b4
     rcases Bool.eq_false_or_eq_true ((getF ((normF l).getD i (dflt .strs)) v).2) with b5 | b5
     ·skip
      refine way_L (tt := tt) (rs := [(6, ⟨[(2, ciA 75 [.agg (encTree v), .row .str ((normF l).getD i (dflt .strs))] [] [] (.val (.tup [.agg (encTree ((getF ((normF l).getD i (dflt .strs)) v).1)), vb ((getF ((normF l).getD i (dflt .strs)) v).2)])))], [], []⟩), (8, ⟨[(3, ciA 76 [.agg (encTree (apTo v t (normF l) i)), .row .str ((normF l).getD i (dflt .strs)), .agg (encTree ((getF ((normF l).getD i (dflt .strs)) v).1))] [] [] (.val (.agg (encTree (setP ((normF l).getD i (dflt .strs)) (apTo v t (normF l) i) ((getF ((normF l).getD i (dflt .strs)) v).1))))))], [], []⟩)]) (bs := [true, true]) (tk := [3, 4, 6, 8, 29, 30, 31]) (bk := [1001, 1002, 90000001, 90000002]) (C := (True ∧ True) ∧ (((decide (((i : Nat) : Int) < ((normF l).length : Int))) = true) ∧ True) ∧ (((0 ≤ ((i : Nat) : Int) ∧ ((i : Nat) : Int) < (normF l).length) ∧ (i < (normF l).length) ∧ True ∧ True) ∧ (True ∧ True ∧ (okArgs [.agg (encTree v), .row .str ((normF l).getD i (dflt .strs))]) ∧ (tr 6 True)) ∧ (True ∧ True) ∧ (((getF ((normF l).getD i (dflt .strs)) v).2) = true) ∧ (tr 3 ((okArgs [.agg (encTree (apTo v t (normF l) i)), .row .str ((normF l).getD i (dflt .strs)), .agg (encTree ((getF ((normF l).getD i (dflt .strs)) v).1))]) ∧ True ∧ True)) ∧ True) ∧ (InR .i64 (((i : Nat) : Int) + 1)) ∧ True ∧ True) (lv := .norm) (T' := [(3, vi wt), (4, .ptr 90000001 0), (6, .ptr 1001 0), (8, .ptr 1002 0), (29, .own 90000002), (30, vi ((normF l).length : Int)), (31, vi (((i : Nat) : Int) + 1))]) (B' := [(1001, .var [vi v.kind, vb v.b, vb v.n.neg, .row (.int .u32) v.n.m, vi v.n.e, vs v.s, .row .str v.k, .row .tree v.v]), (1002, .var [vi 0, vb false, vb false, nilv, vi 0, vs (ba []), nilv, nilv]), (90000001, .var [vi ((setP ((normF l).getD i (dflt .strs)) (apTo v t (normF l) i) ((getF ((normF l).getD i (dflt .strs)) v).1)).kind), vb ((setP ((normF l).getD i (dflt .strs)) (apTo v t (normF l) i) ((getF ((normF l).getD i (dflt .strs)) v).1)).b), vb ((setP ((normF l).getD i (dflt .strs)) (apTo v t (normF l) i) ((getF ((normF l).getD i (dflt .strs)) v).1)).n.neg), .row (.int .u32) ((setP ((normF l).getD i (dflt .strs)) (apTo v t (normF l) i) ((getF ((normF l).getD i (dflt .strs)) v).1)).n.m), vi ((setP ((normF l).getD i (dflt .strs)) (apTo v t (normF l) i) ((getF ((normF l).getD i (dflt .strs)) v).1)).n.e), vs ((setP ((normF l).getD i (dflt .strs)) (apTo v t (normF l) i) ((getF ((normF l).getD i (dflt .strs)) v).1)).s), .row .str ((setP ((normF l).getD i (dflt .strs)) (apTo v t (normF l) i) ((getF ((normF l).getD i (dflt .strs)) v).1)).k), .row .tree ((setP ((normF l).getD i (dflt .strs)) (apTo v t (normF l) i) ((getF ((normF l).getD i (dflt .strs)) v).1)).v)]), (90000002, .sl 26 .strs (normF l))]) mix hI hs ?_ ?_ ?_ ?_
      ·exact ⟨⟨⟨ent75, con75 _ _ (by omega) (by omega)⟩, trivial⟩, ⟨⟨ent76, con76 _ _ _ (by omega) (by omega)⟩, trivial⟩, trivial⟩
      ·kernel_rfl
      ·exact ⟨⟨trivial, trivial⟩, ⟨b4, trivial⟩, ⟨⟨⟨by omega, by omega⟩, (by omega), trivial, trivial⟩, ⟨trivial, trivial, rfl, tr_mk trivial 6⟩, ⟨trivial, trivial⟩, b5, tr_mk (⟨rfl, trivial, trivial⟩) 3, trivial⟩, (inR64 (by omega) (by omega)), trivial, trivial⟩
      intro a w hs
      refine then_norm ⟨i + 1, by omega, by omega, ?_⟩
      (have e0_ : (((i : Nat) : Int) + 1) = ((((i + 1) : Nat) : Int)) := (by first | rfl | (omega)); have e1_ : ((setP ((normF l).getD i (dflt .strs)) (apTo v t (normF l) i) ((getF ((normF l).getD i (dflt .strs)) v).1)).kind) = ((apTo v t (normF l) (i + 1)).kind) := (by first | rfl | (rw [apTo_yes (i := i) (by omega) b5])); have e2_ : ((setP ((normF l).getD i (dflt .strs)) (apTo v t (normF l) i) ((getF ((normF l).getD i (dflt .strs)) v).1)).b) = ((apTo v t (normF l) (i + 1)).b) := (by first | rfl | (rw [apTo_yes (i := i) (by omega) b5])); have e3_ : ((setP ((normF l).getD i (dflt .strs)) (apTo v t (normF l) i) ((getF ((normF l).getD i (dflt .strs)) v).1)).n.neg) = ((apTo v t (normF l) (i + 1)).n.neg) := (by first | rfl | (rw [apTo_yes (i := i) (by omega) b5])); have e4_ : ((setP ((normF l).getD i (dflt .strs)) (apTo v t (normF l) i) ((getF ((normF l).getD i (dflt .strs)) v).1)).n.m) = ((apTo v t (normF l) (i + 1)).n.m) := (by first | rfl | (rw [apTo_yes (i := i) (by omega) b5])); have e5_ : ((setP ((normF l).getD i (dflt .strs)) (apTo v t (normF l) i) ((getF ((normF l).getD i (dflt .strs)) v).1)).n.e) = ((apTo v t (normF l) (i + 1)).n.e) := (by first | rfl | (rw [apTo_yes (i := i) (by omega) b5])); have e6_ : ((setP ((normF l).getD i (dflt .strs)) (apTo v t (normF l) i) ((getF ((normF l).getD i (dflt .strs)) v).1)).s) = ((apTo v t (normF l) (i + 1)).s) := (by first | rfl | (rw [apTo_yes (i := i) (by omega) b5])); have e7_ : ((setP ((normF l).getD i (dflt .strs)) (apTo v t (normF l) i) ((getF ((normF l).getD i (dflt .strs)) v).1)).k) = ((apTo v t (normF l) (i + 1)).k) := (by first | rfl | (rw [apTo_yes (i := i) (by omega) b5])); have e8_ : ((setP ((normF l).getD i (dflt .strs)) (apTo v t (normF l) i) ((getF ((normF l).getD i (dflt .strs)) v).1)).v) = ((apTo v t (normF l) (i + 1)).v) := (by first | rfl | (rw [apTo_yes (i := i) (by omega) b5])); exact (SimL.cast hs (T' := [(3, vi wt), (4, .ptr 90000001 0), (6, .ptr 1001 0), (8, .ptr 1002 0), (29, .own 90000002), (30, vi ((normF l).length : Int)), (31, vi (((i + 1) : Nat) : Int))]) (B' := [(1001, .var [vi v.kind, vb v.b, vb v.n.neg, .row (.int .u32) v.n.m, vi v.n.e, vs v.s, .row .str v.k, .row .tree v.v]), (1002, .var [vi 0, vb false, vb false, nilv, vi 0, vs (ba []), nilv, nilv]), (90000001, .var [vi ((apTo v t (normF l) (i + 1)).kind), vb ((apTo v t (normF l) (i + 1)).b), vb ((apTo v t (normF l) (i + 1)).n.neg), .row (.int .u32) ((apTo v t (normF l) (i + 1)).n.m), vi ((apTo v t (normF l) (i + 1)).n.e), vs ((apTo v t (normF l) (i + 1)).s), .row .str ((apTo v t (normF l) (i + 1)).k), .row .tree ((apTo v t (normF l) (i + 1)).v)]), (90000002, .sl 26 .strs (normF l))]) (by first | rfl | (rw [e0_, e1_, e2_, e3_, e4_, e5_, e6_, e7_, e8_]; done) | (simp only [e0_, e1_, e2_, e3_, e4_, e5_, e6_, e7_, e8_]; done) | (simp only [e0_, e1_, e2_, e3_, e4_, e5_, e6_, e7_, e8_]; rfl)) (by first | rfl | (rw [e0_, e1_, e2_, e3_, e4_, e5_, e6_, e7_, e8_]; done) | (simp only [e0_, e1_, e2_, e3_, e4_, e5_, e6_, e7_, e8_]; done) | (simp only [e0_, e1_, e2_, e3_, e4_, e5_, e6_, e7_, e8_]; rfl))).ren [(1001, 1001), (1002, 1002), (90000001, 90000001), (90000002, 90000002)] (by kernel_rfl) (by kernel_rfl) (by kernel_rfl))
     ·skip
      refine way_L (tt := tt) (rs := [(6, ⟨[(2, ciA 75 [.agg (encTree v), .row .str ((normF l).getD i (dflt .strs))] [] [] (.val (.tup [.agg (encTree ((getF ((normF l).getD i (dflt .strs)) v).1)), vb ((getF ((normF l).getD i (dflt .strs)) v).2)])))], [], []⟩), (9, ⟨[(2, ciA 77 [.agg (encTree (apTo v t (normF l) i)), .row .str ((normF l).getD i (dflt .strs))] [] [] (.val (.agg (encTree (unsetP ((normF l).getD i (dflt .strs)) (apTo v t (normF l) i))))))], [], []⟩)]) (bs := [true, false]) (tk := [3, 4, 6, 8, 29, 30, 31]) (bk := [1001, 1002, 90000001, 90000002]) (C := (True ∧ True) ∧ (((decide (((i : Nat) : Int) < ((normF l).length : Int))) = true) ∧ True) ∧ (((0 ≤ ((i : Nat) : Int) ∧ ((i : Nat) : Int) < (normF l).length) ∧ (i < (normF l).length) ∧ True ∧ True) ∧ ((True ∧ True ∧ (okArgs [.agg (encTree v), .row .str ((normF l).getD i (dflt .strs))]) ∧ (tr 6 True)) ∧ (True ∧ True) ∧ (((getF ((normF l).getD i (dflt .strs)) v).2) = false) ∧ True) ∧ True ∧ True ∧ (okArgs [.agg (encTree (apTo v t (normF l) i)), .row .str ((normF l).getD i (dflt .strs))]) ∧ True ∧ True) ∧ (InR .i64 (((i : Nat) : Int) + 1)) ∧ True ∧ True) (lv := .norm) (T' := [(3, vi wt), (4, .ptr 90000001 0), (6, .ptr 1001 0), (8, .ptr 1002 0), (29, .own 90000002), (30, vi ((normF l).length : Int)), (31, vi (((i : Nat) : Int) + 1))]) (B' := [(1001, .var [vi v.kind, vb v.b, vb v.n.neg, .row (.int .u32) v.n.m, vi v.n.e, vs v.s, .row .str v.k, .row .tree v.v]), (1002, .var [vi 0, vb false, vb false, nilv, vi 0, vs (ba []), nilv, nilv]), (90000001, .var [vi ((unsetP ((normF l).getD i (dflt .strs)) (apTo v t (normF l) i)).kind), vb ((unsetP ((normF l).getD i (dflt .strs)) (apTo v t (normF l) i)).b), vb ((unsetP ((normF l).getD i (dflt .strs)) (apTo v t (normF l) i)).n.neg), .row (.int .u32) ((unsetP ((normF l).getD i (dflt .strs)) (apTo v t (normF l) i)).n.m), vi ((unsetP ((normF l).getD i (dflt .strs)) (apTo v t (normF l) i)).n.e), vs ((unsetP ((normF l).getD i (dflt .strs)) (apTo v t (normF l) i)).s), .row .str ((unsetP ((normF l).getD i (dflt .strs)) (apTo v t (normF l) i)).k), .row .tree ((unsetP ((normF l).getD i (dflt .strs)) (apTo v t (normF l) i)).v)]), (90000002, .sl 26 .strs (normF l))]) mix hI hs ?_ ?_ ?_ ?_
      ·exact ⟨⟨⟨ent75, con75 _ _ (by omega) (by omega)⟩, trivial⟩, ⟨⟨ent77, con77 _ _ (by omega) (by omega) (by omega)⟩, trivial⟩, trivial⟩
      ·kernel_rfl
      ·exact ⟨⟨trivial, trivial⟩, ⟨b4, trivial⟩, ⟨⟨⟨by omega, by omega⟩, (by omega), trivial, trivial⟩, ⟨⟨trivial, trivial, rfl, tr_mk trivial 6⟩, ⟨trivial, trivial⟩, b5, trivial⟩, trivial, trivial, rfl, trivial, trivial⟩, (inR64 (by omega) (by omega)), trivial, trivial⟩
      intro a w hs
      refine then_norm ⟨i + 1, by omega, by omega, ?_⟩
      (have e0_ : (((i : Nat) : Int) + 1) = ((((i + 1) : Nat) : Int)) := (by first | rfl | (omega)); have e1_ : ((unsetP ((normF l).getD i (dflt .strs)) (apTo v t (normF l) i)).kind) = ((apTo v t (normF l) (i + 1)).kind) := (by first | rfl | (rw [apTo_no (i := i) (by omega) b5])); have e2_ : ((unsetP ((normF l).getD i (dflt .strs)) (apTo v t (normF l) i)).b) = ((apTo v t (normF l) (i + 1)).b) := (by first | rfl | (rw [apTo_no (i := i) (by omega) b5])); have e3_ : ((unsetP ((normF l).getD i (dflt .strs)) (apTo v t (normF l) i)).n.neg) = ((apTo v t (normF l) (i + 1)).n.neg) := (by first | rfl | (rw [apTo_no (i := i) (by omega) b5])); have e4_ : ((unsetP ((normF l).getD i (dflt .strs)) (apTo v t (normF l) i)).n.m) = ((apTo v t (normF l) (i + 1)).n.m) := (by first | rfl | (rw [apTo_no (i := i) (by omega) b5])); have e5_ : ((unsetP ((normF l).getD i (dflt .strs)) (apTo v t (normF l) i)).n.e) = ((apTo v t (normF l) (i + 1)).n.e) := (by first | rfl | (rw [apTo_no (i := i) (by omega) b5])); have e6_ : ((unsetP ((normF l).getD i (dflt .strs)) (apTo v t (normF l) i)).s) = ((apTo v t (normF l) (i + 1)).s) := (by first | rfl | (rw [apTo_no (i := i) (by omega) b5])); have e7_ : ((unsetP ((normF l).getD i (dflt .strs)) (apTo v t (normF l) i)).k) = ((apTo v t (normF l) (i + 1)).k) := (by first | rfl | (rw [apTo_no (i := i) (by omega) b5])); have e8_ : ((unsetP ((normF l).getD i (dflt .strs)) (apTo v t (normF l) i)).v) = ((apTo v t (normF l) (i + 1)).v) := (by first | rfl | (rw [apTo_no (i := i) (by omega) b5])); exact (SimL.cast hs (T' := [(3, vi wt), (4, .ptr 90000001 0), (6, .ptr 1001 0), (8, .ptr 1002 0), (29, .own 90000002), (30, vi ((normF l).length : Int)), (31, vi (((i + 1) : Nat) : Int))]) (B' := [(1001, .var [vi v.kind, vb v.b, vb v.n.neg, .row (.int .u32) v.n.m, vi v.n.e, vs v.s, .row .str v.k, .row .tree v.v]), (1002, .var [vi 0, vb false, vb false, nilv, vi 0, vs (ba []), nilv, nilv]), (90000001, .var [vi ((apTo v t (normF l) (i + 1)).kind), vb ((apTo v t (normF l) (i + 1)).b), vb ((apTo v t (normF l) (i + 1)).n.neg), .row (.int .u32) ((apTo v t (normF l) (i + 1)).n.m), vi ((apTo v t (normF l) (i + 1)).n.e), vs ((apTo v t (normF l) (i + 1)).s), .row .str ((apTo v t (normF l) (i + 1)).k), .row .tree ((apTo v t (normF l) (i + 1)).v)]), (90000002, .sl 26 .strs (normF l))]) (by first | rfl | (rw [e0_, e1_, e2_, e3_, e4_, e5_, e6_, e7_, e8_]; done) | (simp only [e0_, e1_, e2_, e3_, e4_, e5_, e6_, e7_, e8_]; done) | (simp only [e0_, e1_, e2_, e3_, e4_, e5_, e6_, e7_, e8_]; rfl)) (by first | rfl | (rw [e0_, e1_, e2_, e3_, e4_, e5_, e6_, e7_, e8_]; done) | (simp only [e0_, e1_, e2_, e3_, e4_, e5_, e6_, e7_, e8_]; done) | (simp only [e0_, e1_, e2_, e3_, e4_, e5_, e6_, e7_, e8_]; rfl))).ren [(1001, 1001), (1002, 1002), (90000001, 90000001), (90000002, 90000002)] (by kernel_rfl) (by kernel_rfl) (by kernel_rfl))
    ·skip
     have n4 := of_decide_eq_false b4
     refine way_L (tt := tt) (rs := []) (bs := [false]) (tk := [3, 4, 8]) (bk := [1002, 90000001]) (C := (True ∧ True) ∧ ((decide (((i : Nat) : Int) < ((normF l).length : Int))) = false) ∧ True) (lv := .exit 0) (T' := [(3, vi wt), (4, .ptr 90000001 0), (8, .ptr 1002 0)]) (B' := [(1002, .var [vi 0, vb false, vb false, nilv, vi 0, vs (ba []), nilv, nilv]), (90000001, .var [vi ((apTo v t (normF l) i).kind), vb ((apTo v t (normF l) i).b), vb ((apTo v t (normF l) i).n.neg), .row (.int .u32) ((apTo v t (normF l) i).n.m), vi ((apTo v t (normF l) i).n.e), vs ((apTo v t (normF l) i).s), .row .str ((apTo v t (normF l) i).k), .row .tree ((apTo v t (normF l) i).v)])]) mix hI hs ?_ ?_ ?_ ?_
     ·exact trivial
     ·kernel_rfl
     ·exact ⟨⟨trivial, trivial⟩, b4, trivial⟩
     intro a w hs
     refine then_exit ?_
     refine inb_hit ?_
     refine then_norm ?_
     rcases Bool.eq_false_or_eq_true (decide (((weight (apTo v t (normF l) i) : Nat) : Int) > wt)) with b6 | b6
     ·skip
      have n6 := of_decide_eq_true b6
      refine way_L (tt := tt) (rs := [(11, ⟨[(1, ciA 78 [.agg (encTree (apTo v t (normF l) i))] [] [] (.val (vi ((weight (apTo v t (normF l) i) : Nat) : Int))))], [(5, false), (6, false), (7, false), (1008, true), (10, false), (11, false), (12, false), (1013, true), (15, false), (16, false), (17, false), (1018, true)], []⟩)]) (bs := [true]) (tk := [8, 9]) (bk := [1002]) (C := (True ∧ (okArgs [.agg (encTree (apTo v t (normF l) i))]) ∧ (tr 3 (((decide (((weight (apTo v t (normF l) i) : Nat) : Int) > wt)) = true) ∧ ((decide (((weight (apTo v t (normF l) i) : Nat) : Int) > wt)) = true) ∧ ((decide (((weight (apTo v t (normF l) i) : Nat) : Int) > wt)) = true) ∧ ((decide (((weight (apTo v t (normF l) i) : Nat) : Int) > wt)) = true) ∧ True ∧ (true = true) ∧ (true = true) ∧ (true = true) ∧ (true = true) ∧ True ∧ (true = true) ∧ (true = true) ∧ (true = true) ∧ (true = true) ∧ True))) ∧ (true = true) ∧ (tr 3 True) ∧ True) (lv := .ret) (T' := [(8, .ptr 1002 0), (9, vi 4)]) (B' := [(1002, .var [vi 0, vb false, vb false, nilv, vi 0, vs (ba []), nilv, nilv])]) mix hI hs ?_ ?_ ?_ ?_
      ·exact ⟨⟨⟨ent78, con78 _ (by omega)⟩, trivial⟩, trivial⟩
      ·kernel_rfl
      ·exact ⟨⟨trivial, rfl, tr_mk (⟨b6, b6, b6, b6, trivial, rfl, rfl, rfl, rfl, trivial, rfl, rfl, rfl, rfl, trivial⟩) 3⟩, rfl, tr_mk trivial 3, trivial⟩
      intro a w hs
      exact FnQ_cast (out := .val (.tup [.agg [vi 0, vb false, vb false, .row (.int .u32) ([]), vi 0, vs (ba []), .row .str ([]), .row .tree ([])], vi 4])) (by have hia : i = (normF l).length := (by omega); subst hia; simp only [apTo_all] at *; rw [applyF, if_neg (by rintro (h | h | h) <;> simp_all), if_pos (by first | exact .inl (by omega) | exact .inr (.inl (by omega)) | exact .inr (.inr (.inl (by omega))) | exact .inr (.inr (.inr b6)))]; rfl) (ret_ok [] hs ⟨by kernel_rfl, rfl⟩)
     ·skip
      have n6 := of_decide_eq_false b6
      rcases Bool.eq_false_or_eq_true (decide (((nodes (apTo v t (normF l) i) : Nat) : Int) > 2000)) with b7 | b7
      ·skip
       have n7 := of_decide_eq_true b7
       refine way_L (tt := tt) (rs := [(11, ⟨[(1, ciA 78 [.agg (encTree (apTo v t (normF l) i))] [] [] (.val (vi ((weight (apTo v t (normF l) i) : Nat) : Int)))), (6, ciA 79 [.agg (encTree (apTo v t (normF l) i))] [] [] (.val (vi ((nodes (apTo v t (normF l) i) : Nat) : Int))))], [(5, true), (6, true), (7, true), (1008, false), (10, false), (11, false), (12, false), (1013, true), (15, false), (16, false), (17, false), (1018, true)], []⟩)]) (bs := [true]) (tk := [8, 9]) (bk := [1002]) (C := (True ∧ (okArgs [.agg (encTree (apTo v t (normF l) i))]) ∧ (tr 3 (((decide (((weight (apTo v t (normF l) i) : Nat) : Int) > wt)) = false) ∧ True ∧ ((decide (((weight (apTo v t (normF l) i) : Nat) : Int) > wt)) = false) ∧ (okArgs [.agg (encTree (apTo v t (normF l) i))]) ∧ ((decide (((weight (apTo v t (normF l) i) : Nat) : Int) > wt)) = false) ∧ True ∧ ((decide (((weight (apTo v t (normF l) i) : Nat) : Int) > wt)) = false) ∧ True ∧ ((decide (((nodes (apTo v t (normF l) i) : Nat) : Int) > 2000)) = true) ∧ ((decide (((nodes (apTo v t (normF l) i) : Nat) : Int) > 2000)) = true) ∧ ((decide (((nodes (apTo v t (normF l) i) : Nat) : Int) > 2000)) = true) ∧ ((decide (((nodes (apTo v t (normF l) i) : Nat) : Int) > 2000)) = true) ∧ True ∧ (true = true) ∧ (true = true) ∧ (true = true) ∧ (true = true) ∧ True))) ∧ (true = true) ∧ (tr 3 True) ∧ True) (lv := .ret) (T' := [(8, .ptr 1002 0), (9, vi 4)]) (B' := [(1002, .var [vi 0, vb false, vb false, nilv, vi 0, vs (ba []), nilv, nilv])]) mix hI hs ?_ ?_ ?_ ?_
       ·exact ⟨⟨⟨ent78, con78 _ (by omega)⟩, ⟨ent79, con79 _ (by omega)⟩, trivial⟩, trivial⟩
       ·kernel_rfl
       ·exact ⟨⟨trivial, rfl, tr_mk (⟨b6, trivial, b6, rfl, b6, trivial, b6, trivial, b7, b7, b7, b7, trivial, rfl, rfl, rfl, rfl, trivial⟩) 3⟩, rfl, tr_mk trivial 3, trivial⟩
       intro a w hs
       exact FnQ_cast (out := .val (.tup [.agg [vi 0, vb false, vb false, .row (.int .u32) ([]), vi 0, vs (ba []), .row .str ([]), .row .tree ([])], vi 4])) (by have hia : i = (normF l).length := (by omega); subst hia; simp only [apTo_all] at *; rw [applyF, if_neg (by rintro (h | h | h) <;> simp_all), if_pos (by first | exact .inl (by omega) | exact .inr (.inl (by omega)) | exact .inr (.inr (.inl (by omega))) | exact .inr (.inr (.inr b7)))]; rfl) (ret_ok [] hs ⟨by kernel_rfl, rfl⟩)
      ·skip
       have n7 := of_decide_eq_false b7
       rcases Bool.eq_false_or_eq_true (decide (((depth (apTo v t (normF l) i) : Nat) : Int) > 64)) with b8 | b8
       ·skip
        have n8 := of_decide_eq_true b8
        refine way_L (tt := tt) (rs := [(11, ⟨[(1, ciA 78 [.agg (encTree (apTo v t (normF l) i))] [] [] (.val (vi ((weight (apTo v t (normF l) i) : Nat) : Int)))), (6, ciA 79 [.agg (encTree (apTo v t (normF l) i))] [] [] (.val (vi ((nodes (apTo v t (normF l) i) : Nat) : Int)))), (11, ciA 80 [.agg (encTree (apTo v t (normF l) i))] [] [] (.val (vi ((depth (apTo v t (normF l) i) : Nat) : Int))))], [(5, true), (6, true), (7, true), (1008, false), (10, true), (11, true), (12, true), (1013, false), (15, false), (16, false), (17, false), (1018, true)], []⟩)]) (bs := [true]) (tk := [8, 9]) (bk := [1002]) (C := (True ∧ (okArgs [.agg (encTree (apTo v t (normF l) i))]) ∧ (tr 3 (((decide (((weight (apTo v t (normF l) i) : Nat) : Int) > wt)) = false) ∧ True ∧ ((decide (((weight (apTo v t (normF l) i) : Nat) : Int) > wt)) = false) ∧ (okArgs [.agg (encTree (apTo v t (normF l) i))]) ∧ ((decide (((weight (apTo v t (normF l) i) : Nat) : Int) > wt)) = false) ∧ True ∧ ((decide (((weight (apTo v t (normF l) i) : Nat) : Int) > wt)) = false) ∧ True ∧ ((decide (((nodes (apTo v t (normF l) i) : Nat) : Int) > 2000)) = false) ∧ True ∧ ((decide (((nodes (apTo v t (normF l) i) : Nat) : Int) > 2000)) = false) ∧ (okArgs [.agg (encTree (apTo v t (normF l) i))]) ∧ ((decide (((nodes (apTo v t (normF l) i) : Nat) : Int) > 2000)) = false) ∧ True ∧ ((decide (((nodes (apTo v t (normF l) i) : Nat) : Int) > 2000)) = false) ∧ True ∧ ((decide (((depth (apTo v t (normF l) i) : Nat) : Int) > 64)) = true) ∧ ((decide (((depth (apTo v t (normF l) i) : Nat) : Int) > 64)) = true) ∧ ((decide (((depth (apTo v t (normF l) i) : Nat) : Int) > 64)) = true) ∧ ((decide (((depth (apTo v t (normF l) i) : Nat) : Int) > 64)) = true) ∧ True))) ∧ (true = true) ∧ (tr 3 True) ∧ True) (lv := .ret) (T' := [(8, .ptr 1002 0), (9, vi 4)]) (B' := [(1002, .var [vi 0, vb false, vb false, nilv, vi 0, vs (ba []), nilv, nilv])]) mix hI hs ?_ ?_ ?_ ?_
        ·exact ⟨⟨⟨ent78, con78 _ (by omega)⟩, ⟨ent79, con79 _ (by omega)⟩, ⟨ent80, con80 _ (by omega)⟩, trivial⟩, trivial⟩
        ·kernel_rfl
        ·exact ⟨⟨trivial, rfl, tr_mk (⟨b6, trivial, b6, rfl, b6, trivial, b6, trivial, b7, trivial, b7, rfl, b7, trivial, b7, trivial, b8, b8, b8, b8, trivial⟩) 3⟩, rfl, tr_mk trivial 3, trivial⟩
        intro a w hs
        exact FnQ_cast (out := .val (.tup [.agg [vi 0, vb false, vb false, .row (.int .u32) ([]), vi 0, vs (ba []), .row .str ([]), .row .tree ([])], vi 4])) (by have hia : i = (normF l).length := (by omega); subst hia; simp only [apTo_all] at *; rw [applyF, if_neg (by rintro (h | h | h) <;> simp_all), if_pos (by first | exact .inl (by omega) | exact .inr (.inl (by omega)) | exact .inr (.inr (.inl (by omega))) | exact .inr (.inr (.inr b8)))]; rfl) (ret_ok [] hs ⟨by kernel_rfl, rfl⟩)
       ·skip
        have n8 := of_decide_eq_false b8
        rcases Bool.eq_false_or_eq_true (fewT (apTo v t (normF l) i)) with b9 | b9
        ·skip
         refine way_L (tt := tt) (rs := [(11, ⟨[(1, ciA 78 [.agg (encTree (apTo v t (normF l) i))] [] [] (.val (vi ((weight (apTo v t (normF l) i) : Nat) : Int)))), (6, ciA 79 [.agg (encTree (apTo v t (normF l) i))] [] [] (.val (vi ((nodes (apTo v t (normF l) i) : Nat) : Int)))), (11, ciA 80 [.agg (encTree (apTo v t (normF l) i))] [] [] (.val (vi ((depth (apTo v t (normF l) i) : Nat) : Int)))), (16, ciA 81 [.agg (encTree (apTo v t (normF l) i))] [] [] (.val (vb (fewT (apTo v t (normF l) i)))))], [(5, true), (6, true), (7, true), (1008, false), (10, true), (11, true), (12, true), (1013, false), (15, true), (16, true), (17, true), (1018, false)], []⟩)]) (bs := [false]) (tk := [8, 9]) (bk := [1002]) (C := ((True ∧ (okArgs [.agg (encTree (apTo v t (normF l) i))]) ∧ (tr 3 (((decide (((weight (apTo v t (normF l) i) : Nat) : Int) > wt)) = false) ∧ True ∧ ((decide (((weight (apTo v t (normF l) i) : Nat) : Int) > wt)) = false) ∧ (okArgs [.agg (encTree (apTo v t (normF l) i))]) ∧ ((decide (((weight (apTo v t (normF l) i) : Nat) : Int) > wt)) = false) ∧ True ∧ ((decide (((weight (apTo v t (normF l) i) : Nat) : Int) > wt)) = false) ∧ True ∧ ((decide (((nodes (apTo v t (normF l) i) : Nat) : Int) > 2000)) = false) ∧ True ∧ ((decide (((nodes (apTo v t (normF l) i) : Nat) : Int) > 2000)) = false) ∧ (okArgs [.agg (encTree (apTo v t (normF l) i))]) ∧ ((decide (((nodes (apTo v t (normF l) i) : Nat) : Int) > 2000)) = false) ∧ True ∧ ((decide (((nodes (apTo v t (normF l) i) : Nat) : Int) > 2000)) = false) ∧ True ∧ ((decide (((depth (apTo v t (normF l) i) : Nat) : Int) > 64)) = false) ∧ True ∧ ((decide (((depth (apTo v t (normF l) i) : Nat) : Int) > 64)) = false) ∧ (okArgs [.agg (encTree (apTo v t (normF l) i))]) ∧ ((decide (((depth (apTo v t (normF l) i) : Nat) : Int) > 64)) = false) ∧ True ∧ ((decide (((depth (apTo v t (normF l) i) : Nat) : Int) > 64)) = false) ∧ True))) ∧ ((!(fewT (apTo v t (normF l) i))) = false) ∧ True) ∧ (tr 3 True) ∧ True) (lv := .ret) (T' := [(8, .ptr 1002 0), (9, vi 0)]) (B' := [(1002, .var [vi ((apTo v t (normF l) i).kind), vb ((apTo v t (normF l) i).b), vb ((apTo v t (normF l) i).n.neg), .row (.int .u32) ((apTo v t (normF l) i).n.m), vi ((apTo v t (normF l) i).n.e), vs ((apTo v t (normF l) i).s), .row .str ((apTo v t (normF l) i).k), .row .tree ((apTo v t (normF l) i).v)])]) mix hI hs ?_ ?_ ?_ ?_
         ·exact ⟨⟨⟨ent78, con78 _ (by omega)⟩, ⟨ent79, con79 _ (by omega)⟩, ⟨ent80, con80 _ (by omega)⟩, ⟨ent81, conFew_mask _ (by omega)⟩, trivial⟩, trivial⟩
         ·kernel_rfl
         ·exact ⟨⟨⟨trivial, rfl, tr_mk (⟨b6, trivial, b6, rfl, b6, trivial, b6, trivial, b7, trivial, b7, rfl, b7, trivial, b7, trivial, b8, trivial, b8, rfl, b8, trivial, b8, trivial⟩) 3⟩, (by rw [b9]; rfl), trivial⟩, tr_mk trivial 3, trivial⟩
         intro a w hs
         exact FnQ_cast (out := .val (.tup [.agg (encTree (apTo v t (normF l) i)), vi 0])) (by have hia : i = (normF l).length := (by omega); subst hia; simp only [apTo_all] at *; rw [applyF, if_neg (by rintro (h | h | h) <;> simp_all), if_neg (by rintro (h | h | h | h); omega; omega; omega; rw [b9] at h; cases h)]) (ret_ok [] hs ⟨by kernel_rfl, rfl⟩)
        ·skip
         refine way_L (tt := tt) (rs := [(11, ⟨[(1, ciA 78 [.agg (encTree (apTo v t (normF l) i))] [] [] (.val (vi ((weight (apTo v t (normF l) i) : Nat) : Int)))), (6, ciA 79 [.agg (encTree (apTo v t (normF l) i))] [] [] (.val (vi ((nodes (apTo v t (normF l) i) : Nat) : Int)))), (11, ciA 80 [.agg (encTree (apTo v t (normF l) i))] [] [] (.val (vi ((depth (apTo v t (normF l) i) : Nat) : Int)))), (16, ciA 81 [.agg (encTree (apTo v t (normF l) i))] [] [] (.val (vb (fewT (apTo v t (normF l) i)))))], [(5, true), (6, true), (7, true), (1008, false), (10, true), (11, true), (12, true), (1013, false), (15, true), (16, true), (17, true), (1018, false)], []⟩)]) (bs := [true]) (tk := [8, 9]) (bk := [1002]) (C := (True ∧ (okArgs [.agg (encTree (apTo v t (normF l) i))]) ∧ (tr 3 (((decide (((weight (apTo v t (normF l) i) : Nat) : Int) > wt)) = false) ∧ True ∧ ((decide (((weight (apTo v t (normF l) i) : Nat) : Int) > wt)) = false) ∧ (okArgs [.agg (encTree (apTo v t (normF l) i))]) ∧ ((decide (((weight (apTo v t (normF l) i) : Nat) : Int) > wt)) = false) ∧ True ∧ ((decide (((weight (apTo v t (normF l) i) : Nat) : Int) > wt)) = false) ∧ True ∧ ((decide (((nodes (apTo v t (normF l) i) : Nat) : Int) > 2000)) = false) ∧ True ∧ ((decide (((nodes (apTo v t (normF l) i) : Nat) : Int) > 2000)) = false) ∧ (okArgs [.agg (encTree (apTo v t (normF l) i))]) ∧ ((decide (((nodes (apTo v t (normF l) i) : Nat) : Int) > 2000)) = false) ∧ True ∧ ((decide (((nodes (apTo v t (normF l) i) : Nat) : Int) > 2000)) = false) ∧ True ∧ ((decide (((depth (apTo v t (normF l) i) : Nat) : Int) > 64)) = false) ∧ True ∧ ((decide (((depth (apTo v t (normF l) i) : Nat) : Int) > 64)) = false) ∧ (okArgs [.agg (encTree (apTo v t (normF l) i))]) ∧ ((decide (((depth (apTo v t (normF l) i) : Nat) : Int) > 64)) = false) ∧ True ∧ ((decide (((depth (apTo v t (normF l) i) : Nat) : Int) > 64)) = false) ∧ True))) ∧ ((!(fewT (apTo v t (normF l) i))) = true) ∧ (tr 3 True) ∧ True) (lv := .ret) (T' := [(8, .ptr 1002 0), (9, vi 4)]) (B' := [(1002, .var [vi 0, vb false, vb false, nilv, vi 0, vs (ba []), nilv, nilv])]) mix hI hs ?_ ?_ ?_ ?_
         ·exact ⟨⟨⟨ent78, con78 _ (by omega)⟩, ⟨ent79, con79 _ (by omega)⟩, ⟨ent80, con80 _ (by omega)⟩, ⟨ent81, conFew_mask _ (by omega)⟩, trivial⟩, trivial⟩
         ·kernel_rfl
         ·exact ⟨⟨trivial, rfl, tr_mk (⟨b6, trivial, b6, rfl, b6, trivial, b6, trivial, b7, trivial, b7, rfl, b7, trivial, b7, trivial, b8, trivial, b8, rfl, b8, trivial, b8, trivial⟩) 3⟩, (by rw [b9]; rfl), tr_mk trivial 3, trivial⟩
         intro a w hs
         exact FnQ_cast (out := .val (.tup [.agg [vi 0, vb false, vb false, .row (.int .u32) ([]), vi 0, vs (ba []), .row .str ([]), .row .tree ([])], vi 4])) (by have hia : i = (normF l).length := (by omega); subst hia; simp only [apTo_all] at *; rw [applyF, if_neg (by rintro (h | h | h) <;> simp_all), if_pos (by first | exact .inl (by omega) | exact .inr (.inl (by omega)) | exact .inr (.inr (.inl (by omega))) | exact .inr (.inr (.inr b9)))]; rfl) (ret_ok [] hs ⟨by kernel_rfl, rfl⟩)
   ·skip
    refine way_L (tt := tt) (rs := [(1, ⟨[(1, ciA 57 [.agg (encTree t)] [] [] (.val (vb (validT t)))), (5, ciA 57 [.agg (encTree v)] [] [] (.val (vb (validT v)))), (10, ciA 39 [.row .strs l] [] [] (.val (vb (checkF l))))], [(4, true), (5, true), (6, true), (1007, false), (9, true), (10, true), (11, true), (1012, false)], []⟩)]) (bs := [true]) (tk := [8, 9]) (bk := [1002]) (C := (True ∧ (okArgs [.agg (encTree t)]) ∧ True ∧ True ∧ ((!(validT t)) = false) ∧ True ∧ ((!(validT t)) = false) ∧ (okArgs [.agg (encTree v)]) ∧ ((!(validT t)) = false) ∧ True ∧ ((!(validT t)) = false) ∧ True ∧ ((!(validT v)) = false) ∧ True ∧ ((!(validT v)) = false) ∧ (okArgs [.row .strs l]) ∧ ((!(validT v)) = false) ∧ True ∧ ((!(validT v)) = false) ∧ True) ∧ ((!(checkF l)) = true) ∧ (tr 3 True) ∧ True) (lv := .ret) (T' := [(8, .ptr 1002 0), (9, vi 1)]) (B' := [(1002, .var [vi 0, vb false, vb false, nilv, vi 0, vs (ba []), nilv, nilv])]) mix hI hs ?_ ?_ ?_ ?_
    ·exact ⟨⟨⟨ent57, con57 _ (by assumption)⟩, ⟨ent57, con57 _ (by assumption)⟩, ⟨ent39, con39 _ hsm (by omega)⟩, trivial⟩, trivial⟩
    ·kernel_rfl
    ·exact ⟨⟨trivial, rfl, trivial, trivial, (by rw [b1]; rfl), trivial, (by rw [b1]; rfl), rfl, (by rw [b1]; rfl), trivial, (by rw [b1]; rfl), trivial, (by rw [b2]; rfl), trivial, (by rw [b2]; rfl), rfl, (by rw [b2]; rfl), trivial, (by rw [b2]; rfl), trivial⟩, (by rw [b3]; rfl), tr_mk trivial 3, trivial⟩
    intro a w hs
    refine then_ret ?_
    exact FnQ_cast (out := .val (.tup [.agg [vi 0, vb false, vb false, .row (.int .u32) ([]), vi 0, vs (ba []), .row .str ([]), .row .tree ([])], vi 1])) (by rw [applyF, if_pos (by first | exact .inl b3 | exact .inr (.inl b3) | exact .inr (.inr b3))]; rfl) (ret_ok [] hs ⟨by kernel_rfl, rfl⟩)
  ·skip
   refine way_L (tt := tt) (rs := [(1, ⟨[(1, ciA 57 [.agg (encTree t)] [] [] (.val (vb (validT t)))), (5, ciA 57 [.agg (encTree v)] [] [] (.val (vb (validT v))))], [(4, true), (5, true), (6, true), (1007, false), (9, false), (10, false), (11, false), (1012, true)], []⟩)]) (bs := [true]) (tk := [8, 9]) (bk := [1002]) (C := (True ∧ (okArgs [.agg (encTree t)]) ∧ True ∧ True ∧ ((!(validT t)) = false) ∧ True ∧ ((!(validT t)) = false) ∧ (okArgs [.agg (encTree v)]) ∧ ((!(validT t)) = false) ∧ True ∧ ((!(validT t)) = false) ∧ True ∧ ((!(validT v)) = true) ∧ ((!(validT v)) = true) ∧ ((!(validT v)) = true) ∧ ((!(validT v)) = true) ∧ True) ∧ (true = true) ∧ (tr 3 True) ∧ True) (lv := .ret) (T' := [(8, .ptr 1002 0), (9, vi 1)]) (B' := [(1002, .var [vi 0, vb false, vb false, nilv, vi 0, vs (ba []), nilv, nilv])]) mix hI hs ?_ ?_ ?_ ?_
   ·exact ⟨⟨⟨ent57, con57 _ (by assumption)⟩, ⟨ent57, con57 _ (by assumption)⟩, trivial⟩, trivial⟩
   ·kernel_rfl
   ·exact ⟨⟨trivial, rfl, trivial, trivial, (by rw [b1]; rfl), trivial, (by rw [b1]; rfl), rfl, (by rw [b1]; rfl), trivial, (by rw [b1]; rfl), trivial, (by rw [b2]; rfl), (by rw [b2]; rfl), (by rw [b2]; rfl), (by rw [b2]; rfl), trivial⟩, rfl, tr_mk trivial 3, trivial⟩
   intro a w hs
   refine then_ret ?_
   exact FnQ_cast (out := .val (.tup [.agg [vi 0, vb false, vb false, .row (.int .u32) ([]), vi 0, vs (ba []), .row .str ([]), .row .tree ([])], vi 1])) (by rw [applyF, if_pos (by first | exact .inl b2 | exact .inr (.inl b2) | exact .inr (.inr b2))]; rfl) (ret_ok [] hs ⟨by kernel_rfl, rfl⟩)
 ·skip
  refine way_L (tt := tt) (rs := [(1, ⟨[(1, ciA 57 [.agg (encTree t)] [] [] (.val (vb (validT t))))], [(4, false), (5, false), (6, false), (1007, true), (9, false), (10, false), (11, false), (1012, true)], []⟩)]) (bs := [true]) (tk := [8, 9]) (bk := [1002]) (C := (True ∧ (okArgs [.agg (encTree t)]) ∧ True ∧ True ∧ ((!(validT t)) = true) ∧ ((!(validT t)) = true) ∧ ((!(validT t)) = true) ∧ ((!(validT t)) = true) ∧ True ∧ (true = true) ∧ (true = true) ∧ (true = true) ∧ (true = true) ∧ True) ∧ (true = true) ∧ (tr 3 True) ∧ True) (lv := .ret) (T' := [(8, .ptr 1002 0), (9, vi 1)]) (B' := [(1002, .var [vi 0, vb false, vb false, nilv, vi 0, vs (ba []), nilv, nilv])]) mix hI hs ?_ ?_ ?_ ?_
  ·exact ⟨⟨⟨ent57, con57 _ (by assumption)⟩, trivial⟩, trivial⟩
  ·kernel_rfl
  ·exact ⟨⟨trivial, rfl, trivial, trivial, (by rw [b1]; rfl), (by rw [b1]; rfl), (by rw [b1]; rfl), (by rw [b1]; rfl), trivial, rfl, rfl, rfl, rfl, trivial⟩, rfl, tr_mk trivial 3, trivial⟩
  intro a w hs
  refine then_ret ?_
  exact FnQ_cast (out := .val (.tup [.agg [vi 0, vb false, vb false, .row (.int .u32) ([]), vi 0, vs (ba []), .row .str ([]), .row .tree ([])], vi 1])) (by rw [applyF, if_pos (by first | exact .inl b1 | exact .inr (.inl b1) | exact .inr (.inr b1))]; rfl) (ret_ok [] hs ⟨by kernel_rfl, rfl⟩)
end Go.Proofs.YtondpnipoogoiaaGreatDoor.F
