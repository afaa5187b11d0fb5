import Derived.Test.YtondpnipoogoiaaGreatDoorA6
import Derived.Test.YtondpnipoogoiaaGreatDoorA5
set_option maxRecDepth 100000
set_option linter.unusedVariables false
set_option linter.unusedSimpArgs false
namespace Go.Proofs.YtondpnipoogoiaaGreatDoor.F
open Go Go.RowKit Go.Proofs.Tryz
def validT (t : Tree) : Bool := (chk t 1 2000).1
mutual
def fewT : Tree → Bool
 | .mk _ _ _ _ _ v => decide ((v.length : Int) ≤ 300) && fewL v
def fewL : List Tree → Bool
 | [] => true
 | t :: l => fewT t && fewL l
end
theorem fewT_eq (t : Tree) : fewT t = (decide ((t.v.length : Int) ≤ 300) && fewL t.v) := by cases t; rfl
theorem fewL_any : ∀ l : List Tree, fewL l = !(l.any fun t => !fewT t)
 | [] => rfl
 | t :: l => by simp only [fewL, List.any_cons, fewL_any l]; cases fewT t <;> simp
theorem con57 (t : Tree) (hft : fineT t) : Con Tryz.prog I0 57 [.agg (encTree t)] (.val (vb (validT t))) := by
 refine con_of Tryz.func57 rfl (Nat.le_of_ble_eq_true rfl) stab (fun w0 fz a hI hs => ?_)
 refine wL hs hI [(2, ⟨[(1, ciB 117 [.agg (encTree t), vi 1, .ptr 0 0] [] (.val (vb (validT t))) [(0, .var [vi 2000])] [(0, .var [vi ((chk t 1 2000).2)])] [(0, 2000)])], [], []⟩)] [] [2] [] ((True ∧ True ∧ True) ∧ ((True ∧ True ∧ True) ∧ (True ∧ (okArgs [.agg (encTree t), vi 1, .ptr 2000 0] ∧ okBxs [some (.var [vi 2000])]) ∧ True ∧ True) ∧ True)) .ret [(2, vb (validT t))] [] ⟨⟨⟨ent117, con117_ (nodes t + 1) t 1 2000 (Nat.lt_succ_self _) hft (by decide) (by decide) (by decide) (by decide)⟩, tv⟩, tv⟩ (by kernel_rfl) ⟨⟨tv, tv, tv⟩, ⟨tv, tv, tv⟩, ⟨tv, ⟨rfl, rfl⟩, tv, tv⟩, tv⟩ (fun a w hs => ?_)
 exact FnQ_cast (out := .val (vb (validT t))) (rfl) (ret_ok [] hs ⟨by kernel_rfl, rfl⟩)
theorem conIx_mask (xs : List Tree) (q : Tree → Bool) (H : ∀ t ∈ xs, Con Tryz.prog I0 138 [.agg (encTree t)] (.val (vb (q t)))) (hlen : xs.length < 4611686018427387904) : Con Tryz.prog I0 193 [.row .tree xs, .lit (.func (.func 138) #[] #[])] (.val (vi (idxF q xs))) := by
 refine con_of Tryz.func193 rfl (Nat.le_of_ble_eq_true rfl) stab (fun w0 fz a hI hs => ?_)
 refine wp_seq ?_
 refine wN hs hI [] [0, 1] [] (True ∧ True) .norm [(0, .row .tree xs), (1, .lit (.func (.func 138) #[] #[]))] [] (by kernel_rfl) ⟨tv, tv⟩ (fun a w hs => ?_)
 refine then_norm ?_
 refine wp_seq ?_
 refine wp_seq ?_
 refine wN hs hI [] [0, 1, 7, 8] [] (tr 3 True) .norm [(0, .row .tree xs), (1, .lit (.func (.func 138) #[] #[])), (7, vi (xs.length : Int)), (8, vi 0)] [] (by kernel_rfl) (tr_mk tv 3) (fun a w hs => ?_)
 refine then_norm ?_
 refine wp_block ?_
 refine loop_L (N := Tryz.f193.ntmps) (w0 := w0) (ow := noO fz) (α := Nat) (fun p => [(0, .row .tree xs), (1, .lit (.func (.func 138) #[] #[])), (7, vi (xs.length : Int)), (8, vi (p : Int))]) (fun p => []) (fun p => p ≤ xs.length ∧ ∀ j, j < p → ∀ d, q (xs.getD j d) = false) (fun p => xs.length - p) 0 ?_ ?_ ?_
 ·exact ⟨Nat.zero_le _, fun j hj => absurd hj (Nat.not_lt_zero _)⟩
 ·(have e0_ : (0) = (((0 : Nat) : Int)) := (by first | rfl | (rfl)); exact (hs.cst [(0, .row .tree xs), (1, .lit (.func (.func 138) #[] #[])), (7, vi (xs.length : Int)), (8, vi ((0 : Nat) : Int))] [] (by first | rfl | (rw [e0_]; done) | (simp only [e0_]; done) | (simp only [e0_]; rfl))).rm [] (by kernel_rfl))
 rintro i hJ a w hs
 obtain ⟨hi, hall⟩ := hJ
 rcases bt (decide ((i : Int) < (xs.length : Int))) with b1 | b1
 ·skip
  have n1 := of_decide_eq_true b1
  rcases bt (q (xs.getD i (dflt .tree))) with b2 | b2
  ·skip
   refine wL hs hI [(4, ⟨[(5, ciA 138 [.agg (encTree (xs.getD i (dflt .tree)))] [] [] (.val (vb (q (xs.getD i (dflt .tree))))))], [], []⟩)] [true, true] [4] [] ((True ∧ True) ∧ (((ty b1) ∧ True) ∧ (True ∧ True ∧ True) ∧ (tr 3 ((0 ≤ (i : Int) ∧ (i : Int) < xs.length) ∧ True ∧ (okArgs [.agg (encTree (xs.getD i (dflt .tree)))]) ∧ True)) ∧ (ty b2) ∧ (True ∧ True ∧ True) ∧ True)) .ret [(4, vi (i : Int))] [] ⟨⟨⟨ent138, H _ (getD_mem (by omega) _)⟩, tv⟩, tv⟩ (by kernel_rfl) ⟨⟨tv, tv⟩, ⟨b1, tv⟩, ⟨tv, tv, tv⟩, tr_mk (⟨(by omega), tv, rfl, tv⟩) 3, b2, ⟨tv, tv, tv⟩, tv⟩ (fun a w hs => ?_)
   refine then_ret ?_
   refine inb_ret ?_
   refine then_ret ?_
   exact FnQ_cast (out := .val (vi (i : Int))) (by rw [idxF_at (q := q) (i := i) (dflt .tree) (by omega) b2 (fun j hj d => hall j hj d)]) (ret_ok [] hs ⟨by kernel_rfl, rfl⟩)
  ·skip
   refine wL hs hI [(4, ⟨[(5, ciA 138 [.agg (encTree (xs.getD i (dflt .tree)))] [] [] (.val (vb (q (xs.getD i (dflt .tree))))))], [], []⟩)] [true, false] [0, 1, 7, 8] [] ((True ∧ True) ∧ (((ty b1) ∧ True) ∧ ((True ∧ True ∧ True) ∧ (tr 3 ((0 ≤ (i : Int) ∧ (i : Int) < xs.length) ∧ True ∧ (okArgs [.agg (encTree (xs.getD i (dflt .tree)))]) ∧ True)) ∧ (ty b2) ∧ True) ∧ (InR .i64 ((i : Int) + 1)) ∧ True ∧ True)) .norm [(0, .row .tree xs), (1, .lit (.func (.func 138) #[] #[])), (7, vi (xs.length : Int)), (8, vi ((i : Int) + 1))] [] ⟨⟨⟨ent138, H _ (getD_mem (by omega) _)⟩, tv⟩, tv⟩ (by kernel_rfl) ⟨⟨tv, tv⟩, ⟨b1, tv⟩, ⟨⟨tv, tv, tv⟩, tr_mk (⟨(by omega), tv, rfl, tv⟩) 3, b2, tv⟩, (inR64 (by omega) (by omega)), tv, tv⟩ (fun a w hs => ?_)
   refine then_norm ⟨i + 1, ⟨by omega, fun j hj d => by rcases Nat.lt_succ_iff_lt_or_eq.1 hj with h | h; exact hall j h d; subst h; rw [getD_any (by omega) d (dflt .tree)]; exact b2⟩, by omega, ?_⟩
   (have e0_ : ((i : Int) + 1) = ((((i + 1) : Nat) : Int)) := (by first | rfl | (omega)); exact (hs.cst [(0, .row .tree xs), (1, .lit (.func (.func 138) #[] #[])), (7, vi (xs.length : Int)), (8, vi (((i + 1) : Nat) : Int))] [] (by first | rfl | (rw [e0_]; done) | (simp only [e0_]; done) | (simp only [e0_]; rfl))).rm [] (by kernel_rfl))
 ·skip
  have n1 := of_decide_eq_false b1
  refine wN hs hI [false] [] [] ((True ∧ True) ∧ ((ty b1) ∧ True)) (.exit 0) [] [] (by kernel_rfl) ⟨⟨tv, tv⟩, b1, tv⟩ (fun a w hs => ?_)
  refine then_exit ?_
  refine inb_hit ?_
  refine then_norm ?_
  refine wN hs hI [] [4] [] ((True ∧ True) ∧ True) .ret [(4, vi (-1))] [] (by kernel_rfl) ⟨⟨tv, tv⟩, tv⟩ (fun a w hs => ?_)
  exact FnQ_cast (out := .val (vi (-1))) (by rw [idxF_no (q := q) (fun j hj d => hall j (by omega) d)]) (ret_ok [] hs ⟨by kernel_rfl, rfl⟩)
theorem conCf_mask (xs : List Tree) (q : Tree → Bool) (H : ∀ t ∈ xs, Con Tryz.prog I0 138 [.agg (encTree t)] (.val (vb (q t)))) (hlen : xs.length < 4611686018427387904) : Con Tryz.prog I0 137 [.row .tree xs, .lit (.func (.func 138) #[] #[])] (.val (vb (xs.any q))) := by
 refine con_of Tryz.func137 rfl (Nat.le_of_ble_eq_true rfl) stab (fun w0 fz a hI hs => ?_)
 refine wL hs hI [(1, ⟨[(2, ciA 193 [.row .tree xs, .lit (.func (.func 138) #[] #[])] [] [] (.val (vi (idxF q xs))))], [], []⟩)] [] [4] [] ((True ∧ True) ∧ ((True ∧ True ∧ (okArgs [.row .tree xs, .lit (.func (.func 138) #[] #[])]) ∧ True ∧ True ∧ True) ∧ True)) .ret [(4, vb (decide ((idxF q xs) ≥ 0)))] [] ⟨⟨⟨ent193, conIx_mask _ _ H hlen⟩, tv⟩, tv⟩ (by kernel_rfl) ⟨⟨tv, tv⟩, ⟨tv, tv, rfl, tv, tv, tv⟩, tv⟩ (fun a w hs => ?_)
 exact FnQ_cast (out := .val (vb (decide ((idxF q xs) ≥ 0)))) (by rw [← idxF_any]) (ret_ok [] hs ⟨by kernel_rfl, rfl⟩)
theorem conF1_mask (t : Tree) (h : Con Tryz.prog I0 81 [.agg (encTree t)] (.val (vb (fewT t)))) : Con Tryz.prog I0 138 [.agg (encTree t)] (.val (vb (!fewT t))) := by
 refine con_of Tryz.func138 rfl (Nat.le_of_ble_eq_true rfl) stab (fun w0 fz a hI hs => ?_)
 refine wL hs hI [(1, ⟨[(1, ciA 81 [.agg (encTree t)] [] [] (.val (vb (fewT t))))], [], []⟩)] [] [2] [] ((True ∧ True ∧ True) ∧ ((True ∧ (okArgs [.agg (encTree t)]) ∧ True ∧ True ∧ True) ∧ True)) .ret [(2, vb (!(fewT t)))] [] ⟨⟨⟨ent81, h⟩, tv⟩, tv⟩ (by kernel_rfl) ⟨⟨tv, tv, tv⟩, ⟨tv, rfl, tv, tv, tv⟩, tv⟩ (fun a w hs => ?_)
 exact FnQ_cast (out := .val (vb (!(fewT t)))) (rfl) (ret_ok [] hs ⟨by kernel_rfl, rfl⟩)
theorem conFew_mask_ : ∀ (n : Nat) (t : Tree), nodes t < n → nodes t < 4611686018427387904 → Con Tryz.prog I0 81 [.agg (encTree t)] (.val (vb (fewT t))) := by
 intro n
 induction n
 case zero => intro t hn; omega
 rename_i n ih
 intro t hn hw
 have hnl := nodesL_len t.v
 have hne := nodes_eq t
 refine con_of Tryz.func81 rfl (Nat.le_of_ble_eq_true rfl) stab (fun w0 fz a hI hs => ?_)
 rcases bt (decide ((t.v.length : Int) ≤ 300)) with b1 | b1
 ·skip
  have n1 := of_decide_eq_true b1
  refine wL hs hI [(1, ⟨[(7, ciA 137 [.row .tree t.v, .lit (.func (.func 138) #[] #[])] [] [] (.val (vb (t.v.any (fun t => !fewT t)))))], gg [5, 6, 7, 8, 1009] [], []⟩)] [] [2] [] ((True ∧ True ∧ True) ∧ ((tr 5 (rp 2 b1 ((ty b1) ∧ (okArgs [.row .tree t.v, .lit (.func (.func 138) #[] #[])]) ∧ (rp 2 b1 True)))) ∧ True)) .ret [(2, vb (!(t.v.any (fun t => !fewT t))))] [] ⟨⟨⟨ent137, conCf_mask _ (fun t => !fewT t) (fun x hx => conF1_mask x (ih x (by have h1 := nodes_eq t; have h2 := nodesL_mem hx; omega) (by have h1 := nodes_eq t; have h2 := nodesL_mem hx; omega))) (by omega)⟩, tv⟩, tv⟩ (by kernel_rfl) ⟨⟨tv, tv, tv⟩, tr_mk (rp_mk (⟨b1, rfl, rp_mk (tv) 2⟩) 2) 5, tv⟩ (fun a w hs => ?_)
  exact FnQ_cast (out := .val (vb (!(t.v.any (fun t => !fewT t))))) (by rw [fewT_eq, b1, fewL_any]; simp) (ret_ok [] hs ⟨by kernel_rfl, rfl⟩)
 ·skip
  have n1 := of_decide_eq_false b1
  refine wL hs hI [(1, ⟨[], gg [] [5, 6, 7, 8, 1009], []⟩)] [] [2] [] ((True ∧ True ∧ True) ∧ ((tr 5 ((ty b1) ∧ (ty b1) ∧ (ty b1) ∧ (ty b1) ∧ (ty b1) ∧ True ∧ True)) ∧ True)) .ret [(2, vb false)] [] ⟨tv, tv⟩ (by kernel_rfl) ⟨⟨tv, tv, tv⟩, tr_mk (⟨b1, b1, b1, b1, b1, tv, tv⟩) 5, tv⟩ (fun a w hs => ?_)
  exact FnQ_cast (out := .val (vb false)) (by rw [fewT_eq, b1, fewL_any]; simp) (ret_ok [] hs ⟨by kernel_rfl, rfl⟩)
theorem conFew_mask (t : Tree) (h : nodes t < 4611686018427387904) : Con Tryz.prog I0 81 [.agg (encTree t)] (.val (vb (fewT t))) := conFew_mask_ (nodes t + 1) t (Nat.lt_succ_self _) h
def normStep (out : List (List ByteArray)) (p : List ByteArray) : List (List ByteArray) :=
 if decide ((out.length : Int) > 0) = true then (if startsF (out.getD ((out.length : Int) - 1).toNat (dflt .strs)) p = true then out else out ++ [p]) else out ++ [p]
def normTo (s : List (List ByteArray)) (i : Nat) : List (List ByteArray) := (s.take i).foldl normStep []
def normF (l : List (List ByteArray)) : List (List ByteArray) := (sortP l).foldl normStep []
theorem normTo_succ {s : List (List ByteArray)} {i : Nat} (h : i < s.length) (d : List ByteArray) : normTo s (i + 1) = normStep (normTo s i) (s.getD i d) := by
 unfold normTo
 rw [List.take_succ_eq_append_getElem h, List.foldl_append, List.getD_eq_getElem?_getD, List.getElem?_eq_getElem h]; rfl
theorem normTo_len (s : List (List ByteArray)) : ∀ i, (normTo s i).length ≤ i
 | 0 => by simp [normTo]
 | i + 1 => by
  have ih := normTo_len s i
  rcases Nat.lt_or_ge i s.length with h | h
  ·rw [normTo_succ h []]
   unfold normStep
   split
   ·split
    ·omega
    ·rw [List.length_append]; simp; omega
   ·rw [List.length_append]; simp; omega
  ·unfold normTo at ih ⊢
   rw [List.take_of_length_le h] at ih
   rw [List.take_of_length_le (by omega)]; omega
theorem step_mem {out : List (List ByteArray)} {p q : List ByteArray} (h : q ∈ normStep out p) : q ∈ out ∨ q = p := by
 unfold normStep at h
 split at h
 ·split at h
  ·exact .inl h
  ·simpa using h
 ·simpa using h
theorem fold_mem : ∀ {s out : List (List ByteArray)} {q : List ByteArray}, q ∈ s.foldl normStep out → q ∈ out ∨ q ∈ s
 | [], out, q, h => .inl h
 | p :: s, out, q, h => by
  rcases fold_mem (s := s) h with h | h
  ·rcases step_mem h with h | rfl
   ·exact .inl h
   ·exact .inr (by simp)
  ·exact .inr (by simp [h])
theorem normTo_mem {s : List (List ByteArray)} {i : Nat} {q : List ByteArray} (h : q ∈ normTo s i) : q ∈ s := by
 rcases fold_mem h with h | h
 ·simp at h
 ·exact List.mem_of_mem_take h
theorem sortP_mem {l : List (List ByteArray)} {q : List ByteArray} : q ∈ sortP l ↔ q ∈ l := List.mem_mergeSort
theorem sortP_len (l : List (List ByteArray)) : (sortP l).length = l.length := List.length_mergeSort l
theorem normF_mem {l : List (List ByteArray)} {q : List ByteArray} (h : q ∈ normF l) : q ∈ l := by
 rcases fold_mem h with h | h
 ·simp at h
 ·exact sortP_mem.1 h
theorem normF_to (l : List (List ByteArray)) : normTo (sortP l) (sortP l).length = normF l := by unfold normTo normF; rw [List.take_length]
theorem normF_len (l : List (List ByteArray)) : (normF l).length ≤ l.length := by
 have h := normTo_len (sortP l) (sortP l).length
 rw [normF_to, sortP_len] at h; exact h
theorem con24 (l : List (List ByteArray)) (hl : l.length < 1000000) (hp : ∀ p ∈ l, p.length < 1000000) : Con Tryz.prog I0 24 [.row .strs l] (.own 26 .strs (normF l)) := by
 refine con_of Tryz.func24 rfl (Nat.le_of_ble_eq_true rfl) stab (fun w0 fz a hI hs => ?_)
 refine wp_seq ?_
 refine wN hs hI [] [0] [] (True ∧ True) .norm [(0, .row .strs l)] [] (by kernel_rfl) ⟨tv, tv⟩ (fun a w hs => ?_)
 refine then_norm ?_
 refine wp_scope_straight ?_
 refine wp_seq ?_
 refine wL hs hI [(1, ⟨[(1, ciA 70 [.row .strs l] [] [] (.own 26 .strs l))], [], []⟩)] [] [3] [2001] (True ∧ ((okArgs [.row .strs l]) ∧ True ∧ True)) .norm [(3, .own 2001)] [(2001, .sl 26 .strs l)] ⟨⟨⟨ent70, con70 _ (by omega)⟩, tv⟩, tv⟩ (by kernel_rfl) ⟨tv, rfl, tv, tv⟩ (fun a w hs => ?_)
 refine then_norm ?_
 refine wp_seq ?_
 refine wL hs hI [(2, ⟨[(1, ciB 71 [.own 0, .lit (.func (.func 72) #[] #[])] [] (.val (.tup [])) [(0, .sl 26 .strs l)] [(0, .sl 26 .strs (sortP l))] [(0, 2001)])], [], []⟩)] [] [3] [2001] (True ∧ ((okArgs [.own 2001, .lit (.func (.func 72) #[] #[])] ∧ okBxs [some (.sl 26 .strs l)]) ∧ True)) .norm [(3, .own 2001)] [(2001, .sl 26 .strs (sortP l))] ⟨⟨⟨ent71, conSort _ (by omega) hp⟩, tv⟩, tv⟩ (by kernel_rfl) ⟨tv, ⟨rfl, rfl⟩, tv⟩ (fun a w hs => ?_)
 refine then_norm ?_
 refine wp_seq ?_
 refine wN hs hI [] [3, 4] [2001] (True ∧ True) .norm [(3, .own 2001), (4, nilv)] [(2001, .sl 26 .strs (sortP l))] (by kernel_rfl) ⟨tv, tv⟩ (fun a w hs => ?_)
 refine then_norm ?_
 refine wp_seq ?_
 refine wN hs hI [] [3, 4] [2001] True .norm [(3, .own 2001), (4, nilv)] [(2001, .sl 26 .strs (sortP l))] (by kernel_rfl) tv (fun a w hs => ?_)
 refine then_norm ?_
 refine wp_seq ?_
 refine wp_seq ?_
 refine wN hs hI [] [4, 11, 12, 13] [2001] (tr 3 True) .norm [(4, nilv), (11, .own 2001), (12, vi ((sortP l).length : Int)), (13, vi 0)] [(2001, .sl 26 .strs (sortP l))] (by kernel_rfl) (tr_mk tv 3) (fun a w hs => ?_)
 refine then_norm ?_
 refine wp_block ?_
 refine loop_L (N := Tryz.f24.ntmps) (w0 := w0) (ow := noO fz) (α := Nat) (fun p => [(4, .own 90000001), (11, .own 2001), (12, vi ((sortP l).length : Int)), (13, vi (p : Int))]) (fun p => [(2001, .sl 26 .strs (sortP l)), (90000001, .sl 26 .strs (normTo (sortP l) p))]) (fun p => p ≤ (sortP l).length) (fun p => (sortP l).length - p) 0 ?_ ?_ ?_
 ·exact Nat.zero_le _
 ·(have hs := (hs.nil 10000006 4 26 .strs (by kernel_rfl) (by decide) (by kernel_rfl) (by kernel_rfl)).rmT [(4, .own 10000006), (11, .own 2001), (12, vi ((sortP l).length : Int)), (13, vi 0)] [(2001, .sl 26 .strs (sortP l)), (10000006, .sl 26 .strs ([]))] [(2001, 2001), (10000006, 10000006)] (by kernel_rfl); exact (hs.cst [(4, .own 10000006), (11, .own 2001), (12, vi ((sortP l).length : Int)), (13, vi ((0 : Nat) : Int))] [(2001, .sl 26 .strs (sortP l)), (10000006, .sl 26 .strs (normTo (sortP l) 0))] rfl).rm [(2001, 2001), (90000001, 10000006)] (by kernel_rfl))
 rintro i hJ a w hs
 have hnl := normTo_len (sortP l) i
 have hsl := sortP_len l
 rcases bt (decide ((i : Int) < ((sortP l).length : Int))) with b1 | b1
 ·skip
  have n1 := of_decide_eq_true b1
  rcases bt (decide (((normTo (sortP l) i).length : Int) > 0)) with b2 | b2
  ·skip
   have n2 := of_decide_eq_true b2
   rcases bt (startsF ((normTo (sortP l) i).getD ((((normTo (sortP l) i).length : Int) - 1).toNat) (dflt .strs)) ((sortP l).getD i (dflt .strs))) with b3 | b3
   ·skip
    refine wL hs hI [(7, ⟨[(11, ciA 73 [.row .str ((normTo (sortP l) i).getD ((((normTo (sortP l) i).length : Int) - 1).toNat) (dflt .strs)), .row .str ((sortP l).getD i (dflt .strs))] [] [] (.val (vb (startsF ((normTo (sortP l) i).getD ((((normTo (sortP l) i).length : Int) - 1).toNat) (dflt .strs)) ((sortP l).getD i (dflt .strs))))))], gg [4, 5, 6, 7, 8, 9, 10, 11, 1012] [], []⟩)] [true, true] [4, 11, 12, 13] [2001, 90000001] ((True ∧ True) ∧ (((ty b1) ∧ True) ∧ (((0 ≤ (i : Int) ∧ (i : Int) < (sortP l).length) ∧ (i < (sortP l).length) ∧ True ∧ True) ∧ (tr 4 (rp 3 b2 ((ty b2) ∧ (InR .i64 (((normTo (sortP l) i).length : Int) - 1)) ∧ (ty b2) ∧ (0 ≤ (((normTo (sortP l) i).length : Int) - 1) ∧ (((normTo (sortP l) i).length : Int) - 1) < (normTo (sortP l) i).length) ∧ (ty b2) ∧ ((((normTo (sortP l) i).length : Int) - 1).toNat < (normTo (sortP l) i).length) ∧ (ty b2) ∧ True ∧ (ty b2) ∧ (okArgs [.row .str ((normTo (sortP l) i).getD ((((normTo (sortP l) i).length : Int) - 1).toNat) (dflt .strs)), .row .str ((sortP l).getD i (dflt .strs))]) ∧ (ty b2) ∧ True))) ∧ (ty b3) ∧ True) ∧ (InR .i64 ((i : Int) + 1)) ∧ True ∧ True)) .norm [(4, .own 90000001), (11, .own 2001), (12, vi ((sortP l).length : Int)), (13, vi ((i : Int) + 1))] [(2001, .sl 26 .strs (sortP l)), (90000001, .sl 26 .strs (normTo (sortP l) i))] ⟨⟨⟨ent73, con73 _ _ (by have := hp _ (sortP_mem.1 (normTo_mem (getD_mem (l := normTo (sortP l) i) (i := ((((normTo (sortP l) i).length : Int) - 1)).toNat) (by omega) (dflt .strs)))); omega) (by have := hp _ (sortP_mem.1 (getD_mem (l := sortP l) (i := i) (by omega) (dflt .strs))); omega)⟩, tv⟩, tv⟩ (by kernel_rfl) ⟨⟨tv, tv⟩, ⟨b1, tv⟩, ⟨⟨(by omega), (by omega), tv, tv⟩, tr_mk (rp_mk (⟨b2, (inR64 (by omega) (by omega)), b2, (by omega), b2, (by omega), b2, tv, b2, rfl, b2, tv⟩) 3) 4, b3, tv⟩, (inR64 (by omega) (by omega)), tv, tv⟩ (fun a w hs => ?_)
    refine then_norm ⟨i + 1, by omega, by omega, ?_⟩
    (have e0_ : ((i : Int) + 1) = ((((i + 1) : Nat) : Int)) := (by first | rfl | (omega)); have e1_ : (normTo (sortP l) i) = (normTo (sortP l) (i + 1)) := (by first | rfl | (rw [normTo_succ (i := i) (by omega) (dflt .strs)]; unfold normStep; simp only [b2, b3]; rfl)); exact (hs.cst [(4, .own 90000001), (11, .own 2001), (12, vi ((sortP l).length : Int)), (13, vi (((i + 1) : Nat) : Int))] [(2001, .sl 26 .strs (sortP l)), (90000001, .sl 26 .strs (normTo (sortP l) (i + 1)))] (by first | rfl | (rw [e0_, e1_]; done) | (simp only [e0_, e1_]; done) | (simp only [e0_, e1_]; rfl))).rm [(2001, 2001), (90000001, 90000001)] (by kernel_rfl))
   ·skip
    refine wL hs hI [(7, ⟨[(11, ciA 73 [.row .str ((normTo (sortP l) i).getD ((((normTo (sortP l) i).length : Int) - 1).toNat) (dflt .strs)), .row .str ((sortP l).getD i (dflt .strs))] [] [] (.val (vb (startsF ((normTo (sortP l) i).getD ((((normTo (sortP l) i).length : Int) - 1).toNat) (dflt .strs)) ((sortP l).getD i (dflt .strs))))))], gg [4, 5, 6, 7, 8, 9, 10, 11, 1012] [], []⟩), (8, ⟨[(2, ciA 74 [.row .str ((sortP l).getD i (dflt .strs))] [] [] (.own 9 .str ((sortP l).getD i (dflt .strs))))], [], []⟩)] [true, false] [4, 11, 12, 13] [2001, 9004] ((True ∧ True) ∧ (((ty b1) ∧ True) ∧ (((0 ≤ (i : Int) ∧ (i : Int) < (sortP l).length) ∧ (i < (sortP l).length) ∧ True ∧ True) ∧ ((tr 4 (rp 3 b2 ((ty b2) ∧ (InR .i64 (((normTo (sortP l) i).length : Int) - 1)) ∧ (ty b2) ∧ (0 ≤ (((normTo (sortP l) i).length : Int) - 1) ∧ (((normTo (sortP l) i).length : Int) - 1) < (normTo (sortP l) i).length) ∧ (ty b2) ∧ ((((normTo (sortP l) i).length : Int) - 1).toNat < (normTo (sortP l) i).length) ∧ (ty b2) ∧ True ∧ (ty b2) ∧ (okArgs [.row .str ((normTo (sortP l) i).getD ((((normTo (sortP l) i).length : Int) - 1).toNat) (dflt .strs)), .row .str ((sortP l).getD i (dflt .strs))]) ∧ (ty b2) ∧ True))) ∧ (ty b3) ∧ True) ∧ True ∧ True ∧ (okArgs [.row .str ((sortP l).getD i (dflt .strs))]) ∧ True ∧ ((((normTo (sortP l) i).length + 1) * 24 : Nat) ≤ 140737488355328 ∧ (normTo (sortP l) i).length + 1 ≤ 140737488355328) ∧ True ∧ True) ∧ (InR .i64 ((i : Int) + 1)) ∧ True ∧ True)) .norm [(4, .own 9004), (11, .own 2001), (12, vi ((sortP l).length : Int)), (13, vi ((i : Int) + 1))] [(2001, .sl 26 .strs (sortP l)), (9004, .sl 26 .strs ((normTo (sortP l) i) ++ ([((sortP l).getD i (dflt .strs))])))] ⟨⟨⟨ent73, con73 _ _ (by have := hp _ (sortP_mem.1 (normTo_mem (getD_mem (l := normTo (sortP l) i) (i := ((((normTo (sortP l) i).length : Int) - 1)).toNat) (by omega) (dflt .strs)))); omega) (by have := hp _ (sortP_mem.1 (getD_mem (l := sortP l) (i := i) (by omega) (dflt .strs))); omega)⟩, tv⟩, ⟨⟨⟨ent74, con74 _ (by have := hp _ (sortP_mem.1 (getD_mem (l := sortP l) (i := i) (by omega) (dflt .strs))); omega)⟩, tv⟩, tv⟩⟩ (by kernel_rfl) ⟨⟨tv, tv⟩, ⟨b1, tv⟩, ⟨⟨(by omega), (by omega), tv, tv⟩, ⟨tr_mk (rp_mk (⟨b2, (inR64 (by omega) (by omega)), b2, (by omega), b2, (by omega), b2, tv, b2, rfl, b2, tv⟩) 3) 4, b3, tv⟩, tv, tv, rfl, tv, (by omega), tv, tv⟩, (inR64 (by omega) (by omega)), tv, tv⟩ (fun a w hs => ?_)
    refine then_norm ⟨i + 1, by omega, by omega, ?_⟩
    (have e0_ : ((i : Int) + 1) = ((((i + 1) : Nat) : Int)) := (by first | rfl | (omega)); have e1_ : ((normTo (sortP l) i) ++ ([((sortP l).getD i (dflt .strs))])) = (normTo (sortP l) (i + 1)) := (by first | rfl | (rw [normTo_succ (i := i) (by omega) (dflt .strs)]; unfold normStep; simp only [b2, b3]; rfl)); exact (hs.cst [(4, .own 9004), (11, .own 2001), (12, vi ((sortP l).length : Int)), (13, vi (((i + 1) : Nat) : Int))] [(2001, .sl 26 .strs (sortP l)), (9004, .sl 26 .strs (normTo (sortP l) (i + 1)))] (by first | rfl | (rw [e0_, e1_]; done) | (simp only [e0_, e1_]; done) | (simp only [e0_, e1_]; rfl))).rm [(2001, 2001), (90000001, 9004)] (by kernel_rfl))
  ·skip
   have n2 := of_decide_eq_false b2
   refine wL hs hI [(7, ⟨[], gg [] [4, 5, 6, 7, 8, 9, 10, 11, 1012], []⟩), (8, ⟨[(2, ciA 74 [.row .str ((sortP l).getD i (dflt .strs))] [] [] (.own 9 .str ((sortP l).getD i (dflt .strs))))], [], []⟩)] [true, false] [4, 11, 12, 13] [2001, 9004] ((True ∧ True) ∧ (((ty b1) ∧ True) ∧ (((0 ≤ (i : Int) ∧ (i : Int) < (sortP l).length) ∧ (i < (sortP l).length) ∧ True ∧ True) ∧ ((tr 4 ((ty b2) ∧ (ty b2) ∧ (ty b2) ∧ (ty b2) ∧ (ty b2) ∧ (ty b2) ∧ (ty b2) ∧ (ty b2) ∧ (ty b2) ∧ True)) ∧ (false = false) ∧ True) ∧ True ∧ True ∧ (okArgs [.row .str ((sortP l).getD i (dflt .strs))]) ∧ True ∧ ((((normTo (sortP l) i).length + 1) * 24 : Nat) ≤ 140737488355328 ∧ (normTo (sortP l) i).length + 1 ≤ 140737488355328) ∧ True ∧ True) ∧ (InR .i64 ((i : Int) + 1)) ∧ True ∧ True)) .norm [(4, .own 9004), (11, .own 2001), (12, vi ((sortP l).length : Int)), (13, vi ((i : Int) + 1))] [(2001, .sl 26 .strs (sortP l)), (9004, .sl 26 .strs ((normTo (sortP l) i) ++ ([((sortP l).getD i (dflt .strs))])))] ⟨tv, ⟨⟨⟨ent74, con74 _ (by have := hp _ (sortP_mem.1 (getD_mem (l := sortP l) (i := i) (by omega) (dflt .strs))); omega)⟩, tv⟩, tv⟩⟩ (by kernel_rfl) ⟨⟨tv, tv⟩, ⟨b1, tv⟩, ⟨⟨(by omega), (by omega), tv, tv⟩, ⟨tr_mk (⟨b2, b2, b2, b2, b2, b2, b2, b2, b2, tv⟩) 4, rfl, tv⟩, tv, tv, rfl, tv, (by omega), tv, tv⟩, (inR64 (by omega) (by omega)), tv, tv⟩ (fun a w hs => ?_)
   refine then_norm ⟨i + 1, by omega, by omega, ?_⟩
   (have e0_ : ((i : Int) + 1) = ((((i + 1) : Nat) : Int)) := (by first | rfl | (omega)); have e1_ : ((normTo (sortP l) i) ++ ([((sortP l).getD i (dflt .strs))])) = (normTo (sortP l) (i + 1)) := (by first | rfl | (rw [normTo_succ (i := i) (by omega) (dflt .strs)]; unfold normStep; simp only [b2]; rfl)); exact (hs.cst [(4, .own 9004), (11, .own 2001), (12, vi ((sortP l).length : Int)), (13, vi (((i + 1) : Nat) : Int))] [(2001, .sl 26 .strs (sortP l)), (9004, .sl 26 .strs (normTo (sortP l) (i + 1)))] (by first | rfl | (rw [e0_, e1_]; done) | (simp only [e0_, e1_]; done) | (simp only [e0_, e1_]; rfl))).rm [(2001, 2001), (90000001, 9004)] (by kernel_rfl))
 ·skip
  have n1 := of_decide_eq_false b1
  refine wN hs hI [false] [4] [90000001] ((True ∧ True) ∧ ((ty b1) ∧ True)) (.exit 0) [(4, .own 90000001)] [(90000001, .sl 26 .strs (normTo (sortP l) i))] (by kernel_rfl) ⟨⟨tv, tv⟩, b1, tv⟩ (fun a w hs => ?_)
  refine then_exit ?_
  refine inb_hit ?_
  refine then_norm ?_
  refine wN hs hI [] [2] [90000001] ((True ∧ True ∧ True) ∧ True) .ret [(2, .own 90000001)] [(90000001, .sl 26 .strs (normTo (sortP l) i))] (by kernel_rfl) ⟨⟨tv, tv, tv⟩, tv⟩ (fun a w hs => ?_)
  refine ng_ret ?_
  exact FnQ_cast (out := .own 26 .strs (normTo (sortP l) i)) (by obtain rfl : i = (sortP l).length := (by omega); rw [normF_to]) (ret_ok [] hs (.inl ⟨90000001, by kernel_rfl, rfl⟩))
def sumL (f : Tree → Nat) : List Tree → Nat
 | [] => 0
 | t :: l => f t + sumL f l
def sumM (f : Tree → Nat) : Mem → Nat
 | [] => 0
 | (_, t) :: l => f t + sumM f l
theorem sumM_map (f : Tree → Nat) : ∀ l : Mem, sumM f l = sumL f (l.map (·.2))
 | [] => rfl
 | (_, t) :: l => by simp [sumM, sumL, sumM_map f l]
structure Meas (f : Tree → Nat) : Prop where
 obj : ∀ l, f (objM l) = 1 + sumM f l
 cut : ∀ t, 1 + sumM f (mems t) ≤ f t
 zero : f Tree.zero = 1
section
variable {f : Tree → Nat}
theorem sum_put (x : ByteArray) (v : Tree) : ∀ l : Mem, sumM f (putA x v l) = sumM f l + f v
 | [] => by simp [putA, sumM]
 | (y, u) :: l => by
  simp only [putA]
  split
  ·simp only [sumM]; omega
  ·simp only [sumM, sum_put x v l]; omega
theorem sum_rep (x : ByteArray) (v : Tree) : ∀ {l : Mem} {o : Tree}, lookA x l = some o → sumM f (repA x v l) + f o = sumM f l + f v
 | [], o, h => by simp [lookA] at h
 | (y, u) :: l, o, h => by
  simp only [lookA] at h
  simp only [repA]
  split at h
  ·rename_i e
   simp only [Option.some.injEq] at h
   subst h
   rw [if_pos e]; simp only [sumM]; omega
  ·rename_i e
   rw [if_neg e]; simp only [sumM]
   have := sum_rep x v (l := l) h; omega
theorem sum_del (x : ByteArray) : ∀ l : Mem, sumM f (delA x l) ≤ sumM f l
 | [] => Nat.le_refl _
 | (y, u) :: l => by
  simp only [delA]
  split
  ·simp only [sumM]; omega
  ·simp only [sumM]; have := sum_del x l; omega
theorem set_more (hf : Meas f) (t : Tree) (x : ByteArray) (v : Tree) : f (setT t x v) ≤ f t + f v := by
 have h1 := hf.cut t
 unfold setT insA
 rw [hf.obj]
 split
 ·rename_i h
  obtain ⟨o, ho⟩ := Option.isSome_iff_exists.1 h
  have := sum_rep (f := f) x v ho; omega
 ·rw [sum_put]; omega
theorem set_there (hf : Meas f) {t : Tree} {x : ByteArray} (h : memB t x = true) (v : Tree) : f (setT t x v) + f (memV t x) ≤ f t + f v := by
 have h1 := hf.cut t
 rw [memB_look] at h
 obtain ⟨o, ho⟩ := Option.isSome_iff_exists.1 h
 rw [memV_look, ho]
 unfold setT insA
 rw [if_pos h, hf.obj]
 have := sum_rep (f := f) x v ho
 simp only [Option.getD_some]; omega
theorem unset_less (hf : Meas f) (t : Tree) (x : ByteArray) : f (unsetT t x) ≤ f t := by
 have h1 := hf.cut t
 unfold unsetT
 split
 ·rw [hf.obj]
  have := sum_del (f := f) x (mems t); omega
 ·exact Nat.le_refl _
theorem memV_zero {t : Tree} {x : ByteArray} (h : memB t x = false) : memV t x = Tree.zero := (memV_neg (of_decide_eq_false h)).1
theorem setP_more (hf : Meas f) (v : Tree) : ∀ (p : List ByteArray) (t : Tree), f (setP p t v) ≤ f t + f v + p.length
 | [], t => by simp [setP]
 | n :: p, t => by
  have ih := setP_more hf v p (memV t n)
  simp only [setP, List.length_cons]
  cases h : memB t n with
  | true => have := set_there hf h (setP p (memV t n) v); omega
  | false =>
   have h1 := set_more hf t n (setP p (memV t n) v)
   rw [memV_zero h, hf.zero] at ih
   rw [memV_zero h] at h1 ⊢; omega
theorem unsetP_less (hf : Meas f) : ∀ (p : List ByteArray) (t : Tree), f (unsetP p t) ≤ f t
 | [], t => Nat.le_refl _
 | [n], t => unset_less hf t n
 | n :: m :: p, t => by
  simp only [unsetP]
  split
  ·rename_i h
   have ih := unsetP_less hf (m :: p) (memV t n)
   have := set_there hf h (unsetP (m :: p) (memV t n)); omega
  ·exact Nat.le_refl _
theorem look_sum {x : ByteArray} : ∀ {l : Mem} {o : Tree}, lookA x l = some o → f o ≤ sumM f l
 | [], o, h => by simp [lookA] at h
 | (y, u) :: l, o, h => by
  simp only [lookA] at h
  simp only [sumM]
  split at h
  ·simp only [Option.some.injEq] at h; subst h; omega
  ·have := look_sum h; omega
theorem mem_less (hf : Meas f) {t : Tree} {x : ByteArray} (h : memB t x = true) : f (memV t x) < f t := by
 have h1 := hf.cut t
 rw [memB_look] at h
 obtain ⟨o, ho⟩ := Option.isSome_iff_exists.1 h
 rw [memV_look, ho]
 have := look_sum (f := f) ho
 simp only [Option.getD_some]; omega
theorem get_less (hf : Meas f) : ∀ (p : List ByteArray) (t : Tree), (getF p t).2 = true → f (getF p t).1 ≤ f t
 | [], t, _ => Nat.le_refl _
 | n :: p, t, h => by
  simp only [getF] at h ⊢
  split at h
  ·rename_i hb
   rw [if_pos hb]
   have := get_less hf p (memV t n) h
   have := mem_less hf hb; omega
  ·cases h
end
theorem sumL_take (f : Tree → Nat) : ∀ (l : List Tree) (n : Nat), sumL f (l.take n) ≤ sumL f l
 | [], n => by simp [sumL]
 | t :: l, 0 => by simp [sumL]
 | t :: l, n + 1 => by simp only [List.take_succ_cons, sumL]; have := sumL_take f l n; omega
theorem nodesL_sum : ∀ l : List Tree, nodesL l = sumL nodes l
 | [] => rfl
 | t :: l => by simp [nodesL, sumL, nodesL_sum l]
theorem weightL_sum : ∀ l : List Tree, weightL l = sumL weight l
 | [] => rfl
 | t :: l => by simp [weightL, sumL, weightL_sum l]
theorem cut_sum (f : Tree → Nat) (t : Tree) : sumM f (mems t) ≤ sumL f t.v := by
 rw [sumM_map, mems_v]
 unfold cutV
 split
 ·exact sumL_take f t.v _
 ·simp [sumL]
theorem measNodes : Meas nodes := by
 refine ⟨fun l => ?_, fun t => ?_, by simp [Tree.zero, nodes, nodesL]⟩
 ·rw [nodes_eq, nodesL_sum, sumM_map]; rfl
 ·have h := cut_sum nodes t
  have h2 := nodes_eq t
  rw [nodesL_sum] at h2; omega
theorem measWeight : Meas weight := by
 refine ⟨fun l => ?_, fun t => ?_, by
  rw [weight_eq]
  have h : bulk Tree.zero = 1 := bulk_0 (t := Tree.zero) (show ¬ (0 : Int) = 3 by decide) (show ¬ (0 : Int) = 4 by decide) (show ¬ (0 : Int) = 5 by decide)
  rw [h]; rfl⟩
 ·rw [weight_eq, weightL_sum, sumM_map]
  have : bulk (objM l) = 1 := bulk_0 (by simp [objM, Tree.kind]) (by simp [objM, Tree.kind]) (by simp [objM, Tree.kind])
  rw [this]; rfl
 ·have h := cut_sum weight t
  have h2 := weight_eq t
  have h3 : 1 ≤ bulk t := by simp [bulk]
  rw [weightL_sum] at h2; omega
mutual
theorem chk_nodes : ∀ (t : Tree) (d l : Int), (chk t d l).1 = true → (chk t d l).2 = l - nodes t ∧ 0 ≤ (chk t d l).2 ∧ (0 ≤ d → d + depth t ≤ 65)
 | .mk k b n s ks v, d, l, h => by
  rw [chk_eq] at h ⊢
  split at h
  ·cases h
  ·rename_i hc
   rw [if_neg hc]
   have ih := chkL_nodes v (d + 1) (l - 1) (by omega) h
   have e1 : (chkL (Tree.mk k b n s ks v).v (d + 1) (l - 1)) = chkL v (d + 1) (l - 1) := rfl
   rw [e1]
   simp only [nodes, depth]
   exact ⟨by omega, ih.2.1, fun hd => by have := ih.2.2 (by omega); omega⟩
theorem chkL_nodes : ∀ (v : List Tree) (d l : Int), 0 ≤ l → (chkL v d l).1 = true → (chkL v d l).2 = l - nodesL v ∧ 0 ≤ (chkL v d l).2 ∧ (0 ≤ d → d ≤ 65 → d + depthL v ≤ 65)
 | [], d, l, hl, h => by simp only [chkL, nodesL, depthL]; exact ⟨by omega, hl, fun _ h => by omega⟩
 | x :: v, d, l, hl, h => by
  simp only [chkL] at h ⊢
  split at h
  ·rename_i hc
   rw [if_pos hc]
   have h1 := chk_nodes x d l hc
   have h2 := chkL_nodes v d (chk x d l).2 h1.2.1 h
   simp only [nodesL, depthL]
   exact ⟨by omega, h2.2.1, fun a b => by have := h1.2.2 a; have := h2.2.2 a b; omega⟩
  ·cases h
end
theorem valid_nodes {t : Tree} (h : validT t = true) : nodes t ≤ 2000 ∧ depth t ≤ 64 := by
 have := chk_nodes t 1 2000 h
 have := this.2.2 (by decide)
 omega
theorem own_bulk {t : Tree} (h : ownO t = true) : bulk t ≤ 2001 := by
 simp only [ownO, Bool.and_eq_true, decide_eq_true_eq] at h
 obtain ⟨_, _, hn, hs, _, _⟩ := h
 by_cases h3 : t.kind = 3
 ·rw [bulk_3 h3]
  simp only [numO, h3, if_true, checkN] at hn
  split at hn
  ·omega
  ·split at hn
   ·cases hn
   ·omega
 ·by_cases h4 : t.kind = 4
  ·rw [bulk_4 h4]
   simp only [textO, h4, if_true, textOk, Bool.and_eq_true, decide_eq_true_eq] at hs
   omega
  ·by_cases h5 : t.kind = 5
   ·rw [bulk_5 h5]
    simp only [textO, h4, h5, if_true, if_false, decide_eq_true_eq] at hs
    simp at hs; omega
   ·rw [bulk_0 h3 h4 h5]; omega
mutual
theorem chk_weight : ∀ (t : Tree) (d l : Int), (chk t d l).1 = true → weight t ≤ 2001 * nodes t
 | .mk k b n s ks v, d, l, h => by
  rw [chk_eq] at h
  split at h
  ·cases h
  ·rename_i hc
   have ih := chkL_weight v (d + 1) (l - 1) h
   have ho : ownO (.mk k b n s ks v) = true := by
    cases hq : ownO (.mk k b n s ks v) with
    | true => rfl
    | false => exact absurd (.inr (.inr hq)) hc
   have := own_bulk ho
   simp only [weight, nodes]; omega
theorem chkL_weight : ∀ (v : List Tree) (d l : Int), (chkL v d l).1 = true → weightL v ≤ 2001 * nodesL v
 | [], d, l, h => by simp [weightL]
 | x :: v, d, l, h => by
  simp only [chkL] at h
  split at h
  ·rename_i hc
   have h1 := chk_weight x d l hc
   have h2 := chkL_weight v d (chk x d l).2 h
   simp only [weightL, nodesL]; omega
  ·cases h
end
theorem valid_weight {t : Tree} (h : validT t = true) : weight t ≤ 4002000 := by
 have := chk_weight t 1 2000 h
 have := (valid_nodes h).1
 omega
def apStep (v t : Tree) (p : List ByteArray) : Tree := if (getF p v).2 = true then setP p t (getF p v).1 else unsetP p t
def apTo (v t : Tree) (s : List (List ByteArray)) (i : Nat) : Tree := (s.take i).foldl (apStep v) t
def apAll (t : Tree) (s : List (List ByteArray)) (v : Tree) : Tree := s.foldl (apStep v) t
theorem apTo_succ {v t : Tree} {s : List (List ByteArray)} {i : Nat} (h : i < s.length) (d : List ByteArray) : apTo v t s (i + 1) = apStep v (apTo v t s i) (s.getD i d) := by
 unfold apTo
 rw [List.take_succ_eq_append_getElem h, List.foldl_append, List.getD_eq_getElem?_getD, List.getElem?_eq_getElem h]; rfl
theorem apTo_yes {v t : Tree} {s : List (List ByteArray)} {i : Nat} (h : i < s.length) (hb : (getF (s.getD i (dflt .strs)) v).2 = true) : apTo v t s (i + 1) = setP (s.getD i (dflt .strs)) (apTo v t s i) (getF (s.getD i (dflt .strs)) v).1 := by
 rw [apTo_succ h (dflt .strs), apStep, if_pos hb]
theorem apTo_no {v t : Tree} {s : List (List ByteArray)} {i : Nat} (h : i < s.length) (hb : (getF (s.getD i (dflt .strs)) v).2 = false) : apTo v t s (i + 1) = unsetP (s.getD i (dflt .strs)) (apTo v t s i) := by
 rw [apTo_succ h (dflt .strs), apStep, if_neg (by rw [hb]; decide)]
theorem apTo_all (v t : Tree) (s : List (List ByteArray)) : apTo v t s s.length = apAll t s v := by unfold apTo apAll; rw [List.take_length]
theorem apStep_more {f : Tree → Nat} (hf : Meas f) (v t : Tree) (p : List ByteArray) : f (apStep v t p) ≤ f t + (f v + p.length) := by
 unfold apStep
 split
 ·rename_i h
  have := setP_more hf (getF p v).1 p t
  have := get_less hf p v h; omega
 ·have := unsetP_less hf p t; omega
theorem apTo_more {f : Tree → Nat} (hf : Meas f) (v t : Tree) (s : List (List ByteArray)) (hs : ∀ p ∈ s, p.length ≤ 63) : ∀ i, f (apTo v t s i) ≤ f t + i * (f v + 63)
 | 0 => by simp [apTo]
 | i + 1 => by
  have ih := apTo_more hf v t s hs i
  rw [Nat.succ_mul]
  rcases Nat.lt_or_ge i s.length with h | h
  ·rw [apTo_succ h []]
   have h1 := apStep_more hf v (apTo v t s i) (s.getD i [])
   have h2 := hs _ (getD_mem h []); omega
  ·unfold apTo at ih ⊢
   rw [List.take_of_length_le h] at ih
   rw [List.take_of_length_le (by omega)]; omega
theorem check_paths {l : List (List ByteArray)} (h : checkF l = true) : l.length ≤ 60 ∧ ∀ p ∈ l, 0 < p.length ∧ p.length ≤ 63 := by
 simp only [checkF, Bool.and_eq_true, decide_eq_true_eq, Bool.not_eq_true'] at h
 refine ⟨by omega, fun p hp => ?_⟩
 have := List.any_eq_false.1 h.2 p hp
 simp only [badPath, Bool.or_eq_true, not_or, decide_eq_true_eq, beq_iff_eq] at this
 omega
def applyF (t : Tree) (l : List (List ByteArray)) (s : List (List ByteArray)) (v : Tree) (w : Int) : Tree × Int :=
 if validT t = false ∨ validT v = false ∨ checkF l = false then (Tree.zero, 1)
 else if ((weight (apAll t s v) : Nat) : Int) > w ∨ nodes (apAll t s v) > 2000 ∨ depth (apAll t s v) > 64 ∨ fewT (apAll t s v) = false then (Tree.zero, 4)
 else (apAll t s v, 0)
theorem con26 (t v : Tree) (l : List (List ByteArray)) (wt : Int) (hft : fineT t) (hfv : fineT v) (hsm : ∀ x ∈ l, smalls x) (hl : l.length < 1000000) : Con Tryz.prog I0 26 [.agg (encTree t), .row .strs l, .agg (encTree v), vi wt] (.val (.tup [.agg (encTree ((applyF t l (normF l) v wt).1)), vi ((applyF t l (normF l) v wt).2)])) := by
 refine con_of Tryz.func26 rfl (Nat.le_of_ble_eq_true rfl) stab (fun w0 fz a hI hs => ?_)
 refine wp_seq ?_
 refine wN hs hI [] [1, 3, 4, 6, 8] [1000, 1001, 1002] (tr 4 True) .norm [(1, .row .strs l), (3, vi wt), (4, .ptr 1000 0), (6, .ptr 1001 0), (8, .ptr 1002 0)] [(1000, .var (encTree t)), (1001, .var (encTree v)), (1002, .var [vi 0, vb false, vb false, nilv, vi 0, vs (ba []), nilv, nilv])] (by kernel_rfl) (tr_mk tv 4) (fun a w hs => ?_)
 refine then_norm ?_
 refine wp_seq ?_
 rcases bt (validT t) with b1 | b1
 ·skip
  have ht1 : validT t = true := by assumption
  rcases bt (validT v) with b2 | b2
  ·skip
   have ht2 : validT v = true := by assumption
   rcases bt (checkF l) with b3 | b3
   ·skip
    have ht3 : checkF l = true := by assumption
    have hcp := check_paths ht3
    refine wL hs hI [(1, ⟨[(1, ciA 57 [.agg (encTree t)] [] [] (.val (vb (validT t)))), (5, ciA 57 [.agg (encTree v)] [] [] (.val (vb (validT v)))), (10, ciA 39 [.row .strs l] [] [] (.val (vb (checkF l))))], gg [4, 5, 6, 9, 10, 11] [1007, 1012], []⟩)] [false] [1, 3, 4, 6, 8] [1000, 1001, 1002] ((True ∧ (okArgs [.agg (encTree t)]) ∧ True ∧ True ∧ (ty (ng1 b1)) ∧ True ∧ (ty (ng1 b1)) ∧ (okArgs [.agg (encTree v)]) ∧ (rp 2 (ng1 b1) ((ty (ng1 b2)) ∧ True ∧ (ty (ng1 b2)) ∧ (okArgs [.row .strs l]) ∧ (ty (ng1 b2)) ∧ True ∧ (ty (ng1 b2)) ∧ True))) ∧ ((ty (ng1 b3)) ∧ True)) .norm [(1, .row .strs l), (3, vi wt), (4, .ptr 1000 0), (6, .ptr 1001 0), (8, .ptr 1002 0)] [(1000, .var (encTree t)), (1001, .var (encTree v)), (1002, .var [vi 0, vb false, vb false, nilv, vi 0, vs (ba []), nilv, nilv])] ⟨⟨⟨ent57, con57 _ (by assumption)⟩, ⟨⟨ent57, con57 _ (by assumption)⟩, ⟨⟨ent39, con39 _ hsm (by omega)⟩, tv⟩⟩⟩, tv⟩ (by kernel_rfl) ⟨⟨tv, rfl, tv, tv, (ng1 b1), tv, (ng1 b1), rfl, rp_mk (⟨(ng1 b2), tv, (ng1 b2), rfl, (ng1 b2), tv, (ng1 b2), tv⟩) 2⟩, (ng1 b3), tv⟩ (fun a w hs => ?_)
    refine then_norm ?_
    refine wp_seq ?_
    refine wp_seq ?_
    refine wL hs hI [(3, ⟨[(1, ciA 24 [.row .strs l] [] [] (.own 26 .strs (normF l)))], [], []⟩)] [] [3, 4, 6, 8, 29, 30, 31] [1000, 1001, 1002, 4001] (True ∧ ((okArgs [.row .strs l]) ∧ True ∧ True ∧ True)) .norm [(3, vi wt), (4, .ptr 1000 0), (6, .ptr 1001 0), (8, .ptr 1002 0), (29, .own 4001), (30, vi ((normF l).length : Int)), (31, vi 0)] [(1000, .var (encTree t)), (1001, .var (encTree v)), (1002, .var [vi 0, vb false, vb false, nilv, vi 0, vs (ba []), nilv, nilv]), (4001, .sl 26 .strs (normF l))] ⟨⟨⟨ent24, con24 _ (by omega) (fun p hp => by have := (hcp.2 p hp).2; omega)⟩, tv⟩, tv⟩ (by kernel_rfl) ⟨tv, rfl, tv, tv, tv⟩ (fun a w hs => ?_)
    refine then_norm ?_
    refine wp_block ?_
    have hvt := valid_nodes ht1
    have hvw := valid_weight ht1
    have hvv := valid_nodes ht2
    have hvx := valid_weight ht2
    have hnl := normF_len l
    have hcp := check_paths ht3
    refine loop_L (N := Tryz.f26.ntmps) (w0 := w0) (ow := noO fz) (α := Nat) (fun p => [(3, vi wt), (4, .ptr 90000001 0), (6, .ptr 1001 0), (8, .ptr 1002 0), (29, .own 90000002), (30, vi ((normF l).length : Int)), (31, vi (p : Int))]) (fun p => [(1001, .var (encTree v)), (1002, .var [vi 0, vb false, vb false, nilv, vi 0, vs (ba []), nilv, nilv]), (90000001, .var (encTree (apTo v t (normF l) p))), (90000002, .sl 26 .strs (normF l))]) (fun p => p ≤ (normF l).length) (fun p => (normF l).length - p) 0 ?_ ?_ ?_
    ·exact Nat.zero_le _
    ·exact (hs.cst [(3, vi wt), (4, .ptr 1000 0), (6, .ptr 1001 0), (8, .ptr 1002 0), (29, .own 4001), (30, vi ((normF l).length : Int)), (31, vi ((0 : Nat) : Int))] [(1000, .var (encTree (apTo v t (normF l) 0))), (1001, .var (encTree v)), (1002, .var [vi 0, vb false, vb false, nilv, vi 0, vs (ba []), nilv, nilv]), (4001, .sl 26 .strs (normF l))] rfl).rm [(1001, 1001), (1002, 1002), (90000001, 1000), (90000002, 4001)] (by kernel_rfl)
    rintro i hJ a w hs
    have hnn := apTo_more measNodes v t (normF l) (fun p hp => (hcp.2 p (normF_mem hp)).2) i
    have hww := apTo_more measWeight v t (normF l) (fun p hp => (hcp.2 p (normF_mem hp)).2) i
    have hpi : i < (normF l).length → 0 < ((normF l).getD i (dflt .strs)).length ∧ ((normF l).getD i (dflt .strs)).length ≤ 63 := fun h => hcp.2 _ (normF_mem (getD_mem h _))
    have hb1 : i * (nodes v + 63) ≤ 60 * (2000 + 63) := Nat.mul_le_mul (by omega) (by omega)
    have hb2 : i * (weight v + 63) ≤ 60 * (4002000 + 63) := Nat.mul_le_mul (by omega) (by omega)
    rcases bt (decide ((i : Int) < ((normF l).length : Int))) with b4 | b4
    ·skip
     have n4 := of_decide_eq_true b4
     rcases bt ((getF ((normF l).getD i (dflt .strs)) v).2) with b5 | b5
     ·skip
      refine wL hs hI [(6, ⟨[(2, ciA 75 [.agg (encTree v), .row .str ((normF l).getD i (dflt .strs))] [] [] (.val (.tup [.agg (encTree ((getF ((normF l).getD i (dflt .strs)) v).1)), vb ((getF ((normF l).getD i (dflt .strs)) v).2)])))], [], []⟩), (8, ⟨[(3, ciA 76 [.agg (encTree (apTo v t (normF l) i)), .row .str ((normF l).getD i (dflt .strs)), .agg (encTree ((getF ((normF l).getD i (dflt .strs)) v).1))] [] [] (.val (.agg (encTree (setP ((normF l).getD i (dflt .strs)) (apTo v t (normF l) i) ((getF ((normF l).getD i (dflt .strs)) v).1))))))], [], []⟩)] [true, true] [3, 4, 6, 8, 29, 30, 31] [1001, 1002, 90000001, 90000002] ((True ∧ True) ∧ (((ty b4) ∧ True) ∧ (((0 ≤ (i : Int) ∧ (i : Int) < (normF l).length) ∧ (i < (normF l).length) ∧ True ∧ True) ∧ (True ∧ True ∧ (okArgs [.agg (encTree v), .row .str ((normF l).getD i (dflt .strs))]) ∧ (tr 6 True)) ∧ (True ∧ True) ∧ (ty b5) ∧ (tr 3 ((okArgs [.agg (encTree (apTo v t (normF l) i)), .row .str ((normF l).getD i (dflt .strs)), .agg (encTree ((getF ((normF l).getD i (dflt .strs)) v).1))]) ∧ True ∧ True)) ∧ True) ∧ (InR .i64 ((i : Int) + 1)) ∧ True ∧ True)) .norm [(3, vi wt), (4, .ptr 90000001 0), (6, .ptr 1001 0), (8, .ptr 1002 0), (29, .own 90000002), (30, vi ((normF l).length : Int)), (31, vi ((i : Int) + 1))] [(1001, .var (encTree v)), (1002, .var [vi 0, vb false, vb false, nilv, vi 0, vs (ba []), nilv, nilv]), (90000001, .var (encTree (setP ((normF l).getD i (dflt .strs)) (apTo v t (normF l) i) ((getF ((normF l).getD i (dflt .strs)) v).1)))), (90000002, .sl 26 .strs (normF l))] ⟨⟨⟨ent75, con75 _ _ (by omega) (by omega)⟩, tv⟩, ⟨⟨⟨ent76, con76 _ _ _ (by omega) (by omega)⟩, tv⟩, tv⟩⟩ (by kernel_rfl) ⟨⟨tv, tv⟩, ⟨b4, tv⟩, ⟨⟨(by omega), (by omega), tv, tv⟩, ⟨tv, tv, rfl, tr_mk tv 6⟩, ⟨tv, tv⟩, b5, tr_mk (⟨rfl, tv, tv⟩) 3, tv⟩, (inR64 (by omega) (by omega)), tv, tv⟩ (fun a w hs => ?_)
      refine then_norm ⟨i + 1, by omega, by omega, ?_⟩
      (have e0_ : ((i : Int) + 1) = ((((i + 1) : Nat) : Int)) := (by first | rfl | (omega)); have e1_ : ((setP ((normF l).getD i (dflt .strs)) (apTo v t (normF l) i) ((getF ((normF l).getD i (dflt .strs)) v).1))) = ((apTo v t (normF l) (i + 1))) := (by first | rfl | (rw [apTo_yes (i := i) (by omega) b5])); exact (hs.cst [(3, vi wt), (4, .ptr 90000001 0), (6, .ptr 1001 0), (8, .ptr 1002 0), (29, .own 90000002), (30, vi ((normF l).length : Int)), (31, vi (((i + 1) : Nat) : Int))] [(1001, .var (encTree v)), (1002, .var [vi 0, vb false, vb false, nilv, vi 0, vs (ba []), nilv, nilv]), (90000001, .var (encTree (apTo v t (normF l) (i + 1)))), (90000002, .sl 26 .strs (normF l))] (by first | rfl | (rw [e0_, e1_]; done) | (simp only [e0_, e1_]; done) | (simp only [e0_, e1_]; rfl))).rm [(1001, 1001), (1002, 1002), (90000001, 90000001), (90000002, 90000002)] (by kernel_rfl))
     ·skip
      refine wL hs hI [(6, ⟨[(2, ciA 75 [.agg (encTree v), .row .str ((normF l).getD i (dflt .strs))] [] [] (.val (.tup [.agg (encTree ((getF ((normF l).getD i (dflt .strs)) v).1)), vb ((getF ((normF l).getD i (dflt .strs)) v).2)])))], [], []⟩), (9, ⟨[(2, ciA 77 [.agg (encTree (apTo v t (normF l) i)), .row .str ((normF l).getD i (dflt .strs))] [] [] (.val (.agg (encTree (unsetP ((normF l).getD i (dflt .strs)) (apTo v t (normF l) i))))))], [], []⟩)] [true, false] [3, 4, 6, 8, 29, 30, 31] [1001, 1002, 90000001, 90000002] ((True ∧ True) ∧ (((ty b4) ∧ True) ∧ (((0 ≤ (i : Int) ∧ (i : Int) < (normF l).length) ∧ (i < (normF l).length) ∧ True ∧ True) ∧ ((True ∧ True ∧ (okArgs [.agg (encTree v), .row .str ((normF l).getD i (dflt .strs))]) ∧ (tr 6 True)) ∧ (True ∧ True) ∧ (ty b5) ∧ True) ∧ True ∧ True ∧ (okArgs [.agg (encTree (apTo v t (normF l) i)), .row .str ((normF l).getD i (dflt .strs))]) ∧ True ∧ True) ∧ (InR .i64 ((i : Int) + 1)) ∧ True ∧ True)) .norm [(3, vi wt), (4, .ptr 90000001 0), (6, .ptr 1001 0), (8, .ptr 1002 0), (29, .own 90000002), (30, vi ((normF l).length : Int)), (31, vi ((i : Int) + 1))] [(1001, .var (encTree v)), (1002, .var [vi 0, vb false, vb false, nilv, vi 0, vs (ba []), nilv, nilv]), (90000001, .var (encTree (unsetP ((normF l).getD i (dflt .strs)) (apTo v t (normF l) i)))), (90000002, .sl 26 .strs (normF l))] ⟨⟨⟨ent75, con75 _ _ (by omega) (by omega)⟩, tv⟩, ⟨⟨⟨ent77, con77 _ _ (by omega) (by omega) (by omega)⟩, tv⟩, tv⟩⟩ (by kernel_rfl) ⟨⟨tv, tv⟩, ⟨b4, tv⟩, ⟨⟨(by omega), (by omega), tv, tv⟩, ⟨⟨tv, tv, rfl, tr_mk tv 6⟩, ⟨tv, tv⟩, b5, tv⟩, tv, tv, rfl, tv, tv⟩, (inR64 (by omega) (by omega)), tv, tv⟩ (fun a w hs => ?_)
      refine then_norm ⟨i + 1, by omega, by omega, ?_⟩
      (have e0_ : ((i : Int) + 1) = ((((i + 1) : Nat) : Int)) := (by first | rfl | (omega)); have e1_ : ((unsetP ((normF l).getD i (dflt .strs)) (apTo v t (normF l) i))) = ((apTo v t (normF l) (i + 1))) := (by first | rfl | (rw [apTo_no (i := i) (by omega) b5])); exact (hs.cst [(3, vi wt), (4, .ptr 90000001 0), (6, .ptr 1001 0), (8, .ptr 1002 0), (29, .own 90000002), (30, vi ((normF l).length : Int)), (31, vi (((i + 1) : Nat) : Int))] [(1001, .var (encTree v)), (1002, .var [vi 0, vb false, vb false, nilv, vi 0, vs (ba []), nilv, nilv]), (90000001, .var (encTree (apTo v t (normF l) (i + 1)))), (90000002, .sl 26 .strs (normF l))] (by first | rfl | (rw [e0_, e1_]; done) | (simp only [e0_, e1_]; done) | (simp only [e0_, e1_]; rfl))).rm [(1001, 1001), (1002, 1002), (90000001, 90000001), (90000002, 90000002)] (by kernel_rfl))
    ·skip
     have n4 := of_decide_eq_false b4
     refine wN hs hI [false] [3, 4, 8] [1002, 90000001] ((True ∧ True) ∧ ((ty b4) ∧ True)) (.exit 0) [(3, vi wt), (4, .ptr 90000001 0), (8, .ptr 1002 0)] [(1002, .var [vi 0, vb false, vb false, nilv, vi 0, vs (ba []), nilv, nilv]), (90000001, .var (encTree (apTo v t (normF l) i)))] (by kernel_rfl) ⟨⟨tv, tv⟩, b4, tv⟩ (fun a w hs => ?_)
     refine then_exit ?_
     refine inb_hit ?_
     refine then_norm ?_
     rcases bt (decide (((weight (apTo v t (normF l) i) : Nat) : Int) > wt)) with b6 | b6
     ·skip
      have n6 := of_decide_eq_true b6
      refine wL hs hI [(11, ⟨[(1, ciA 78 [.agg (encTree (apTo v t (normF l) i))] [] [] (.val (vi ((weight (apTo v t (normF l) i) : Nat) : Int))))], gg [1008, 1013, 1018] [5, 6, 7, 10, 11, 12, 15, 16, 17], []⟩)] [true] [8, 9] [1002] ((True ∧ (okArgs [.agg (encTree (apTo v t (normF l) i))]) ∧ (tr 3 ((ty b6) ∧ (ty b6) ∧ (ty b6) ∧ (ty b6) ∧ True ∧ (true = true) ∧ (true = true) ∧ (true = true) ∧ (true = true) ∧ True ∧ (true = true) ∧ (true = true) ∧ (true = true) ∧ (true = true) ∧ True))) ∧ ((true = true) ∧ (tr 3 True) ∧ True)) .ret [(8, .ptr 1002 0), (9, vi 4)] [(1002, .var [vi 0, vb false, vb false, nilv, vi 0, vs (ba []), nilv, nilv])] ⟨⟨⟨ent78, con78 _ (by omega)⟩, tv⟩, tv⟩ (by kernel_rfl) ⟨⟨tv, rfl, tr_mk (⟨b6, b6, b6, b6, tv, rfl, rfl, rfl, rfl, tv, rfl, rfl, rfl, rfl, tv⟩) 3⟩, rfl, tr_mk tv 3, tv⟩ (fun a w hs => ?_)
      exact FnQ_cast (out := .val (.tup [.agg [vi 0, vb false, vb false, .row (.int .u32) ([]), vi 0, vs (ba []), .row .str ([]), .row .tree ([])], vi 4])) (by have hia : i = (normF l).length := (by omega); subst hia; simp only [apTo_all] at *; rw [applyF, if_neg (by rintro (h | h | h) <;> simp_all), if_pos (by first | exact .inl (by omega) | exact .inr (.inl (by omega)) | exact .inr (.inr (.inl (by omega))) | exact .inr (.inr (.inr b6)))]; rfl) (ret_ok [] hs ⟨by kernel_rfl, rfl⟩)
     ·skip
      have n6 := of_decide_eq_false b6
      rcases bt (decide (((nodes (apTo v t (normF l) i) : Nat) : Int) > 2000)) with b7 | b7
      ·skip
       have n7 := of_decide_eq_true b7
       refine wL hs hI [(11, ⟨[(1, ciA 78 [.agg (encTree (apTo v t (normF l) i))] [] [] (.val (vi ((weight (apTo v t (normF l) i) : Nat) : Int)))), (6, ciA 79 [.agg (encTree (apTo v t (normF l) i))] [] [] (.val (vi ((nodes (apTo v t (normF l) i) : Nat) : Int))))], gg [5, 6, 7, 1013, 1018] [1008, 10, 11, 12, 15, 16, 17], []⟩)] [true] [8, 9] [1002] ((True ∧ (okArgs [.agg (encTree (apTo v t (normF l) i))]) ∧ (tr 3 ((ty b6) ∧ True ∧ (ty b6) ∧ (okArgs [.agg (encTree (apTo v t (normF l) i))]) ∧ (rp 2 b6 ((ty b7) ∧ (ty b7) ∧ (ty b7) ∧ (ty b7) ∧ True ∧ (true = true) ∧ (true = true) ∧ (true = true) ∧ (true = true) ∧ True))))) ∧ ((true = true) ∧ (tr 3 True) ∧ True)) .ret [(8, .ptr 1002 0), (9, vi 4)] [(1002, .var [vi 0, vb false, vb false, nilv, vi 0, vs (ba []), nilv, nilv])] ⟨⟨⟨ent78, con78 _ (by omega)⟩, ⟨⟨ent79, con79 _ (by omega)⟩, tv⟩⟩, tv⟩ (by kernel_rfl) ⟨⟨tv, rfl, tr_mk (⟨b6, tv, b6, rfl, rp_mk (⟨b7, b7, b7, b7, tv, rfl, rfl, rfl, rfl, tv⟩) 2⟩) 3⟩, rfl, tr_mk tv 3, tv⟩ (fun a w hs => ?_)
       exact FnQ_cast (out := .val (.tup [.agg [vi 0, vb false, vb false, .row (.int .u32) ([]), vi 0, vs (ba []), .row .str ([]), .row .tree ([])], vi 4])) (by have hia : i = (normF l).length := (by omega); subst hia; simp only [apTo_all] at *; rw [applyF, if_neg (by rintro (h | h | h) <;> simp_all), if_pos (by first | exact .inl (by omega) | exact .inr (.inl (by omega)) | exact .inr (.inr (.inl (by omega))) | exact .inr (.inr (.inr b7)))]; rfl) (ret_ok [] hs ⟨by kernel_rfl, rfl⟩)
      ·skip
       have n7 := of_decide_eq_false b7
       rcases bt (decide (((depth (apTo v t (normF l) i) : Nat) : Int) > 64)) with b8 | b8
       ·skip
        have n8 := of_decide_eq_true b8
        refine wL hs hI [(11, ⟨[(1, ciA 78 [.agg (encTree (apTo v t (normF l) i))] [] [] (.val (vi ((weight (apTo v t (normF l) i) : Nat) : Int)))), (6, ciA 79 [.agg (encTree (apTo v t (normF l) i))] [] [] (.val (vi ((nodes (apTo v t (normF l) i) : Nat) : Int)))), (11, ciA 80 [.agg (encTree (apTo v t (normF l) i))] [] [] (.val (vi ((depth (apTo v t (normF l) i) : Nat) : Int))))], gg [5, 6, 7, 10, 11, 12, 1018] [1008, 1013, 15, 16, 17], []⟩)] [true] [8, 9] [1002] ((True ∧ (okArgs [.agg (encTree (apTo v t (normF l) i))]) ∧ (tr 3 ((ty b6) ∧ True ∧ (ty b6) ∧ (okArgs [.agg (encTree (apTo v t (normF l) i))]) ∧ (rp 2 b6 ((ty b7) ∧ True ∧ (ty b7) ∧ (okArgs [.agg (encTree (apTo v t (normF l) i))]) ∧ (rp 2 b7 ((ty b8) ∧ (ty b8) ∧ (ty b8) ∧ (ty b8) ∧ True))))))) ∧ ((true = true) ∧ (tr 3 True) ∧ True)) .ret [(8, .ptr 1002 0), (9, vi 4)] [(1002, .var [vi 0, vb false, vb false, nilv, vi 0, vs (ba []), nilv, nilv])] ⟨⟨⟨ent78, con78 _ (by omega)⟩, ⟨⟨ent79, con79 _ (by omega)⟩, ⟨⟨ent80, con80 _ (by omega)⟩, tv⟩⟩⟩, tv⟩ (by kernel_rfl) ⟨⟨tv, rfl, tr_mk (⟨b6, tv, b6, rfl, rp_mk (⟨b7, tv, b7, rfl, rp_mk (⟨b8, b8, b8, b8, tv⟩) 2⟩) 2⟩) 3⟩, rfl, tr_mk tv 3, tv⟩ (fun a w hs => ?_)
        exact FnQ_cast (out := .val (.tup [.agg [vi 0, vb false, vb false, .row (.int .u32) ([]), vi 0, vs (ba []), .row .str ([]), .row .tree ([])], vi 4])) (by have hia : i = (normF l).length := (by omega); subst hia; simp only [apTo_all] at *; rw [applyF, if_neg (by rintro (h | h | h) <;> simp_all), if_pos (by first | exact .inl (by omega) | exact .inr (.inl (by omega)) | exact .inr (.inr (.inl (by omega))) | exact .inr (.inr (.inr b8)))]; rfl) (ret_ok [] hs ⟨by kernel_rfl, rfl⟩)
       ·skip
        have n8 := of_decide_eq_false b8
        rcases bt (fewT (apTo v t (normF l) i)) with b9 | b9
        ·skip
         refine wL hs hI [(11, ⟨[(1, ciA 78 [.agg (encTree (apTo v t (normF l) i))] [] [] (.val (vi ((weight (apTo v t (normF l) i) : Nat) : Int)))), (6, ciA 79 [.agg (encTree (apTo v t (normF l) i))] [] [] (.val (vi ((nodes (apTo v t (normF l) i) : Nat) : Int)))), (11, ciA 80 [.agg (encTree (apTo v t (normF l) i))] [] [] (.val (vi ((depth (apTo v t (normF l) i) : Nat) : Int)))), (16, ciA 81 [.agg (encTree (apTo v t (normF l) i))] [] [] (.val (vb (fewT (apTo v t (normF l) i)))))], gg [5, 6, 7, 10, 11, 12, 15, 16, 17] [1008, 1013, 1018], []⟩)] [false] [8, 9] [1002] (((True ∧ (okArgs [.agg (encTree (apTo v t (normF l) i))]) ∧ (tr 3 ((ty b6) ∧ True ∧ (ty b6) ∧ (okArgs [.agg (encTree (apTo v t (normF l) i))]) ∧ (rp 2 b6 ((ty b7) ∧ True ∧ (ty b7) ∧ (okArgs [.agg (encTree (apTo v t (normF l) i))]) ∧ (rp 2 b7 ((ty b8) ∧ True ∧ (ty b8) ∧ (okArgs [.agg (encTree (apTo v t (normF l) i))]) ∧ (ty b8) ∧ True ∧ (ty b8) ∧ True))))))) ∧ (ty (ng1 b9)) ∧ True) ∧ ((tr 3 True) ∧ True)) .ret [(8, .ptr 1002 0), (9, vi 0)] [(1002, .var (encTree (apTo v t (normF l) i)))] ⟨⟨⟨ent78, con78 _ (by omega)⟩, ⟨⟨ent79, con79 _ (by omega)⟩, ⟨⟨ent80, con80 _ (by omega)⟩, ⟨⟨ent81, conFew_mask _ (by omega)⟩, tv⟩⟩⟩⟩, tv⟩ (by kernel_rfl) ⟨⟨⟨tv, rfl, tr_mk (⟨b6, tv, b6, rfl, rp_mk (⟨b7, tv, b7, rfl, rp_mk (⟨b8, tv, b8, rfl, b8, tv, b8, tv⟩) 2⟩) 2⟩) 3⟩, (ng1 b9), tv⟩, tr_mk tv 3, tv⟩ (fun a w hs => ?_)
         exact FnQ_cast (out := .val (.tup [.agg (encTree (apTo v t (normF l) i)), vi 0])) (by have hia : i = (normF l).length := (by omega); subst hia; simp only [apTo_all] at *; rw [applyF, if_neg (by rintro (h | h | h) <;> simp_all), if_neg (by rintro (h | h | h | h); omega; omega; omega; rw [b9] at h; cases h)]) (ret_ok [] hs ⟨by kernel_rfl, rfl⟩)
        ·skip
         refine wL hs hI [(11, ⟨[(1, ciA 78 [.agg (encTree (apTo v t (normF l) i))] [] [] (.val (vi ((weight (apTo v t (normF l) i) : Nat) : Int)))), (6, ciA 79 [.agg (encTree (apTo v t (normF l) i))] [] [] (.val (vi ((nodes (apTo v t (normF l) i) : Nat) : Int)))), (11, ciA 80 [.agg (encTree (apTo v t (normF l) i))] [] [] (.val (vi ((depth (apTo v t (normF l) i) : Nat) : Int)))), (16, ciA 81 [.agg (encTree (apTo v t (normF l) i))] [] [] (.val (vb (fewT (apTo v t (normF l) i)))))], gg [5, 6, 7, 10, 11, 12, 15, 16, 17] [1008, 1013, 1018], []⟩)] [true] [8, 9] [1002] ((True ∧ (okArgs [.agg (encTree (apTo v t (normF l) i))]) ∧ (tr 3 ((ty b6) ∧ True ∧ (ty b6) ∧ (okArgs [.agg (encTree (apTo v t (normF l) i))]) ∧ (rp 2 b6 ((ty b7) ∧ True ∧ (ty b7) ∧ (okArgs [.agg (encTree (apTo v t (normF l) i))]) ∧ (rp 2 b7 ((ty b8) ∧ True ∧ (ty b8) ∧ (okArgs [.agg (encTree (apTo v t (normF l) i))]) ∧ (ty b8) ∧ True ∧ (ty b8) ∧ True))))))) ∧ ((ty (ng0 b9)) ∧ (tr 3 True) ∧ True)) .ret [(8, .ptr 1002 0), (9, vi 4)] [(1002, .var [vi 0, vb false, vb false, nilv, vi 0, vs (ba []), nilv, nilv])] ⟨⟨⟨ent78, con78 _ (by omega)⟩, ⟨⟨ent79, con79 _ (by omega)⟩, ⟨⟨ent80, con80 _ (by omega)⟩, ⟨⟨ent81, conFew_mask _ (by omega)⟩, tv⟩⟩⟩⟩, tv⟩ (by kernel_rfl) ⟨⟨tv, rfl, tr_mk (⟨b6, tv, b6, rfl, rp_mk (⟨b7, tv, b7, rfl, rp_mk (⟨b8, tv, b8, rfl, b8, tv, b8, tv⟩) 2⟩) 2⟩) 3⟩, (ng0 b9), tr_mk tv 3, tv⟩ (fun a w hs => ?_)
         exact FnQ_cast (out := .val (.tup [.agg [vi 0, vb false, vb false, .row (.int .u32) ([]), vi 0, vs (ba []), .row .str ([]), .row .tree ([])], vi 4])) (by have hia : i = (normF l).length := (by omega); subst hia; simp only [apTo_all] at *; rw [applyF, if_neg (by rintro (h | h | h) <;> simp_all), if_pos (by first | exact .inl (by omega) | exact .inr (.inl (by omega)) | exact .inr (.inr (.inl (by omega))) | exact .inr (.inr (.inr b9)))]; rfl) (ret_ok [] hs ⟨by kernel_rfl, rfl⟩)
   ·skip
    refine wL hs hI [(1, ⟨[(1, ciA 57 [.agg (encTree t)] [] [] (.val (vb (validT t)))), (5, ciA 57 [.agg (encTree v)] [] [] (.val (vb (validT v)))), (10, ciA 39 [.row .strs l] [] [] (.val (vb (checkF l))))], gg [4, 5, 6, 9, 10, 11] [1007, 1012], []⟩)] [true] [8, 9] [1002] ((True ∧ (okArgs [.agg (encTree t)]) ∧ True ∧ True ∧ (ty (ng1 b1)) ∧ True ∧ (ty (ng1 b1)) ∧ (okArgs [.agg (encTree v)]) ∧ (rp 2 (ng1 b1) ((ty (ng1 b2)) ∧ True ∧ (ty (ng1 b2)) ∧ (okArgs [.row .strs l]) ∧ (ty (ng1 b2)) ∧ True ∧ (ty (ng1 b2)) ∧ True))) ∧ ((ty (ng0 b3)) ∧ (tr 3 True) ∧ True)) .ret [(8, .ptr 1002 0), (9, vi 1)] [(1002, .var [vi 0, vb false, vb false, nilv, vi 0, vs (ba []), nilv, nilv])] ⟨⟨⟨ent57, con57 _ (by assumption)⟩, ⟨⟨ent57, con57 _ (by assumption)⟩, ⟨⟨ent39, con39 _ hsm (by omega)⟩, tv⟩⟩⟩, tv⟩ (by kernel_rfl) ⟨⟨tv, rfl, tv, tv, (ng1 b1), tv, (ng1 b1), rfl, rp_mk (⟨(ng1 b2), tv, (ng1 b2), rfl, (ng1 b2), tv, (ng1 b2), tv⟩) 2⟩, (ng0 b3), tr_mk tv 3, tv⟩ (fun a w hs => ?_)
    refine then_ret ?_
    exact FnQ_cast (out := .val (.tup [.agg [vi 0, vb false, vb false, .row (.int .u32) ([]), vi 0, vs (ba []), .row .str ([]), .row .tree ([])], vi 1])) (by rw [applyF, if_pos (by first | exact .inl b3 | exact .inr (.inl b3) | exact .inr (.inr b3))]; rfl) (ret_ok [] hs ⟨by kernel_rfl, rfl⟩)
  ·skip
   refine wL hs hI [(1, ⟨[(1, ciA 57 [.agg (encTree t)] [] [] (.val (vb (validT t)))), (5, ciA 57 [.agg (encTree v)] [] [] (.val (vb (validT v))))], gg [4, 5, 6, 1012] [1007, 9, 10, 11], []⟩)] [true] [8, 9] [1002] ((True ∧ (okArgs [.agg (encTree t)]) ∧ True ∧ True ∧ (ty (ng1 b1)) ∧ True ∧ (ty (ng1 b1)) ∧ (okArgs [.agg (encTree v)]) ∧ (rp 2 (ng1 b1) ((ty (ng0 b2)) ∧ (ty (ng0 b2)) ∧ (ty (ng0 b2)) ∧ (ty (ng0 b2)) ∧ True))) ∧ ((true = true) ∧ (tr 3 True) ∧ True)) .ret [(8, .ptr 1002 0), (9, vi 1)] [(1002, .var [vi 0, vb false, vb false, nilv, vi 0, vs (ba []), nilv, nilv])] ⟨⟨⟨ent57, con57 _ (by assumption)⟩, ⟨⟨ent57, con57 _ (by assumption)⟩, tv⟩⟩, tv⟩ (by kernel_rfl) ⟨⟨tv, rfl, tv, tv, (ng1 b1), tv, (ng1 b1), rfl, rp_mk (⟨(ng0 b2), (ng0 b2), (ng0 b2), (ng0 b2), tv⟩) 2⟩, rfl, tr_mk tv 3, tv⟩ (fun a w hs => ?_)
   refine then_ret ?_
   exact FnQ_cast (out := .val (.tup [.agg [vi 0, vb false, vb false, .row (.int .u32) ([]), vi 0, vs (ba []), .row .str ([]), .row .tree ([])], vi 1])) (by rw [applyF, if_pos (by first | exact .inl b2 | exact .inr (.inl b2) | exact .inr (.inr b2))]; rfl) (ret_ok [] hs ⟨by kernel_rfl, rfl⟩)
 ·skip
  refine wL hs hI [(1, ⟨[(1, ciA 57 [.agg (encTree t)] [] [] (.val (vb (validT t))))], gg [1007, 1012] [4, 5, 6, 9, 10, 11], []⟩)] [true] [8, 9] [1002] ((True ∧ (okArgs [.agg (encTree t)]) ∧ True ∧ True ∧ (ty (ng0 b1)) ∧ (ty (ng0 b1)) ∧ (ty (ng0 b1)) ∧ (ty (ng0 b1)) ∧ True ∧ (true = true) ∧ (true = true) ∧ (true = true) ∧ (true = true) ∧ True) ∧ ((true = true) ∧ (tr 3 True) ∧ True)) .ret [(8, .ptr 1002 0), (9, vi 1)] [(1002, .var [vi 0, vb false, vb false, nilv, vi 0, vs (ba []), nilv, nilv])] ⟨⟨⟨ent57, con57 _ (by assumption)⟩, tv⟩, tv⟩ (by kernel_rfl) ⟨⟨tv, rfl, tv, tv, (ng0 b1), (ng0 b1), (ng0 b1), (ng0 b1), tv, rfl, rfl, rfl, rfl, tv⟩, rfl, tr_mk tv 3, tv⟩ (fun a w hs => ?_)
  refine then_ret ?_
  exact FnQ_cast (out := .val (.tup [.agg [vi 0, vb false, vb false, .row (.int .u32) ([]), vi 0, vs (ba []), .row .str ([]), .row .tree ([])], vi 1])) (by rw [applyF, if_pos (by first | exact .inl b1 | exact .inr (.inl b1) | exact .inr (.inr b1))]; rfl) (ret_ok [] hs ⟨by kernel_rfl, rfl⟩)
theorem eqT_comm (a b : ByteArray) : eqT a b = eqT b a := by
 cases h : eqT a b with
 | true => rw [eqT_iff] at h; subst h; exact (eqT_self a).symm
 | false => rw [eqT_ne] at h; exact (eqT_ne.2 (Ne.symm h)).symm
theorem cut_length {t : Tree} (hk : t.kind = 7) : (cutK t).length = min t.k.length t.v.length := by
 unfold cutK; rw [if_pos hk, List.length_take]; omega
theorem cutK_at {t : Tree} (hk : t.kind = 7) {i : Nat} (h1 : i < t.k.length) (h2 : i < t.v.length) (d : ByteArray) : (cutK t).getD i d = t.k.getD i d := by
 unfold cutK; rw [if_pos hk, List.getD_eq_getElem?_getD, List.getElem?_take, if_pos (by omega), ← List.getD_eq_getElem?_getD]
theorem cutV_at {t : Tree} (hk : t.kind = 7) {i : Nat} (h1 : i < t.k.length) (h2 : i < t.v.length) (d : Tree) : (cutV t).getD i d = t.v.getD i d := by
 unfold cutV; rw [if_pos hk, List.getD_eq_getElem?_getD, List.getElem?_take, if_pos (by omega), ← List.getD_eq_getElem?_getD]
theorem mem_found {t : Tree} {x : ByteArray} {i : Nat} (hk : t.kind = 7) (h1 : i < t.k.length) (h2 : i < t.v.length) (hall : ∀ j, j < i → eqT (t.k.getD j (dflt .str)) x = false) (he : eqT (t.k.getD i (dflt .str)) x = true) : memV t x = t.v.getD i (dflt .tree) ∧ memB t x = true := by
 have hl := cut_length hk
 have h := idxT_at (x := x) (l := cutK t) (i := i) (dflt .str) (by omega) (by rw [cutK_at hk h1 h2, eqT_comm]; exact he) (fun j hj d => by rw [getD_any' (by omega) d (dflt .str), cutK_at hk (by omega) (by omega), eqT_comm]; exact hall j hj)
 have hp := memV_pos (t := t) (x := x) (by rw [h]; omega)
 rw [h, Int.toNat_natCast, cutV_at hk h1 h2] at hp
 exact hp
theorem mem_none {t : Tree} {x : ByteArray} {i : Nat} (h : ¬ (t.kind = 7) ∨ (min t.k.length t.v.length ≤ i ∧ ∀ j, j < i → eqT (t.k.getD j (dflt .str)) x = false)) : memV t x = Tree.zero ∧ memB t x = false := by
 refine memV_neg ?_
 rw [idxT_no]
 ·decide
 ·intro j hj d
  by_cases hk : t.kind = 7
  ·rcases h with h | ⟨h, hall⟩
   ·exact absurd hk h
   ·have hl := cut_length hk
    rw [getD_any' hj d (dflt .str), cutK_at hk (by omega) (by omega), eqT_comm]
    exact hall j (by omega)
  ·unfold cutK at hj
   rw [if_neg hk] at hj; simp at hj
theorem mems_none {t : Tree} (hk : ¬ t.kind = 7) : mems t = [] := by unfold mems cutK; rw [if_neg hk]; rfl
theorem mems_len {t : Tree} (hk : t.kind = 7) : (mems t).length = min t.k.length t.v.length := by
 have h : ((mems t).map (·.1)).length = (cutK t).length := by rw [mems_k]
 rw [List.length_map] at h; rw [h, cut_length hk]
theorem mems_drop {t : Tree} (hk : t.kind = 7) {i : Nat} (h1 : i < t.k.length) (h2 : i < t.v.length) : (mems t).drop i = (t.k.getD i (dflt .str), t.v.getD i (dflt .tree)) :: (mems t).drop (i + 1) := by
 have hl := mems_len hk
 rw [List.drop_eq_getElem_cons (by omega)]
 congr 1
 have e1 : ((mems t).map (·.1)).getD i (dflt .str) = t.k.getD i (dflt .str) := by rw [mems_k, cutK_at hk h1 h2]
 have e2 : ((mems t).map (·.2)).getD i (dflt .tree) = t.v.getD i (dflt .tree) := by rw [mems_v, cutV_at hk h1 h2]
 have hi : i < (mems t).length := by omega
 rw [List.getD_eq_getElem?_getD, List.getElem?_map, List.getElem?_eq_getElem hi] at e1 e2
 exact Prod.ext e1 e2
theorem mems_end {t : Tree} {i : Nat} (h : ¬ t.kind = 7 ∨ t.k.length ≤ i ∨ t.v.length ≤ i) : (mems t).drop i = [] := by
 by_cases hk : t.kind = 7
 ·exact List.drop_of_length_le (by rw [mems_len hk]; omega)
 ·rw [mems_none hk]; simp
def restS (x : ByteArray) (v : Tree) (has done : Bool) (l : Mem) : Mem := if done = true then l else if has = true then repA x v l else putA x v l
theorem restS_done {x : ByteArray} {v : Tree} {has : Bool} (l : Mem) : restS x v has true l = l := rfl
theorem rest_hit {x : ByteArray} {v : Tree} {has : Bool} {k : ByteArray} {u : Tree} {l : Mem} (hh : has = true) (h : eqT k x = true) : restS x v has false ((k, u) :: l) = (x, v) :: restS x v has true l := by
 subst hh
 rw [eqT_iff] at h; subst h
 simp [restS, repA, eqT_self]
theorem rest_put {x : ByteArray} {v : Tree} {k : ByteArray} {u : Tree} {l : Mem} (h : gtB k x = true) : restS x v false false ((k, u) :: l) = (x, v) :: (k, u) :: restS x v false true l := by
 simp [restS, putA, h]
theorem rest_on {x : ByteArray} {v : Tree} {has done : Bool} {k : ByteArray} {u : Tree} {l : Mem} (h : done = true ∨ (has = true ∧ eqT k x = false) ∨ (has = false ∧ gtB k x = false)) : restS x v has done ((k, u) :: l) = (k, u) :: restS x v has done l := by
 rcases h with rfl | ⟨rfl, h⟩ | ⟨rfl, h⟩
 ·rfl
 ·cases done <;> simp [restS, repA, eqT_comm x k, h]
 ·cases done <;> simp [restS, putA, h]
def mK (l : Mem) : List ByteArray := l.map (·.1)
def mV (l : Mem) : List Tree := l.map (·.2)
theorem mK_add (l m : Mem) : mK (l ++ m) = mK l ++ mK m := List.map_append
theorem mV_add (l m : Mem) : mV (l ++ m) = mV l ++ mV m := List.map_append
theorem objM_snoc (l : Mem) (x : ByteArray) (v : Tree) : objM (l ++ [(x, v)]) = .mk 7 false ⟨false, [], 0⟩ (ba []) (mK l ++ [x]) (mV l ++ [v]) := by simp [objM, mK, mV]
structure SetJ (t : Tree) (x : ByteArray) (v : Tree) (i : Nat) (acc : Mem) (done : Bool) : Prop where
 eq : acc ++ restS x v (memB t x) done ((mems t).drop i) = insA x v (mems t)
 has : memB t x = true → done = false → (lookA x ((mems t).drop i)).isSome = true
 none : memB t x = false → done = false → ∀ j, j < i → t.kind = 7 → eqT (t.k.getD j (dflt .str)) x = false
 len : acc.length ≤ i + done.toNat
theorem SetJ.start (t : Tree) (x : ByteArray) (v : Tree) : SetJ t x v 0 [] false := by
 refine ⟨?_, fun h _ => ?_, fun _ _ j hj => absurd hj (Nat.not_lt_zero _), Nat.zero_le _⟩
 ·rw [List.nil_append, List.drop_zero, memB_look]; rfl
 ·rw [List.drop_zero, ← memB_look]; exact h
theorem memB_key {t : Tree} {x : ByteArray} {i : Nat} (hk : t.kind = 7) (h1 : i < t.k.length) (h2 : i < t.v.length) (h : eqT (t.k.getD i (dflt .str)) x = true) : memB t x = true := by
 rw [memB_look]
 cases hn : lookA x (mems t) with
 | some u => rfl
 | none =>
  exfalso
  have hd := mems_drop hk h1 h2
  have hm : (t.k.getD i (dflt .str), t.v.getD i (dflt .tree)) ∈ mems t := List.mem_of_mem_drop (by rw [hd]; exact List.mem_cons_self ..)
  have key : ∀ l : Mem, lookA x l = none → (t.k.getD i (dflt .str), t.v.getD i (dflt .tree)) ∈ l → False := by
   intro l
   induction l with
   | nil => intro _ h; simp at h
   | cons p l ih =>
    obtain ⟨y, u⟩ := p
    intro hl hm
    simp only [lookA] at hl
    split at hl
    ·cases hl
    ·rename_i e
     rcases List.mem_cons.1 hm with hm | hm
     ·injection hm with e1 e2
      rw [← e1, eqT_comm] at e
      exact e h
     ·exact ih hl hm
  exact key _ hn hm
section
variable {t : Tree} {x : ByteArray} {v : Tree} {i : Nat} {acc : Mem} {done : Bool} (J : SetJ t x v i acc done) (hk : t.kind = 7) (h1 : i < t.k.length) (h2 : i < t.v.length)
include J hk h1 h2
theorem SetJ.hit (hd : done = false) (h : eqT (t.k.getD i (dflt .str)) x = true) : SetJ t x v (i + 1) (acc ++ [(x, v)]) true := by
 have hb := memB_key hk h1 h2 h
 refine ⟨?_, fun _ h => (by cases h), fun _ h => (by cases h), by have := J.len; subst hd; simp at *; omega⟩
 have he := J.eq
 rw [mems_drop hk h1 h2, hd, rest_hit hb h] at he
 rw [← he]; simp
theorem SetJ.put (hd : done = false) (hh : memB t x = false) (h : gtB (t.k.getD i (dflt .str)) x = true) : SetJ t x v (i + 1) (acc ++ [(x, v)] ++ [(t.k.getD i (dflt .str), t.v.getD i (dflt .tree))]) true := by
 refine ⟨?_, fun _ h => (by cases h), fun _ h => (by cases h), ?_⟩
 ·have he := J.eq
  rw [mems_drop hk h1 h2, hd, hh, rest_put h] at he
  rw [← he]; simp [restS]
 ·have := J.len; subst hd; simp at *; omega
theorem SetJ.on (h : done = true ∨ (memB t x = true ∧ eqT (t.k.getD i (dflt .str)) x = false) ∨ (memB t x = false ∧ eqT (t.k.getD i (dflt .str)) x = false ∧ gtB (t.k.getD i (dflt .str)) x = false)) : SetJ t x v (i + 1) (acc ++ [(t.k.getD i (dflt .str), t.v.getD i (dflt .tree))]) done := by
 have hr : done = true ∨ (memB t x = true ∧ eqT (t.k.getD i (dflt .str)) x = false) ∨ (memB t x = false ∧ gtB (t.k.getD i (dflt .str)) x = false) := by
  rcases h with h | h | ⟨a, _, c⟩
  ·exact .inl h
  ·exact .inr (.inl h)
  ·exact .inr (.inr ⟨a, c⟩)
 refine ⟨?_, fun hb hd => ?_, fun hb hd j hj hk' => ?_, by have := J.len; simp; omega⟩
 ·have he := J.eq
  rw [mems_drop hk h1 h2, rest_on hr] at he
  rw [← he]; simp
 ·have hs := J.has hb hd
  rw [mems_drop hk h1 h2] at hs
  rcases h with h | ⟨_, h⟩ | ⟨h, _⟩
  ·rw [hd] at h; cases h
  ·simp only [lookA] at hs
   rw [if_neg (by rw [eqT_comm, h]; decide)] at hs
   exact hs
  ·rw [hb] at h; cases h
 ·rcases Nat.lt_succ_iff_lt_or_eq.1 hj with hj | rfl
  ·exact J.none hb hd j hj hk'
  ·rcases h with h | ⟨h, _⟩ | ⟨_, h, _⟩
   ·rw [hd] at h; cases h
   ·rw [hb] at h; cases h
   ·exact h
end
theorem SetJ.fin_done {t : Tree} {x : ByteArray} {v : Tree} {i : Nat} {acc : Mem} {done : Bool} (J : SetJ t x v i acc done) (hd : done = true) (he : (mems t).drop i = []) : setT t x v = objM acc := by
 have h := J.eq
 rw [he, hd, restS_done, List.append_nil] at h
 unfold setT; rw [← h]
theorem SetJ.fin_not {t : Tree} {x : ByteArray} {v : Tree} {i : Nat} {acc : Mem} {done : Bool} (J : SetJ t x v i acc done) (hd : done = false) (he : (mems t).drop i = []) : setT t x v = objM (acc ++ [(x, v)]) := by
 have h := J.eq
 cases hb : memB t x with
 | true =>
  have := J.has hb hd
  rw [he] at this; simp [lookA] at this
 | false =>
  rw [he, hd, hb] at h
  unfold setT; rw [← h]; rfl
theorem con69 (t : Tree) (x : ByteArray) (hv : t.v.length < 4611686018427387904) : Con Tryz.prog I0 69 [.agg (encTree t), vs x] (.val (.tup [.agg (encTree (memV t x)), vb (memB t x)])) := by
 refine con_of Tryz.func69 rfl (Nat.le_of_ble_eq_true rfl) stab (fun w0 fz a hI hs => ?_)
 refine wp_seq ?_
 refine wN hs hI [] [1, 2, 4] [1000, 1001] (tr 3 True) .norm [(1, vs x), (2, .ptr 1000 0), (4, .ptr 1001 0)] [(1000, .var (encTree t)), (1001, .var [vi 0, vb false, vb false, nilv, vi 0, vs (ba []), nilv, nilv])] (by kernel_rfl) (tr_mk tv 3) (fun a w hs => ?_)
 refine then_norm ?_
 refine wp_seq ?_
 refine wp_seq ?_
 refine wN hs hI [] [1, 2, 4, 6] [1000, 1001] (True ∧ True) .norm [(1, vs x), (2, .ptr 1000 0), (4, .ptr 1001 0), (6, vi 0)] [(1000, .var (encTree t)), (1001, .var [vi 0, vb false, vb false, nilv, vi 0, vs (ba []), nilv, nilv])] (by kernel_rfl) ⟨tv, tv⟩ (fun a w hs => ?_)
 refine then_norm ?_
 refine wp_block ?_
 refine loop_L (N := Tryz.f69.ntmps) (w0 := w0) (ow := noO fz) (α := Nat) (fun p => [(1, vs x), (2, .ptr 1000 0), (4, .ptr 1001 0), (6, vi (p : Int))]) (fun p => [(1000, .var (encTree t)), (1001, .var [vi 0, vb false, vb false, nilv, vi 0, vs (ba []), nilv, nilv])]) (fun p => (p ≤ t.k.length ∧ p ≤ t.v.length) ∧ ∀ j, j < p → eqT (t.k.getD j (dflt .str)) x = false) (fun p => t.k.length - p) 0 ?_ ?_ ?_
 ·exact ⟨⟨Nat.zero_le _, Nat.zero_le _⟩, fun j hj => absurd hj (Nat.not_lt_zero _)⟩
 ·exact (hs.cst [(1, vs x), (2, .ptr 1000 0), (4, .ptr 1001 0), (6, vi ((0 : Nat) : Int))] [(1000, .var (encTree t)), (1001, .var [vi 0, vb false, vb false, nilv, vi 0, vs (ba []), nilv, nilv])] rfl).rm [(1000, 1000), (1001, 1001)] (by kernel_rfl)
 rintro i hJ a w hs
 obtain ⟨⟨hi, hi2⟩, hall⟩ := hJ
 rcases bt (decide ((i : Int) < (t.k.length : Int))) with b1 | b1
 ·skip
  have n1 := of_decide_eq_true b1
  rcases bt (decide ((i : Int) < (t.v.length : Int))) with b2 | b2
  ·skip
   have n2 := of_decide_eq_true b2
   rcases bt (t.kind == 7) with b3 | b3
   ·skip
    have n3 := eq_of_beq b3
    rcases bt ((t.k.getD i (dflt .str)).toList == x.toList) with b4 | b4
    ·skip
     have n4 := eq_of_beq b4
     refine wL hs hI [(2, ⟨[], gg [6, 7, 8, 9, 10, 1011, 13, 14, 15, 1016] [], []⟩)] [true, true] [4, 5] [1001] (((tr 6 (rp 6 b1 (rp 3 b2 ((ty b2) ∧ True)))) ∧ (ty b3) ∧ True) ∧ ((tr 3 ((0 ≤ (i : Int) ∧ (i : Int) < t.k.length) ∧ (tr 3 True))) ∧ (ty b4) ∧ (tr 3 ((0 ≤ (i : Int) ∧ (i : Int) < t.v.length) ∧ (tr 3 True))) ∧ True)) .ret [(4, .ptr 1001 0), (5, vb true)] [(1001, .var (encTree (t.v.getD i (dflt .tree))))] ⟨tv, tv⟩ (by kernel_rfl) ⟨⟨tr_mk (rp_mk (rp_mk (⟨b2, tv⟩) 3) 6) 6, b3, tv⟩, tr_mk (⟨(by omega), tr_mk tv 3⟩) 3, b4, tr_mk (⟨(by omega), tr_mk tv 3⟩) 3, tv⟩ (fun a w hs => ?_)
     refine then_ret ?_
     refine inb_ret ?_
     refine then_ret ?_
     exact FnQ_cast (out := .val (.tup [.agg (encTree (t.v.getD i (dflt .tree))), vb true])) (by have h := mem_found (x := x) (i := i) (by omega) (by omega) (by omega) hall b4; rw [h.1, h.2]) (ret_ok [] hs ⟨by kernel_rfl, rfl⟩)
    ·skip
     have n4 := beq_eq_false_iff_ne.1 b4
     refine wL hs hI [(2, ⟨[], gg [6, 7, 8, 9, 10, 1011, 13, 14, 15, 1016] [], []⟩)] [true, false] [1, 2, 4, 6] [1000, 1001] (((tr 6 (rp 6 b1 (rp 3 b2 ((ty b2) ∧ True)))) ∧ (ty b3) ∧ True) ∧ (((tr 3 ((0 ≤ (i : Int) ∧ (i : Int) < t.k.length) ∧ (tr 3 True))) ∧ (ty b4) ∧ True) ∧ True ∧ (InR .i64 ((i : Int) + 1)) ∧ True ∧ True)) .norm [(1, vs x), (2, .ptr 1000 0), (4, .ptr 1001 0), (6, vi ((i : Int) + 1))] [(1000, .var (encTree t)), (1001, .var [vi 0, vb false, vb false, nilv, vi 0, vs (ba []), nilv, nilv])] ⟨tv, tv⟩ (by kernel_rfl) ⟨⟨tr_mk (rp_mk (rp_mk (⟨b2, tv⟩) 3) 6) 6, b3, tv⟩, ⟨tr_mk (⟨(by omega), tr_mk tv 3⟩) 3, b4, tv⟩, tv, (inR64 (by omega) (by omega)), tv, tv⟩ (fun a w hs => ?_)
     refine then_norm ⟨i + 1, ⟨⟨by omega, by omega⟩, fun j hj => by rcases Nat.lt_succ_iff_lt_or_eq.1 hj with h | h; exact hall j h; subst h; exact b4⟩, by omega, ?_⟩
     (have e0_ : ((i : Int) + 1) = ((((i + 1) : Nat) : Int)) := (by first | rfl | (omega)); exact (hs.cst [(1, vs x), (2, .ptr 1000 0), (4, .ptr 1001 0), (6, vi (((i + 1) : Nat) : Int))] [(1000, .var (encTree t)), (1001, .var [vi 0, vb false, vb false, nilv, vi 0, vs (ba []), nilv, nilv])] (by first | rfl | (rw [e0_]; done) | (simp only [e0_]; done) | (simp only [e0_]; rfl))).rm [(1000, 1000), (1001, 1001)] (by kernel_rfl))
   ·skip
    have n3 := beq_eq_false_iff_ne.1 b3
    refine wL hs hI [(2, ⟨[], gg [6, 7, 8, 9, 10, 1011, 13, 14, 15, 1016] [], []⟩)] [false] [4] [1001] ((tr 6 (rp 6 b1 (rp 3 b2 ((ty b2) ∧ True)))) ∧ ((ty b3) ∧ True)) (.exit 0) [(4, .ptr 1001 0)] [(1001, .var [vi 0, vb false, vb false, nilv, vi 0, vs (ba []), nilv, nilv])] ⟨tv, tv⟩ (by kernel_rfl) ⟨tr_mk (rp_mk (rp_mk (⟨b2, tv⟩) 3) 6) 6, b3, tv⟩ (fun a w hs => ?_)
    refine then_exit ?_
    refine inb_hit ?_
    refine then_norm ?_
    refine wN hs hI [] [4, 5] [1001] ((tr 3 True) ∧ True) .ret [(4, .ptr 1001 0), (5, vb false)] [(1001, .var [vi 0, vb false, vb false, nilv, vi 0, vs (ba []), nilv, nilv])] (by kernel_rfl) ⟨tr_mk tv 3, tv⟩ (fun a w hs => ?_)
    exact FnQ_cast (out := .val (.tup [.agg [vi 0, vb false, vb false, .row (.int .u32) ([]), vi 0, vs (ba []), .row .str ([]), .row .tree ([])], vb false])) (by have h := mem_none (t := t) (x := x) (i := i) (by first | exact .inl (by omega) | exact .inr ⟨by omega, hall⟩); rw [h.1, h.2]; rfl) (ret_ok [] hs ⟨by kernel_rfl, rfl⟩)
  ·skip
   have n2 := of_decide_eq_false b2
   refine wL hs hI [(2, ⟨[], gg [6, 7, 8, 9, 10, 1011] [13, 14, 15, 1016], []⟩)] [false] [4] [1001] ((tr 6 (rp 6 b1 ((ty b2) ∧ (ty b2) ∧ (ty b2) ∧ (ty b2) ∧ True))) ∧ ((false = false) ∧ True)) (.exit 0) [(4, .ptr 1001 0)] [(1001, .var [vi 0, vb false, vb false, nilv, vi 0, vs (ba []), nilv, nilv])] ⟨tv, tv⟩ (by kernel_rfl) ⟨tr_mk (rp_mk (⟨b2, b2, b2, b2, tv⟩) 6) 6, rfl, tv⟩ (fun a w hs => ?_)
   refine then_exit ?_
   refine inb_hit ?_
   refine then_norm ?_
   refine wN hs hI [] [4, 5] [1001] ((tr 3 True) ∧ True) .ret [(4, .ptr 1001 0), (5, vb false)] [(1001, .var [vi 0, vb false, vb false, nilv, vi 0, vs (ba []), nilv, nilv])] (by kernel_rfl) ⟨tr_mk tv 3, tv⟩ (fun a w hs => ?_)
   exact FnQ_cast (out := .val (.tup [.agg [vi 0, vb false, vb false, .row (.int .u32) ([]), vi 0, vs (ba []), .row .str ([]), .row .tree ([])], vb false])) (by have h := mem_none (t := t) (x := x) (i := i) (by first | exact .inl (by omega) | exact .inr ⟨by omega, hall⟩); rw [h.1, h.2]; rfl) (ret_ok [] hs ⟨by kernel_rfl, rfl⟩)
 ·skip
  have n1 := of_decide_eq_false b1
  refine wL hs hI [(2, ⟨[], gg [] [6, 7, 8, 9, 10, 1011, 13, 14, 15, 1016], []⟩)] [false] [4] [1001] ((tr 6 ((ty b1) ∧ (ty b1) ∧ (ty b1) ∧ (ty b1) ∧ (ty b1) ∧ (ty b1) ∧ True ∧ (false = false) ∧ (false = false) ∧ (false = false) ∧ (false = false) ∧ True)) ∧ ((false = false) ∧ True)) (.exit 0) [(4, .ptr 1001 0)] [(1001, .var [vi 0, vb false, vb false, nilv, vi 0, vs (ba []), nilv, nilv])] ⟨tv, tv⟩ (by kernel_rfl) ⟨tr_mk (⟨b1, b1, b1, b1, b1, b1, tv, rfl, rfl, rfl, rfl, tv⟩) 6, rfl, tv⟩ (fun a w hs => ?_)
  refine then_exit ?_
  refine inb_hit ?_
  refine then_norm ?_
  refine wN hs hI [] [4, 5] [1001] ((tr 3 True) ∧ True) .ret [(4, .ptr 1001 0), (5, vb false)] [(1001, .var [vi 0, vb false, vb false, nilv, vi 0, vs (ba []), nilv, nilv])] (by kernel_rfl) ⟨tr_mk tv 3, tv⟩ (fun a w hs => ?_)
  exact FnQ_cast (out := .val (.tup [.agg [vi 0, vb false, vb false, .row (.int .u32) ([]), vi 0, vs (ba []), .row .str ([]), .row .tree ([])], vb false])) (by have h := mem_none (t := t) (x := x) (i := i) (by first | exact .inl (by omega) | exact .inr ⟨by omega, hall⟩); rw [h.1, h.2]; rfl) (ret_ok [] hs ⟨by kernel_rfl, rfl⟩)
theorem con22 (t : Tree) (x : ByteArray) (v : Tree) (hv : t.v.length < 100000000) : Con Tryz.prog I0 22 [.agg (encTree t), vs x, .agg (encTree v)] (.val (.agg (encTree (setT t x v)))) := by
 refine con_of Tryz.func22 rfl (Nat.le_of_ble_eq_true rfl) stab (fun w0 fz a hI hs => ?_)
 refine wp_seq ?_
 refine wN hs hI [] [1, 3, 5, 6] [1000, 1001, 1002] (tr 3 True) .norm [(1, vs x), (3, .ptr 1000 0), (5, .ptr 1001 0), (6, .ptr 1002 0)] [(1000, .var (encTree t)), (1001, .var (encTree v)), (1002, .var [vi 0, vb false, vb false, nilv, vi 0, vs (ba []), nilv, nilv])] (by kernel_rfl) (tr_mk tv 3) (fun a w hs => ?_)
 refine then_norm ?_
 refine wp_seq ?_
 refine wN hs hI [] [1, 3, 5, 6, 7] [1000, 1001, 1002, 2001] (tr 3 True) .norm [(1, vs x), (3, .ptr 1000 0), (5, .ptr 1001 0), (6, .ptr 1002 0), (7, .ptr 2001 0)] [(1000, .var (encTree t)), (1001, .var (encTree v)), (1002, .var [vi 0, vb false, vb false, nilv, vi 0, vs (ba []), nilv, nilv]), (2001, .var [vi 7, vb false, vb false, nilv, vi 0, vs (ba []), nilv, nilv])] (by kernel_rfl) (tr_mk tv 3) (fun a w hs => ?_)
 refine then_norm ?_
 refine wp_seq ?_
 refine wN hs hI [] [1, 3, 5, 6, 7, 8] [1000, 1001, 1002, 2001] (True ∧ True) .norm [(1, vs x), (3, .ptr 1000 0), (5, .ptr 1001 0), (6, .ptr 1002 0), (7, .ptr 2001 0), (8, vb false)] [(1000, .var (encTree t)), (1001, .var (encTree v)), (1002, .var [vi 0, vb false, vb false, nilv, vi 0, vs (ba []), nilv, nilv]), (2001, .var [vi 7, vb false, vb false, nilv, vi 0, vs (ba []), nilv, nilv])] (by kernel_rfl) ⟨tv, tv⟩ (fun a w hs => ?_)
 refine then_norm ?_
 refine wp_seq ?_
 refine wL hs hI [(3, ⟨[(2, ciA 69 [.agg (encTree t), vs x] [] [] (.val (.tup [.agg (encTree (memV t x)), vb (memB t x)])))], [], []⟩)] [] [1, 3, 5, 6, 7, 8, 10] [1000, 1001, 1002, 2001] (True ∧ (True ∧ (okArgs [.agg (encTree t), vs x]) ∧ (tr 6 True))) .norm [(1, vs x), (3, .ptr 1000 0), (5, .ptr 1001 0), (6, .ptr 1002 0), (7, .ptr 2001 0), (8, vb false), (10, vb (memB t x))] [(1000, .var (encTree t)), (1001, .var (encTree v)), (1002, .var [vi 0, vb false, vb false, nilv, vi 0, vs (ba []), nilv, nilv]), (2001, .var [vi 7, vb false, vb false, nilv, vi 0, vs (ba []), nilv, nilv])] ⟨⟨⟨ent69, con69 _ _ (by omega)⟩, tv⟩, tv⟩ (by kernel_rfl) ⟨tv, tv, rfl, tr_mk tv 6⟩ (fun a w hs => ?_)
 refine then_norm ?_
 refine wp_seq ?_
 refine wp_seq ?_
 refine wN hs hI [] [1, 3, 5, 6, 7, 8, 10, 11] [1000, 1001, 1002, 2001] (True ∧ True) .norm [(1, vs x), (3, .ptr 1000 0), (5, .ptr 1001 0), (6, .ptr 1002 0), (7, .ptr 2001 0), (8, vb false), (10, vb (memB t x)), (11, vi 0)] [(1000, .var (encTree t)), (1001, .var (encTree v)), (1002, .var [vi 0, vb false, vb false, nilv, vi 0, vs (ba []), nilv, nilv]), (2001, .var [vi 7, vb false, vb false, nilv, vi 0, vs (ba []), nilv, nilv])] (by kernel_rfl) ⟨tv, tv⟩ (fun a w hs => ?_)
 refine then_norm ?_
 refine wp_block ?_
 refine loop_L (N := Tryz.f22.ntmps) (w0 := w0) (ow := noO fz) (α := Nat × Mem × Bool) (fun p => [(1, vs x), (3, .ptr 1000 0), (5, .ptr 1001 0), (6, .ptr 1002 0), (7, .ptr 90000001 0), (8, vb p.2.2), (10, vb (memB t x)), (11, vi ((p.1 : Nat) : Int))]) (fun p => [(1000, .var (encTree t)), (1001, .var (encTree v)), (1002, .var [vi 0, vb false, vb false, nilv, vi 0, vs (ba []), nilv, nilv]), (90000001, .var [vi 7, vb false, vb false, nilv, vi 0, vs (ba []), .own 90000002, .own 90000003]), (90000002, .sl 9 .str (mK p.2.1)), (90000003, .sl 29 .tree (mV p.2.1))]) (fun p => (p.1 ≤ t.k.length ∧ p.1 ≤ t.v.length) ∧ SetJ t x v p.1 p.2.1 p.2.2) (fun p => t.k.length - p.1) (0, [], false) ?_ ?_ ?_
 ·exact ⟨⟨Nat.zero_le _, Nat.zero_le _⟩, SetJ.start t x v⟩
 ·(have hs := (hs.nilB 10000005 2001 6 9 .str [vi 7, vb false, vb false, nilv, vi 0, vs (ba []), nilv, nilv] (by kernel_rfl) (by kernel_rfl) (by decide) (by decide) (by kernel_rfl) (by kernel_rfl)).rmT [(1, vs x), (3, .ptr 1000 0), (5, .ptr 1001 0), (6, .ptr 1002 0), (7, .ptr 2001 0), (8, vb false), (10, vb (memB t x)), (11, vi 0)] [(1000, .var (encTree t)), (1001, .var (encTree v)), (1002, .var [vi 0, vb false, vb false, nilv, vi 0, vs (ba []), nilv, nilv]), (2001, .var [vi 7, vb false, vb false, nilv, vi 0, vs (ba []), .own 10000005, nilv]), (10000005, .sl 9 .str ([]))] [(1000, 1000), (1001, 1001), (1002, 1002), (2001, 2001), (10000005, 10000005)] (by kernel_rfl); have hs := (hs.nilB 10000006 2001 7 29 .tree [vi 7, vb false, vb false, nilv, vi 0, vs (ba []), .own 10000005, nilv] (by kernel_rfl) (by kernel_rfl) (by decide) (by decide) (by kernel_rfl) (by kernel_rfl)).rmT [(1, vs x), (3, .ptr 1000 0), (5, .ptr 1001 0), (6, .ptr 1002 0), (7, .ptr 2001 0), (8, vb false), (10, vb (memB t x)), (11, vi 0)] [(1000, .var (encTree t)), (1001, .var (encTree v)), (1002, .var [vi 0, vb false, vb false, nilv, vi 0, vs (ba []), nilv, nilv]), (2001, .var [vi 7, vb false, vb false, nilv, vi 0, vs (ba []), .own 10000005, .own 10000006]), (10000005, .sl 9 .str ([])), (10000006, .sl 29 .tree ([]))] [(1000, 1000), (1001, 1001), (1002, 1002), (2001, 2001), (10000005, 10000005), (10000006, 10000006)] (by kernel_rfl); exact (hs.cst [(1, vs x), (3, .ptr 1000 0), (5, .ptr 1001 0), (6, .ptr 1002 0), (7, .ptr 2001 0), (8, vb false), (10, vb (memB t x)), (11, vi ((0 : Nat) : Int))] [(1000, .var (encTree t)), (1001, .var (encTree v)), (1002, .var [vi 0, vb false, vb false, nilv, vi 0, vs (ba []), nilv, nilv]), (2001, .var [vi 7, vb false, vb false, nilv, vi 0, vs (ba []), .own 10000005, .own 10000006]), (10000005, .sl 9 .str (mK ([]))), (10000006, .sl 29 .tree (mV ([])))] rfl).rm [(1000, 1000), (1001, 1001), (1002, 1002), (90000001, 2001), (90000002, 10000005), (90000003, 10000006)] (by kernel_rfl))
 rintro ⟨i, acc, done⟩ hJ a w hs
 try dsimp only at hJ
 obtain ⟨⟨hi, hi2⟩, hJ⟩ := hJ
 have hln := hJ.len
 have hdn : done.toNat ≤ 1 := by cases done <;> decide
 have hl1 : (mK acc).length = acc.length := List.length_map _
 have hl2 : (mV acc).length = acc.length := List.length_map _
 rcases bt (decide ((i : Int) < (t.k.length : Int))) with b1 | b1
 ·skip
  have n1 := of_decide_eq_true b1
  rcases bt (decide ((i : Int) < (t.v.length : Int))) with b2 | b2
  ·skip
   have n2 := of_decide_eq_true b2
   rcases bt (t.kind == 7) with b3 | b3
   ·skip
    have n3 := eq_of_beq b3
    rcases bt (done) with b4 | b4
    ·skip
     refine wL hs hI [(5, ⟨[], gg [6, 7, 8, 9, 10, 1011, 13, 14, 15, 1016] [], []⟩), (7, ⟨[], gg [] [3, 4, 5, 6, 7, 8, 9, 1010], []⟩), (10, ⟨[], gg [] [3, 4, 1005, 7, 8, 9, 10, 11, 12, 13, 1014], []⟩)] [true, false, false] [1, 3, 5, 6, 7, 8, 10, 11] [1000, 1001, 1002, 14008, 14017, 90000001] (((tr 6 (rp 6 b1 (rp 3 b2 ((ty b2) ∧ True)))) ∧ (ty b3) ∧ True) ∧ ((((tr 3 ((ty (ng1 b4)) ∧ (ty (ng1 b4)) ∧ (ty (ng1 b4)) ∧ (ty (ng1 b4)) ∧ (ty (ng1 b4)) ∧ (ty (ng1 b4)) ∧ (ty (ng1 b4)) ∧ (ty (ng1 b4)) ∧ True ∧ True)) ∧ (false = false) ∧ (tr 3 ((ty (ng1 b4)) ∧ (ty (ng1 b4)) ∧ (ty (ng1 b4)) ∧ True ∧ (false = false) ∧ (false = false) ∧ (false = false) ∧ (false = false) ∧ (false = false) ∧ (false = false) ∧ (false = false) ∧ (false = false) ∧ True ∧ True)) ∧ (false = false) ∧ True) ∧ (tr 5 ((0 ≤ (i : Int) ∧ (i : Int) < t.k.length) ∧ True ∧ True ∧ ((((mK acc).length + 1) * 16 : Nat) ≤ 140737488355328 ∧ (mK acc).length + 1 ≤ 140737488355328) ∧ (tr 5 ((0 ≤ (i : Int) ∧ (i : Int) < t.v.length) ∧ True ∧ True ∧ ((((mV acc).length + 1) * 120 : Nat) ≤ 140737488355328 ∧ (mV acc).length + 1 ≤ 140737488355328) ∧ (tr 4 True)))))) ∧ True ∧ (InR .i64 ((i : Int) + 1)) ∧ True ∧ True)) .norm [(1, vs x), (3, .ptr 1000 0), (5, .ptr 1001 0), (6, .ptr 1002 0), (7, .ptr 90000001 0), (8, vb done), (10, vb (memB t x)), (11, vi ((i : Int) + 1))] [(1000, .var (encTree t)), (1001, .var (encTree v)), (1002, .var [vi 0, vb false, vb false, nilv, vi 0, vs (ba []), nilv, nilv]), (14008, .sl 9 .str ((mK acc) ++ ([(t.k.getD i (dflt .str))]))), (14017, .sl 29 .tree ((mV acc) ++ ([(Tree.mk ((t.v.getD i (dflt .tree)).kind) ((t.v.getD i (dflt .tree)).b) ⟨(t.v.getD i (dflt .tree)).n.neg, (t.v.getD i (dflt .tree)).n.m, (t.v.getD i (dflt .tree)).n.e⟩ ((t.v.getD i (dflt .tree)).s) ((t.v.getD i (dflt .tree)).k) ((t.v.getD i (dflt .tree)).v))]))), (90000001, .var [vi 7, vb false, vb false, nilv, vi 0, vs (ba []), .own 14008, .own 14017])] ⟨tv, ⟨tv, ⟨tv, tv⟩⟩⟩ (by kernel_rfl) ⟨⟨tr_mk (rp_mk (rp_mk (⟨b2, tv⟩) 3) 6) 6, b3, tv⟩, ⟨⟨tr_mk (⟨(ng1 b4), (ng1 b4), (ng1 b4), (ng1 b4), (ng1 b4), (ng1 b4), (ng1 b4), (ng1 b4), tv, tv⟩) 3, rfl, tr_mk (⟨(ng1 b4), (ng1 b4), (ng1 b4), tv, rfl, rfl, rfl, rfl, rfl, rfl, rfl, rfl, tv, tv⟩) 3, rfl, tv⟩, tr_mk (⟨(by omega), tv, tv, (by omega), tr_mk (⟨(by omega), tv, tv, (by omega), tr_mk tv 4⟩) 5⟩) 5⟩, tv, (inR64 (by omega) (by omega)), tv, tv⟩ (fun a w hs => ?_)
     refine then_norm ⟨(i + 1, acc ++ [(t.k.getD i (dflt .str), t.v.getD i (dflt .tree))], done), ⟨⟨by omega, by omega⟩, hJ.on (by omega) (by omega) (by omega) (.inl b4)⟩, by omega, ?_⟩
     (have e0_ : ((i : Int) + 1) = ((((i + 1) : Nat) : Int)) := (by first | rfl | (first | rfl | (simp only [mK_add, mV_add, Tree.eta']; rfl) | (simp [mK, mV, Tree.eta']; done))); have e1_ : ((mK acc) ++ ([(t.k.getD i (dflt .str))])) = (mK (acc ++ [(t.k.getD i (dflt .str), t.v.getD i (dflt .tree))])) := (by first | rfl | (first | rfl | (simp only [mK_add, mV_add, Tree.eta']; rfl) | (simp [mK, mV, Tree.eta']; done))); have e2_ : ((mV acc) ++ ([(Tree.mk ((t.v.getD i (dflt .tree)).kind) ((t.v.getD i (dflt .tree)).b) ⟨(t.v.getD i (dflt .tree)).n.neg, (t.v.getD i (dflt .tree)).n.m, (t.v.getD i (dflt .tree)).n.e⟩ ((t.v.getD i (dflt .tree)).s) ((t.v.getD i (dflt .tree)).k) ((t.v.getD i (dflt .tree)).v))])) = (mV (acc ++ [(t.k.getD i (dflt .str), t.v.getD i (dflt .tree))])) := (by first | rfl | (first | rfl | (simp only [mK_add, mV_add, Tree.eta']; rfl) | (simp [mK, mV, Tree.eta']; done))); exact (hs.cst [(1, vs x), (3, .ptr 1000 0), (5, .ptr 1001 0), (6, .ptr 1002 0), (7, .ptr 90000001 0), (8, vb done), (10, vb (memB t x)), (11, vi (((i + 1) : Nat) : Int))] [(1000, .var (encTree t)), (1001, .var (encTree v)), (1002, .var [vi 0, vb false, vb false, nilv, vi 0, vs (ba []), nilv, nilv]), (14008, .sl 9 .str (mK (acc ++ [(t.k.getD i (dflt .str), t.v.getD i (dflt .tree))]))), (14017, .sl 29 .tree (mV (acc ++ [(t.k.getD i (dflt .str), t.v.getD i (dflt .tree))]))), (90000001, .var [vi 7, vb false, vb false, nilv, vi 0, vs (ba []), .own 14008, .own 14017])] (by first | rfl | (rw [e0_, e1_, e2_]; done) | (simp only [e0_, e1_, e2_]; done) | (simp only [e0_, e1_, e2_]; rfl))).rm [(1000, 1000), (1001, 1001), (1002, 1002), (90000001, 90000001), (90000002, 14008), (90000003, 14017)] (by kernel_rfl))
    ·skip
     rcases bt ((t.k.getD i (dflt .str)).toList == x.toList) with b5 | b5
     ·skip
      have n5 := eq_of_beq b5
      refine wL hs hI [(5, ⟨[], gg [6, 7, 8, 9, 10, 1011, 13, 14, 15, 1016] [], []⟩), (7, ⟨[], gg [3, 4, 5, 6, 7, 8, 9, 1010] [], []⟩)] [true, true] [1, 3, 5, 6, 7, 8, 10, 11] [1000, 1001, 1002, 9004, 9009, 90000001] (((tr 6 (rp 6 b1 (rp 3 b2 ((ty b2) ∧ True)))) ∧ (ty b3) ∧ True) ∧ (((tr 3 (rp 3 (ng0 b4) ((ty (ng0 b4)) ∧ (0 ≤ (i : Int) ∧ (i : Int) < t.k.length) ∧ (rp 4 (ng0 b4) True)))) ∧ (ty b5) ∧ (tr 4 (((((mK acc).length + 1) * 16 : Nat) ≤ 140737488355328 ∧ (mK acc).length + 1 ≤ 140737488355328) ∧ (tr 4 (((((mV acc).length + 1) * 120 : Nat) ≤ 140737488355328 ∧ (mV acc).length + 1 ≤ 140737488355328) ∧ (tr 4 True))))) ∧ (True ∧ True) ∧ True) ∧ True ∧ (InR .i64 ((i : Int) + 1)) ∧ True ∧ True)) .norm [(1, vs x), (3, .ptr 1000 0), (5, .ptr 1001 0), (6, .ptr 1002 0), (7, .ptr 90000001 0), (8, vb true), (10, vb (memB t x)), (11, vi ((i : Int) + 1))] [(1000, .var (encTree t)), (1001, .var (encTree v)), (1002, .var [vi 0, vb false, vb false, nilv, vi 0, vs (ba []), nilv, nilv]), (9004, .sl 9 .str ((mK acc) ++ ([x]))), (9009, .sl 29 .tree ((mV acc) ++ ([(Tree.mk v.kind v.b ⟨v.n.neg, v.n.m, v.n.e⟩ v.s v.k v.v)]))), (90000001, .var [vi 7, vb false, vb false, nilv, vi 0, vs (ba []), .own 9004, .own 9009])] ⟨tv, ⟨tv, tv⟩⟩ (by kernel_rfl) ⟨⟨tr_mk (rp_mk (rp_mk (⟨b2, tv⟩) 3) 6) 6, b3, tv⟩, ⟨tr_mk (rp_mk (⟨(ng0 b4), (by omega), rp_mk (tv) 4⟩) 3) 3, b5, tr_mk (⟨(by omega), tr_mk (⟨(by omega), tr_mk tv 4⟩) 4⟩) 4, ⟨tv, tv⟩, tv⟩, tv, (inR64 (by omega) (by omega)), tv, tv⟩ (fun a w hs => ?_)
      refine then_norm ⟨(i + 1, acc ++ [(x, v)], true), ⟨⟨by omega, by omega⟩, hJ.hit (by omega) (by omega) (by omega) b4 b5⟩, by omega, ?_⟩
      (have e0_ : ((i : Int) + 1) = ((((i + 1) : Nat) : Int)) := (by first | rfl | (first | rfl | (simp only [mK_add, mV_add, Tree.eta']; rfl) | (simp [mK, mV, Tree.eta']; done))); have e1_ : ((mK acc) ++ ([x])) = (mK (acc ++ [(x, v)])) := (by first | rfl | (first | rfl | (simp only [mK_add, mV_add, Tree.eta']; rfl) | (simp [mK, mV, Tree.eta']; done))); have e2_ : ((mV acc) ++ ([(Tree.mk v.kind v.b ⟨v.n.neg, v.n.m, v.n.e⟩ v.s v.k v.v)])) = (mV (acc ++ [(x, v)])) := (by first | rfl | (first | rfl | (simp only [mK_add, mV_add, Tree.eta']; rfl) | (simp [mK, mV, Tree.eta']; done))); exact (hs.cst [(1, vs x), (3, .ptr 1000 0), (5, .ptr 1001 0), (6, .ptr 1002 0), (7, .ptr 90000001 0), (8, vb true), (10, vb (memB t x)), (11, vi (((i + 1) : Nat) : Int))] [(1000, .var (encTree t)), (1001, .var (encTree v)), (1002, .var [vi 0, vb false, vb false, nilv, vi 0, vs (ba []), nilv, nilv]), (9004, .sl 9 .str (mK (acc ++ [(x, v)]))), (9009, .sl 29 .tree (mV (acc ++ [(x, v)]))), (90000001, .var [vi 7, vb false, vb false, nilv, vi 0, vs (ba []), .own 9004, .own 9009])] (by first | rfl | (rw [e0_, e1_, e2_]; done) | (simp only [e0_, e1_, e2_]; done) | (simp only [e0_, e1_, e2_]; rfl))).rm [(1000, 1000), (1001, 1001), (1002, 1002), (90000001, 90000001), (90000002, 9004), (90000003, 9009)] (by kernel_rfl))
     ·skip
      have n5 := beq_eq_false_iff_ne.1 b5
      rcases bt (memB t x) with b6 | b6
      ·skip
       refine wL hs hI [(5, ⟨[], gg [6, 7, 8, 9, 10, 1011, 13, 14, 15, 1016] [], []⟩), (7, ⟨[], gg [3, 4, 5, 6, 7, 8, 9, 1010] [], []⟩), (10, ⟨[], gg [3, 4, 1005] [7, 8, 9, 10, 11, 12, 13, 1014], []⟩)] [true, false, false] [1, 3, 5, 6, 7, 8, 10, 11] [1000, 1001, 1002, 14008, 14017, 90000001] (((tr 6 (rp 6 b1 (rp 3 b2 ((ty b2) ∧ True)))) ∧ (ty b3) ∧ True) ∧ ((((tr 3 (rp 3 (ng0 b4) ((ty (ng0 b4)) ∧ (0 ≤ (i : Int) ∧ (i : Int) < t.k.length) ∧ (rp 4 (ng0 b4) True)))) ∧ (ty b5) ∧ (tr 3 (rp 3 (ng0 b4) ((ty (ng1 b6)) ∧ (ty (ng1 b6)) ∧ (ty (ng1 b6)) ∧ (ty (ng1 b6)) ∧ (ty (ng1 b6)) ∧ (ty (ng1 b6)) ∧ (ty (ng1 b6)) ∧ (ty (ng1 b6)) ∧ True ∧ True))) ∧ (false = false) ∧ True) ∧ (tr 5 ((0 ≤ (i : Int) ∧ (i : Int) < t.k.length) ∧ True ∧ True ∧ ((((mK acc).length + 1) * 16 : Nat) ≤ 140737488355328 ∧ (mK acc).length + 1 ≤ 140737488355328) ∧ (tr 5 ((0 ≤ (i : Int) ∧ (i : Int) < t.v.length) ∧ True ∧ True ∧ ((((mV acc).length + 1) * 120 : Nat) ≤ 140737488355328 ∧ (mV acc).length + 1 ≤ 140737488355328) ∧ (tr 4 True)))))) ∧ True ∧ (InR .i64 ((i : Int) + 1)) ∧ True ∧ True)) .norm [(1, vs x), (3, .ptr 1000 0), (5, .ptr 1001 0), (6, .ptr 1002 0), (7, .ptr 90000001 0), (8, vb done), (10, vb (memB t x)), (11, vi ((i : Int) + 1))] [(1000, .var (encTree t)), (1001, .var (encTree v)), (1002, .var [vi 0, vb false, vb false, nilv, vi 0, vs (ba []), nilv, nilv]), (14008, .sl 9 .str ((mK acc) ++ ([(t.k.getD i (dflt .str))]))), (14017, .sl 29 .tree ((mV acc) ++ ([(Tree.mk ((t.v.getD i (dflt .tree)).kind) ((t.v.getD i (dflt .tree)).b) ⟨(t.v.getD i (dflt .tree)).n.neg, (t.v.getD i (dflt .tree)).n.m, (t.v.getD i (dflt .tree)).n.e⟩ ((t.v.getD i (dflt .tree)).s) ((t.v.getD i (dflt .tree)).k) ((t.v.getD i (dflt .tree)).v))]))), (90000001, .var [vi 7, vb false, vb false, nilv, vi 0, vs (ba []), .own 14008, .own 14017])] ⟨tv, ⟨tv, ⟨tv, tv⟩⟩⟩ (by kernel_rfl) ⟨⟨tr_mk (rp_mk (rp_mk (⟨b2, tv⟩) 3) 6) 6, b3, tv⟩, ⟨⟨tr_mk (rp_mk (⟨(ng0 b4), (by omega), rp_mk (tv) 4⟩) 3) 3, b5, tr_mk (rp_mk (⟨(ng1 b6), (ng1 b6), (ng1 b6), (ng1 b6), (ng1 b6), (ng1 b6), (ng1 b6), (ng1 b6), tv, tv⟩) 3) 3, rfl, tv⟩, tr_mk (⟨(by omega), tv, tv, (by omega), tr_mk (⟨(by omega), tv, tv, (by omega), tr_mk tv 4⟩) 5⟩) 5⟩, tv, (inR64 (by omega) (by omega)), tv, tv⟩ (fun a w hs => ?_)
       refine then_norm ⟨(i + 1, acc ++ [(t.k.getD i (dflt .str), t.v.getD i (dflt .tree))], done), ⟨⟨by omega, by omega⟩, hJ.on (by omega) (by omega) (by omega) (.inr (.inl ⟨b6, b5⟩))⟩, by omega, ?_⟩
       (have e0_ : ((i : Int) + 1) = ((((i + 1) : Nat) : Int)) := (by first | rfl | (first | rfl | (simp only [mK_add, mV_add, Tree.eta']; rfl) | (simp [mK, mV, Tree.eta']; done))); have e1_ : ((mK acc) ++ ([(t.k.getD i (dflt .str))])) = (mK (acc ++ [(t.k.getD i (dflt .str), t.v.getD i (dflt .tree))])) := (by first | rfl | (first | rfl | (simp only [mK_add, mV_add, Tree.eta']; rfl) | (simp [mK, mV, Tree.eta']; done))); have e2_ : ((mV acc) ++ ([(Tree.mk ((t.v.getD i (dflt .tree)).kind) ((t.v.getD i (dflt .tree)).b) ⟨(t.v.getD i (dflt .tree)).n.neg, (t.v.getD i (dflt .tree)).n.m, (t.v.getD i (dflt .tree)).n.e⟩ ((t.v.getD i (dflt .tree)).s) ((t.v.getD i (dflt .tree)).k) ((t.v.getD i (dflt .tree)).v))])) = (mV (acc ++ [(t.k.getD i (dflt .str), t.v.getD i (dflt .tree))])) := (by first | rfl | (first | rfl | (simp only [mK_add, mV_add, Tree.eta']; rfl) | (simp [mK, mV, Tree.eta']; done))); exact (hs.cst [(1, vs x), (3, .ptr 1000 0), (5, .ptr 1001 0), (6, .ptr 1002 0), (7, .ptr 90000001 0), (8, vb done), (10, vb (memB t x)), (11, vi (((i + 1) : Nat) : Int))] [(1000, .var (encTree t)), (1001, .var (encTree v)), (1002, .var [vi 0, vb false, vb false, nilv, vi 0, vs (ba []), nilv, nilv]), (14008, .sl 9 .str (mK (acc ++ [(t.k.getD i (dflt .str), t.v.getD i (dflt .tree))]))), (14017, .sl 29 .tree (mV (acc ++ [(t.k.getD i (dflt .str), t.v.getD i (dflt .tree))]))), (90000001, .var [vi 7, vb false, vb false, nilv, vi 0, vs (ba []), .own 14008, .own 14017])] (by first | rfl | (rw [e0_, e1_, e2_]; done) | (simp only [e0_, e1_, e2_]; done) | (simp only [e0_, e1_, e2_]; rfl))).rm [(1000, 1000), (1001, 1001), (1002, 1002), (90000001, 90000001), (90000002, 14008), (90000003, 14017)] (by kernel_rfl))
      ·skip
       rcases bt (Op.bytesLess (t.k.getD i (dflt .str)).toList x.toList || (t.k.getD i (dflt .str)).toList == x.toList) with b7 | b7
       ·skip
        refine wL hs hI [(5, ⟨[], gg [6, 7, 8, 9, 10, 1011, 13, 14, 15, 1016] [], []⟩), (7, ⟨[], gg [3, 4, 5, 6, 7, 8, 9, 1010] [], []⟩), (10, ⟨[], gg [3, 4, 1005, 7, 8, 9, 10, 11, 12, 13, 1014] [], []⟩)] [true, false, false] [1, 3, 5, 6, 7, 8, 10, 11] [1000, 1001, 1002, 14008, 14017, 90000001] (((tr 6 (rp 6 b1 (rp 3 b2 ((ty b2) ∧ True)))) ∧ (ty b3) ∧ True) ∧ ((((tr 3 (rp 3 (ng0 b4) ((ty (ng0 b4)) ∧ (0 ≤ (i : Int) ∧ (i : Int) < t.k.length) ∧ (rp 4 (ng0 b4) True)))) ∧ (ty b5) ∧ (tr 3 (rp 3 (ng0 b4) (rp 3 (ng0 b6) ((ty (ng0 b6)) ∧ (0 ≤ (i : Int) ∧ (i : Int) < t.k.length) ∧ (rp 4 (ng0 b6) True))))) ∧ (ty (ng1 b7)) ∧ True) ∧ (tr 5 ((0 ≤ (i : Int) ∧ (i : Int) < t.k.length) ∧ True ∧ True ∧ ((((mK acc).length + 1) * 16 : Nat) ≤ 140737488355328 ∧ (mK acc).length + 1 ≤ 140737488355328) ∧ (tr 5 ((0 ≤ (i : Int) ∧ (i : Int) < t.v.length) ∧ True ∧ True ∧ ((((mV acc).length + 1) * 120 : Nat) ≤ 140737488355328 ∧ (mV acc).length + 1 ≤ 140737488355328) ∧ (tr 4 True)))))) ∧ True ∧ (InR .i64 ((i : Int) + 1)) ∧ True ∧ True)) .norm [(1, vs x), (3, .ptr 1000 0), (5, .ptr 1001 0), (6, .ptr 1002 0), (7, .ptr 90000001 0), (8, vb done), (10, vb (memB t x)), (11, vi ((i : Int) + 1))] [(1000, .var (encTree t)), (1001, .var (encTree v)), (1002, .var [vi 0, vb false, vb false, nilv, vi 0, vs (ba []), nilv, nilv]), (14008, .sl 9 .str ((mK acc) ++ ([(t.k.getD i (dflt .str))]))), (14017, .sl 29 .tree ((mV acc) ++ ([(Tree.mk ((t.v.getD i (dflt .tree)).kind) ((t.v.getD i (dflt .tree)).b) ⟨(t.v.getD i (dflt .tree)).n.neg, (t.v.getD i (dflt .tree)).n.m, (t.v.getD i (dflt .tree)).n.e⟩ ((t.v.getD i (dflt .tree)).s) ((t.v.getD i (dflt .tree)).k) ((t.v.getD i (dflt .tree)).v))]))), (90000001, .var [vi 7, vb false, vb false, nilv, vi 0, vs (ba []), .own 14008, .own 14017])] ⟨tv, ⟨tv, ⟨tv, tv⟩⟩⟩ (by kernel_rfl) ⟨⟨tr_mk (rp_mk (rp_mk (⟨b2, tv⟩) 3) 6) 6, b3, tv⟩, ⟨⟨tr_mk (rp_mk (⟨(ng0 b4), (by omega), rp_mk (tv) 4⟩) 3) 3, b5, tr_mk (rp_mk (rp_mk (⟨(ng0 b6), (by omega), rp_mk (tv) 4⟩) 3) 3) 3, (ng1 b7), tv⟩, tr_mk (⟨(by omega), tv, tv, (by omega), tr_mk (⟨(by omega), tv, tv, (by omega), tr_mk tv 4⟩) 5⟩) 5⟩, tv, (inR64 (by omega) (by omega)), tv, tv⟩ (fun a w hs => ?_)
        refine then_norm ⟨(i + 1, acc ++ [(t.k.getD i (dflt .str), t.v.getD i (dflt .tree))], done), ⟨⟨by omega, by omega⟩, hJ.on (by omega) (by omega) (by omega) (.inr (.inr ⟨b6, b5, by unfold gtB; rw [b7]; rfl⟩))⟩, by omega, ?_⟩
        (have e0_ : ((i : Int) + 1) = ((((i + 1) : Nat) : Int)) := (by first | rfl | (first | rfl | (simp only [mK_add, mV_add, Tree.eta']; rfl) | (simp [mK, mV, Tree.eta']; done))); have e1_ : ((mK acc) ++ ([(t.k.getD i (dflt .str))])) = (mK (acc ++ [(t.k.getD i (dflt .str), t.v.getD i (dflt .tree))])) := (by first | rfl | (first | rfl | (simp only [mK_add, mV_add, Tree.eta']; rfl) | (simp [mK, mV, Tree.eta']; done))); have e2_ : ((mV acc) ++ ([(Tree.mk ((t.v.getD i (dflt .tree)).kind) ((t.v.getD i (dflt .tree)).b) ⟨(t.v.getD i (dflt .tree)).n.neg, (t.v.getD i (dflt .tree)).n.m, (t.v.getD i (dflt .tree)).n.e⟩ ((t.v.getD i (dflt .tree)).s) ((t.v.getD i (dflt .tree)).k) ((t.v.getD i (dflt .tree)).v))])) = (mV (acc ++ [(t.k.getD i (dflt .str), t.v.getD i (dflt .tree))])) := (by first | rfl | (first | rfl | (simp only [mK_add, mV_add, Tree.eta']; rfl) | (simp [mK, mV, Tree.eta']; done))); exact (hs.cst [(1, vs x), (3, .ptr 1000 0), (5, .ptr 1001 0), (6, .ptr 1002 0), (7, .ptr 90000001 0), (8, vb done), (10, vb (memB t x)), (11, vi (((i + 1) : Nat) : Int))] [(1000, .var (encTree t)), (1001, .var (encTree v)), (1002, .var [vi 0, vb false, vb false, nilv, vi 0, vs (ba []), nilv, nilv]), (14008, .sl 9 .str (mK (acc ++ [(t.k.getD i (dflt .str), t.v.getD i (dflt .tree))]))), (14017, .sl 29 .tree (mV (acc ++ [(t.k.getD i (dflt .str), t.v.getD i (dflt .tree))]))), (90000001, .var [vi 7, vb false, vb false, nilv, vi 0, vs (ba []), .own 14008, .own 14017])] (by first | rfl | (rw [e0_, e1_, e2_]; done) | (simp only [e0_, e1_, e2_]; done) | (simp only [e0_, e1_, e2_]; rfl))).rm [(1000, 1000), (1001, 1001), (1002, 1002), (90000001, 90000001), (90000002, 14008), (90000003, 14017)] (by kernel_rfl))
       ·skip
        refine wL hs hI [(5, ⟨[], gg [6, 7, 8, 9, 10, 1011, 13, 14, 15, 1016] [], []⟩), (7, ⟨[], gg [3, 4, 5, 6, 7, 8, 9, 1010] [], []⟩), (10, ⟨[], gg [3, 4, 1005, 7, 8, 9, 10, 11, 12, 13, 1014] [], []⟩)] [true, false, true] [1, 3, 5, 6, 7, 8, 10, 11] [1000, 1001, 1002, 14008, 14017, 90000001] (((tr 6 (rp 6 b1 (rp 3 b2 ((ty b2) ∧ True)))) ∧ (ty b3) ∧ True) ∧ ((((tr 3 (rp 3 (ng0 b4) ((ty (ng0 b4)) ∧ (0 ≤ (i : Int) ∧ (i : Int) < t.k.length) ∧ (rp 4 (ng0 b4) True)))) ∧ (ty b5) ∧ (tr 3 (rp 3 (ng0 b4) (rp 3 (ng0 b6) ((ty (ng0 b6)) ∧ (0 ≤ (i : Int) ∧ (i : Int) < t.k.length) ∧ (rp 4 (ng0 b6) True))))) ∧ (ty (ng0 b7)) ∧ (tr 4 (((((mK acc).length + 1) * 16 : Nat) ≤ 140737488355328 ∧ (mK acc).length + 1 ≤ 140737488355328) ∧ (tr 4 (((((mV acc).length + 1) * 120 : Nat) ≤ 140737488355328 ∧ (mV acc).length + 1 ≤ 140737488355328) ∧ (tr 4 True))))) ∧ True ∧ True) ∧ (tr 5 ((0 ≤ (i : Int) ∧ (i : Int) < t.k.length) ∧ True ∧ True ∧ (((((mK acc) ++ ([x])).length + 1) * 16 : Nat) ≤ 140737488355328 ∧ ((mK acc) ++ ([x])).length + 1 ≤ 140737488355328) ∧ (tr 5 ((0 ≤ (i : Int) ∧ (i : Int) < t.v.length) ∧ True ∧ True ∧ (((((mV acc) ++ ([(Tree.mk v.kind v.b ⟨v.n.neg, v.n.m, v.n.e⟩ v.s v.k v.v)])).length + 1) * 120 : Nat) ≤ 140737488355328 ∧ ((mV acc) ++ ([(Tree.mk v.kind v.b ⟨v.n.neg, v.n.m, v.n.e⟩ v.s v.k v.v)])).length + 1 ≤ 140737488355328) ∧ (tr 4 True)))))) ∧ True ∧ (InR .i64 ((i : Int) + 1)) ∧ True ∧ True)) .norm [(1, vs x), (3, .ptr 1000 0), (5, .ptr 1001 0), (6, .ptr 1002 0), (7, .ptr 90000001 0), (8, vb true), (10, vb (memB t x)), (11, vi ((i : Int) + 1))] [(1000, .var (encTree t)), (1001, .var (encTree v)), (1002, .var [vi 0, vb false, vb false, nilv, vi 0, vs (ba []), nilv, nilv]), (14008, .sl 9 .str (((mK acc) ++ ([x])) ++ ([(t.k.getD i (dflt .str))]))), (14017, .sl 29 .tree (((mV acc) ++ ([(Tree.mk v.kind v.b ⟨v.n.neg, v.n.m, v.n.e⟩ v.s v.k v.v)])) ++ ([(Tree.mk ((t.v.getD i (dflt .tree)).kind) ((t.v.getD i (dflt .tree)).b) ⟨(t.v.getD i (dflt .tree)).n.neg, (t.v.getD i (dflt .tree)).n.m, (t.v.getD i (dflt .tree)).n.e⟩ ((t.v.getD i (dflt .tree)).s) ((t.v.getD i (dflt .tree)).k) ((t.v.getD i (dflt .tree)).v))]))), (90000001, .var [vi 7, vb false, vb false, nilv, vi 0, vs (ba []), .own 14008, .own 14017])] ⟨tv, ⟨tv, ⟨tv, tv⟩⟩⟩ (by kernel_rfl) ⟨⟨tr_mk (rp_mk (rp_mk (⟨b2, tv⟩) 3) 6) 6, b3, tv⟩, ⟨⟨tr_mk (rp_mk (⟨(ng0 b4), (by omega), rp_mk (tv) 4⟩) 3) 3, b5, tr_mk (rp_mk (rp_mk (⟨(ng0 b6), (by omega), rp_mk (tv) 4⟩) 3) 3) 3, (ng0 b7), tr_mk (⟨(by omega), tr_mk (⟨(by omega), tr_mk tv 4⟩) 4⟩) 4, tv, tv⟩, tr_mk (⟨(by omega), tv, tv, (by simp only [List.length_append, List.length_cons, List.length_nil]; omega), tr_mk (⟨(by omega), tv, tv, (by simp only [List.length_append, List.length_cons, List.length_nil]; omega), tr_mk tv 4⟩) 5⟩) 5⟩, tv, (inR64 (by omega) (by omega)), tv, tv⟩ (fun a w hs => ?_)
        refine then_norm ⟨(i + 1, acc ++ [(x, v)] ++ [(t.k.getD i (dflt .str), t.v.getD i (dflt .tree))], true), ⟨⟨by omega, by omega⟩, hJ.put (by omega) (by omega) (by omega) b4 b6 (by unfold gtB; rw [b7]; rfl)⟩, by omega, ?_⟩
        (have e0_ : ((i : Int) + 1) = ((((i + 1) : Nat) : Int)) := (by first | rfl | (first | rfl | (simp only [mK_add, mV_add, Tree.eta']; rfl) | (simp [mK, mV, Tree.eta']; done))); have e1_ : (((mK acc) ++ ([x])) ++ ([(t.k.getD i (dflt .str))])) = (mK (acc ++ [(x, v)] ++ [(t.k.getD i (dflt .str), t.v.getD i (dflt .tree))])) := (by first | rfl | (first | rfl | (simp only [mK_add, mV_add, Tree.eta']; rfl) | (simp [mK, mV, Tree.eta']; done))); have e2_ : (((mV acc) ++ ([(Tree.mk v.kind v.b ⟨v.n.neg, v.n.m, v.n.e⟩ v.s v.k v.v)])) ++ ([(Tree.mk ((t.v.getD i (dflt .tree)).kind) ((t.v.getD i (dflt .tree)).b) ⟨(t.v.getD i (dflt .tree)).n.neg, (t.v.getD i (dflt .tree)).n.m, (t.v.getD i (dflt .tree)).n.e⟩ ((t.v.getD i (dflt .tree)).s) ((t.v.getD i (dflt .tree)).k) ((t.v.getD i (dflt .tree)).v))])) = (mV (acc ++ [(x, v)] ++ [(t.k.getD i (dflt .str), t.v.getD i (dflt .tree))])) := (by first | rfl | (first | rfl | (simp only [mK_add, mV_add, Tree.eta']; rfl) | (simp [mK, mV, Tree.eta']; done))); exact (hs.cst [(1, vs x), (3, .ptr 1000 0), (5, .ptr 1001 0), (6, .ptr 1002 0), (7, .ptr 90000001 0), (8, vb true), (10, vb (memB t x)), (11, vi (((i + 1) : Nat) : Int))] [(1000, .var (encTree t)), (1001, .var (encTree v)), (1002, .var [vi 0, vb false, vb false, nilv, vi 0, vs (ba []), nilv, nilv]), (14008, .sl 9 .str (mK (acc ++ [(x, v)] ++ [(t.k.getD i (dflt .str), t.v.getD i (dflt .tree))]))), (14017, .sl 29 .tree (mV (acc ++ [(x, v)] ++ [(t.k.getD i (dflt .str), t.v.getD i (dflt .tree))]))), (90000001, .var [vi 7, vb false, vb false, nilv, vi 0, vs (ba []), .own 14008, .own 14017])] (by first | rfl | (rw [e0_, e1_, e2_]; done) | (simp only [e0_, e1_, e2_]; done) | (simp only [e0_, e1_, e2_]; rfl))).rm [(1000, 1000), (1001, 1001), (1002, 1002), (90000001, 90000001), (90000002, 14008), (90000003, 14017)] (by kernel_rfl))
   ·skip
    have n3 := beq_eq_false_iff_ne.1 b3
    refine wL hs hI [(5, ⟨[], gg [6, 7, 8, 9, 10, 1011, 13, 14, 15, 1016] [], []⟩)] [false] [1, 5, 6, 7, 8] [1001, 1002, 90000001, 90000002, 90000003] ((tr 6 (rp 6 b1 (rp 3 b2 ((ty b2) ∧ True)))) ∧ ((ty b3) ∧ True)) (.exit 0) [(1, vs x), (5, .ptr 1001 0), (6, .ptr 1002 0), (7, .ptr 90000001 0), (8, vb done)] [(1001, .var (encTree v)), (1002, .var [vi 0, vb false, vb false, nilv, vi 0, vs (ba []), nilv, nilv]), (90000001, .var [vi 7, vb false, vb false, nilv, vi 0, vs (ba []), .own 90000002, .own 90000003]), (90000002, .sl 9 .str (mK acc)), (90000003, .sl 29 .tree (mV acc))] ⟨tv, tv⟩ (by kernel_rfl) ⟨tr_mk (rp_mk (rp_mk (⟨b2, tv⟩) 3) 6) 6, b3, tv⟩ (fun a w hs => ?_)
    refine then_exit ?_
    refine inb_hit ?_
    refine then_norm ?_
    rcases bt (done) with b8 | b8
    ·skip
     refine wN hs hI [false] [6] [1002, 90000002, 90000003] (((True ∧ True ∧ True) ∧ (ty (ng1 b8)) ∧ True) ∧ ((True ∧ True ∧ True) ∧ True)) .ret [(6, .ptr 1002 0)] [(1002, .var [vi 7, vb false, vb false, nilv, vi 0, vs (ba []), .own 90000002, .own 90000003]), (90000002, .sl 9 .str (mK acc)), (90000003, .sl 29 .tree (mV acc))] (by kernel_rfl) ⟨⟨⟨tv, tv, tv⟩, (ng1 b8), tv⟩, ⟨tv, tv, tv⟩, tv⟩ (fun a w hs => ?_)
     exact FnQ_cast (out := .val (.agg [vi 7, vb false, vb false, .row (.int .u32) ([]), vi 0, vs (ba []), .row .str (mK acc), .row .tree (mV acc)])) (by rw [hJ.fin_done b8 (mems_end (by omega))]; rfl) (ret_ok [90000002, 90000003] hs ⟨by kernel_rfl, rfl⟩)
    ·skip
     refine wN hs hI [true] [6] [1002, 16004, 16009] (((True ∧ True ∧ True) ∧ (ty (ng0 b8)) ∧ (tr 4 (((((mK acc).length + 1) * 16 : Nat) ≤ 140737488355328 ∧ (mK acc).length + 1 ≤ 140737488355328) ∧ (tr 4 (((((mV acc).length + 1) * 120 : Nat) ≤ 140737488355328 ∧ (mV acc).length + 1 ≤ 140737488355328) ∧ (tr 4 True)))))) ∧ ((True ∧ True ∧ True) ∧ True)) .ret [(6, .ptr 1002 0)] [(1002, .var [vi 7, vb false, vb false, nilv, vi 0, vs (ba []), .own 16004, .own 16009]), (16004, .sl 9 .str ((mK acc) ++ ([x]))), (16009, .sl 29 .tree ((mV acc) ++ ([(Tree.mk v.kind v.b ⟨v.n.neg, v.n.m, v.n.e⟩ v.s v.k v.v)])))] (by kernel_rfl) ⟨⟨⟨tv, tv, tv⟩, (ng0 b8), tr_mk (⟨(by omega), tr_mk (⟨(by omega), tr_mk tv 4⟩) 4⟩) 4⟩, ⟨tv, tv, tv⟩, tv⟩ (fun a w hs => ?_)
     exact FnQ_cast (out := .val (.agg [vi 7, vb false, vb false, .row (.int .u32) ([]), vi 0, vs (ba []), .row .str ((mK acc) ++ ([x])), .row .tree ((mV acc) ++ ([(Tree.mk v.kind v.b ⟨v.n.neg, v.n.m, v.n.e⟩ v.s v.k v.v)]))])) (by rw [Tree.eta', hJ.fin_not b8 (mems_end (by omega)), objM_snoc]; rfl) (ret_ok [16004, 16009] hs ⟨by kernel_rfl, rfl⟩)
  ·skip
   have n2 := of_decide_eq_false b2
   refine wL hs hI [(5, ⟨[], gg [6, 7, 8, 9, 10, 1011] [13, 14, 15, 1016], []⟩)] [false] [1, 5, 6, 7, 8] [1001, 1002, 90000001, 90000002, 90000003] ((tr 6 (rp 6 b1 ((ty b2) ∧ (ty b2) ∧ (ty b2) ∧ (ty b2) ∧ True))) ∧ ((false = false) ∧ True)) (.exit 0) [(1, vs x), (5, .ptr 1001 0), (6, .ptr 1002 0), (7, .ptr 90000001 0), (8, vb done)] [(1001, .var (encTree v)), (1002, .var [vi 0, vb false, vb false, nilv, vi 0, vs (ba []), nilv, nilv]), (90000001, .var [vi 7, vb false, vb false, nilv, vi 0, vs (ba []), .own 90000002, .own 90000003]), (90000002, .sl 9 .str (mK acc)), (90000003, .sl 29 .tree (mV acc))] ⟨tv, tv⟩ (by kernel_rfl) ⟨tr_mk (rp_mk (⟨b2, b2, b2, b2, tv⟩) 6) 6, rfl, tv⟩ (fun a w hs => ?_)
   refine then_exit ?_
   refine inb_hit ?_
   refine then_norm ?_
   rcases bt (done) with b9 | b9
   ·skip
    refine wN hs hI [false] [6] [1002, 90000002, 90000003] (((True ∧ True ∧ True) ∧ (ty (ng1 b9)) ∧ True) ∧ ((True ∧ True ∧ True) ∧ True)) .ret [(6, .ptr 1002 0)] [(1002, .var [vi 7, vb false, vb false, nilv, vi 0, vs (ba []), .own 90000002, .own 90000003]), (90000002, .sl 9 .str (mK acc)), (90000003, .sl 29 .tree (mV acc))] (by kernel_rfl) ⟨⟨⟨tv, tv, tv⟩, (ng1 b9), tv⟩, ⟨tv, tv, tv⟩, tv⟩ (fun a w hs => ?_)
    exact FnQ_cast (out := .val (.agg [vi 7, vb false, vb false, .row (.int .u32) ([]), vi 0, vs (ba []), .row .str (mK acc), .row .tree (mV acc)])) (by rw [hJ.fin_done b9 (mems_end (by omega))]; rfl) (ret_ok [90000002, 90000003] hs ⟨by kernel_rfl, rfl⟩)
   ·skip
    refine wN hs hI [true] [6] [1002, 16004, 16009] (((True ∧ True ∧ True) ∧ (ty (ng0 b9)) ∧ (tr 4 (((((mK acc).length + 1) * 16 : Nat) ≤ 140737488355328 ∧ (mK acc).length + 1 ≤ 140737488355328) ∧ (tr 4 (((((mV acc).length + 1) * 120 : Nat) ≤ 140737488355328 ∧ (mV acc).length + 1 ≤ 140737488355328) ∧ (tr 4 True)))))) ∧ ((True ∧ True ∧ True) ∧ True)) .ret [(6, .ptr 1002 0)] [(1002, .var [vi 7, vb false, vb false, nilv, vi 0, vs (ba []), .own 16004, .own 16009]), (16004, .sl 9 .str ((mK acc) ++ ([x]))), (16009, .sl 29 .tree ((mV acc) ++ ([(Tree.mk v.kind v.b ⟨v.n.neg, v.n.m, v.n.e⟩ v.s v.k v.v)])))] (by kernel_rfl) ⟨⟨⟨tv, tv, tv⟩, (ng0 b9), tr_mk (⟨(by omega), tr_mk (⟨(by omega), tr_mk tv 4⟩) 4⟩) 4⟩, ⟨tv, tv, tv⟩, tv⟩ (fun a w hs => ?_)
    exact FnQ_cast (out := .val (.agg [vi 7, vb false, vb false, .row (.int .u32) ([]), vi 0, vs (ba []), .row .str ((mK acc) ++ ([x])), .row .tree ((mV acc) ++ ([(Tree.mk v.kind v.b ⟨v.n.neg, v.n.m, v.n.e⟩ v.s v.k v.v)]))])) (by rw [Tree.eta', hJ.fin_not b9 (mems_end (by omega)), objM_snoc]; rfl) (ret_ok [16004, 16009] hs ⟨by kernel_rfl, rfl⟩)
 ·skip
  have n1 := of_decide_eq_false b1
  refine wL hs hI [(5, ⟨[], gg [] [6, 7, 8, 9, 10, 1011, 13, 14, 15, 1016], []⟩)] [false] [1, 5, 6, 7, 8] [1001, 1002, 90000001, 90000002, 90000003] ((tr 6 ((ty b1) ∧ (ty b1) ∧ (ty b1) ∧ (ty b1) ∧ (ty b1) ∧ (ty b1) ∧ True ∧ (false = false) ∧ (false = false) ∧ (false = false) ∧ (false = false) ∧ True)) ∧ ((false = false) ∧ True)) (.exit 0) [(1, vs x), (5, .ptr 1001 0), (6, .ptr 1002 0), (7, .ptr 90000001 0), (8, vb done)] [(1001, .var (encTree v)), (1002, .var [vi 0, vb false, vb false, nilv, vi 0, vs (ba []), nilv, nilv]), (90000001, .var [vi 7, vb false, vb false, nilv, vi 0, vs (ba []), .own 90000002, .own 90000003]), (90000002, .sl 9 .str (mK acc)), (90000003, .sl 29 .tree (mV acc))] ⟨tv, tv⟩ (by kernel_rfl) ⟨tr_mk (⟨b1, b1, b1, b1, b1, b1, tv, rfl, rfl, rfl, rfl, tv⟩) 6, rfl, tv⟩ (fun a w hs => ?_)
  refine then_exit ?_
  refine inb_hit ?_
  refine then_norm ?_
  rcases bt (done) with b10 | b10
  ·skip
   refine wN hs hI [false] [6] [1002, 90000002, 90000003] (((True ∧ True ∧ True) ∧ (ty (ng1 b10)) ∧ True) ∧ ((True ∧ True ∧ True) ∧ True)) .ret [(6, .ptr 1002 0)] [(1002, .var [vi 7, vb false, vb false, nilv, vi 0, vs (ba []), .own 90000002, .own 90000003]), (90000002, .sl 9 .str (mK acc)), (90000003, .sl 29 .tree (mV acc))] (by kernel_rfl) ⟨⟨⟨tv, tv, tv⟩, (ng1 b10), tv⟩, ⟨tv, tv, tv⟩, tv⟩ (fun a w hs => ?_)
   exact FnQ_cast (out := .val (.agg [vi 7, vb false, vb false, .row (.int .u32) ([]), vi 0, vs (ba []), .row .str (mK acc), .row .tree (mV acc)])) (by rw [hJ.fin_done b10 (mems_end (by omega))]; rfl) (ret_ok [90000002, 90000003] hs ⟨by kernel_rfl, rfl⟩)
  ·skip
   refine wN hs hI [true] [6] [1002, 16004, 16009] (((True ∧ True ∧ True) ∧ (ty (ng0 b10)) ∧ (tr 4 (((((mK acc).length + 1) * 16 : Nat) ≤ 140737488355328 ∧ (mK acc).length + 1 ≤ 140737488355328) ∧ (tr 4 (((((mV acc).length + 1) * 120 : Nat) ≤ 140737488355328 ∧ (mV acc).length + 1 ≤ 140737488355328) ∧ (tr 4 True)))))) ∧ ((True ∧ True ∧ True) ∧ True)) .ret [(6, .ptr 1002 0)] [(1002, .var [vi 7, vb false, vb false, nilv, vi 0, vs (ba []), .own 16004, .own 16009]), (16004, .sl 9 .str ((mK acc) ++ ([x]))), (16009, .sl 29 .tree ((mV acc) ++ ([(Tree.mk v.kind v.b ⟨v.n.neg, v.n.m, v.n.e⟩ v.s v.k v.v)])))] (by kernel_rfl) ⟨⟨⟨tv, tv, tv⟩, (ng0 b10), tr_mk (⟨(by omega), tr_mk (⟨(by omega), tr_mk tv 4⟩) 4⟩) 4⟩, ⟨tv, tv, tv⟩, tv⟩ (fun a w hs => ?_)
   exact FnQ_cast (out := .val (.agg [vi 7, vb false, vb false, .row (.int .u32) ([]), vi 0, vs (ba []), .row .str ((mK acc) ++ ([x])), .row .tree ((mV acc) ++ ([(Tree.mk v.kind v.b ⟨v.n.neg, v.n.m, v.n.e⟩ v.s v.k v.v)]))])) (by rw [Tree.eta', hJ.fin_not b10 (mems_end (by omega)), objM_snoc]; rfl) (ret_ok [16004, 16009] hs ⟨by kernel_rfl, rfl⟩)
theorem ok1 {x : Int} (h : 0 ≤ x ∧ x < 4294967296) : Ok [x] := Ok.cons h.1 h.2 Ok.nil
theorem ok2 {x y : Int} (h : 0 ≤ x ∧ x < 4294967296) (h2 : 0 ≤ y ∧ y < 4294967296) : Ok [x, y] := Ok.cons h.1 h.2 (ok1 h2)
theorem ok3 {x y z : Int} (h : 0 ≤ x ∧ x < 4294967296) (h2 : 0 ≤ y ∧ y < 4294967296) (h3 : 0 ≤ z ∧ z < 4294967296) : Ok [x, y, z] := Ok.cons h.1 h.2 (ok2 h2 h3)
theorem tm {a : Int} (k : Int) (hk : 0 < k) : -k < a.tmod k ∧ a.tmod k < k := ⟨Int.lt_tmod_of_pos a hk, Int.tmod_lt_of_pos a hk⟩
theorem splitB_sizes (sep : ByteArray) : ∀ (k : Nat) (s : ByteArray), ∀ x ∈ Lib.splitB sep 0 k s, x.size ≤ s.size
 | 0, s, x, h => by simp [Lib.splitB] at h; subst h; exact Nat.le_refl _
 | k + 1, s, x, h => by
  unfold Lib.splitB at h
  split at h
  ·simp at h; subst h; exact Nat.le_refl _
  ·rcases List.mem_cons.1 h with rfl | h
   ·rw [ByteArray.size_extract]; omega
   ·have := splitB_sizes sep k _ x h
    rw [ByteArray.size_extract] at this; omega
theorem split_size {s : ByteArray} {c : UInt8} : ∀ x ∈ splitF s c, x.size ≤ s.size := splitB_sizes _ _ _
theorem split_len (s : ByteArray) (c : UInt8) : (splitF s c).length ≤ s.size + 1 := by
 have := Lib.splitB_length_le (ba [c]) 0 (Lib.countB s (ba [c])) s
 have := Lib.countB_le (ba [c]) (Nat.le_refl _) s.size s (Nat.le_refl _)
 unfold splitF; omega
theorem split_smalls {s : ByteArray} (c : UInt8) (h : s.size < 4294960000) : smalls (splitF s c) := ⟨fun x hx => by have := split_size x hx; unfold small; omega, by have := split_len s c; omega⟩
theorem sz_at {s : ByteArray} {c : UInt8} {i : Nat} (h : s.size < 4294960000) (hi : i < (splitF s c).length) (d : ByteArray) : ((splitF s c).getD i d).size < 4294960000 := by
 have := split_size _ (getD_mem hi d); omega
def badPiece (p : ByteArray) : Bool := (splitF p 46).any fun n => !nameF n
def cutsF (s : ByteArray) : List (List ByteArray) := (splitF s 44).map fun p => splitF p 46
def parseF (s : ByteArray) : List (List ByteArray) × Int :=
 if (s.toList == (ba []).toList) = true then ([], 0) else if (splitF s 44).any badPiece = true then ([], 2) else if checkF (cutsF s) = true then (cutsF s, 0) else ([], 4)
theorem any_at {α : Type} {q : α → Bool} {l : List α} {i : Nat} (h : i < l.length) (d : α) (hq : q (l.getD i d) = true) : l.any q = true := List.any_eq_true.2 ⟨_, getD_mem h d, hq⟩
theorem any_no {α : Type} {q : α → Bool} {l : List α} (h : ∀ j, j < l.length → ∀ d, q (l.getD j d) = false) : l.any q = false := by
 rw [List.any_eq_false]
 intro x hx
 obtain ⟨i, hi, rfl⟩ := List.getElem_of_mem hx
 have := h i hi l[i]
 rw [List.getD_eq_getElem?_getD, List.getElem?_eq_getElem hi] at this
 simpa using this
theorem take_map_succ {α β : Type} {f : α → β} {l : List α} {i : Nat} (h : i < l.length) (d : α) : (l.take i).map f ++ [f (l.getD i d)] = (l.take (i + 1)).map f := by
 rw [List.take_succ_eq_append_getElem h, List.map_append, List.getD_eq_getElem?_getD, List.getElem?_eq_getElem h]; rfl
theorem take_map_len {α β : Type} {f : α → β} {l : List α} {i : Nat} (h : i ≤ l.length) : ((l.take i).map f).length = i := by simp; omega
theorem con31 (s : ByteArray) (hs0 : s.size < 4294960000) : Con Tryz.prog I0 31 [vs s] (.val (.tup [.row .strs ((parseF s).1), vi ((parseF s).2)])) := by
 refine con_of Tryz.func31 rfl (Nat.le_of_ble_eq_true rfl) stab (fun w0 fz a hI hs => ?_)
 refine wp_seq ?_
 refine wN hs hI [] [0] [] (True ∧ (True ∧ True)) .norm [(0, vs s)] [] (by kernel_rfl) ⟨tv, tv, tv⟩ (fun a w hs => ?_)
 refine then_norm ?_
 refine wp_seq ?_
 rcases bt (s.toList == (ba []).toList) with b1 | b1
 ·skip
  have n1 := eq_of_beq b1
  refine wN hs hI [true] [2, 3] [] ((True ∧ True ∧ True) ∧ ((ty b1) ∧ (True ∧ True ∧ True) ∧ True)) .ret [(2, nilv), (3, vi 0)] [] (by kernel_rfl) ⟨⟨tv, tv, tv⟩, b1, ⟨tv, tv, tv⟩, tv⟩ (fun a w hs => ?_)
  refine then_ret ?_
  exact FnQ_cast (out := .val (.tup [.row .strs ([]), vi 0])) (by simp only [parseF]; rw [if_pos b1]) (ret_ok [] hs ⟨by kernel_rfl, rfl⟩)
 ·skip
  have n1 := beq_eq_false_iff_ne.1 b1
  refine wN hs hI [false] [0] [] ((True ∧ True ∧ True) ∧ ((ty b1) ∧ True)) .norm [(0, vs s)] [] (by kernel_rfl) ⟨⟨tv, tv, tv⟩, b1, tv⟩ (fun a w hs => ?_)
  refine then_norm ?_
  refine wp_seq ?_
  refine wN hs hI [] [0, 4] [] (True ∧ True) .norm [(0, vs s), (4, nilv)] [] (by kernel_rfl) ⟨tv, tv⟩ (fun a w hs => ?_)
  refine then_norm ?_
  refine wp_seq ?_
  refine wp_seq ?_
  refine wL hs hI [(4, ⟨[(1, ciA 82 [vs s, vs (ba [44])] [] [] (.own 9 .str (splitF s 44)))], [], []⟩)] [] [4, 11, 12, 13] [5001] (True ∧ ((okArgs [vs s, vs (ba [44])]) ∧ True ∧ True ∧ True)) .norm [(4, nilv), (11, .own 5001), (12, vi ((splitF s 44).length : Int)), (13, vi 0)] [(5001, .sl 9 .str (splitF s 44))] ⟨⟨⟨ent82, conSplit _ _ (by first | omega | (have := sz_at hs0 (c := 44) (i := i) (by omega) (dflt .str); omega))⟩, tv⟩, tv⟩ (by kernel_rfl) ⟨tv, rfl, tv, tv, tv⟩ (fun a w hs => ?_)
  refine then_norm ?_
  refine wp_block ?_
  refine loop_L (N := Tryz.f31.ntmps) (w0 := w0) (ow := noO fz) (α := Nat) (fun p => [(4, .own 90000001), (11, .own 5001), (12, vi ((splitF s 44).length : Int)), (13, vi (p : Int))]) (fun p => [(5001, .sl 9 .str (splitF s 44)), (90000001, .sl 26 .strs (((splitF s 44).take p).map (fun p => splitF p 46)))]) (fun p => p ≤ (splitF s 44).length ∧ ∀ j, j < p → ∀ d, badPiece ((splitF s 44).getD j d) = false) (fun p => (splitF s 44).length - p) 0 ?_ ?_ ?_
  ·exact ⟨Nat.zero_le _, fun j hj => absurd hj (Nat.not_lt_zero _)⟩
  ·(have hs := (hs.nil 10000001 4 26 .strs (by kernel_rfl) (by decide) (by kernel_rfl) (by kernel_rfl)).rmT [(4, .own 10000001), (11, .own 5001), (12, vi ((splitF s 44).length : Int)), (13, vi 0)] [(5001, .sl 9 .str (splitF s 44)), (10000001, .sl 26 .strs ([]))] [(5001, 5001), (10000001, 10000001)] (by kernel_rfl); exact (hs.cst [(4, .own 10000001), (11, .own 5001), (12, vi ((splitF s 44).length : Int)), (13, vi ((0 : Nat) : Int))] [(5001, .sl 9 .str (splitF s 44)), (10000001, .sl 26 .strs (((splitF s 44).take 0).map (fun p => splitF p 46)))] rfl).rm [(5001, 5001), (90000001, 10000001)] (by kernel_rfl))
  rintro i hJ a w hs
  obtain ⟨hi, hall⟩ := hJ
  have hspl := split_len s 44
  have htk := take_map_len (f := fun p => splitF p 46) hi
  rcases bt (decide ((i : Int) < ((splitF s 44).length : Int))) with b2 | b2
  ·skip
   have n2 := of_decide_eq_true b2
   rcases bt ((splitF ((splitF s 44).getD i (dflt .str)) 46).any (fun n => !nameF n)) with b3 | b3
   ·skip
    refine wL hs hI [(7, ⟨[(1, ciA 82 [vs ((splitF s 44).getD i (dflt .str)), vs (ba [46])] [] [] (.own 9 .str (splitF ((splitF s 44).getD i (dflt .str)) 46)))], [], []⟩), (8, ⟨[(1, ciA 83 [.row .str (splitF ((splitF s 44).getD i (dflt .str)) 46), .lit (.func (.func 84) #[] #[])] [8001] [] (.val (vb ((splitF ((splitF s 44).getD i (dflt .str)) 46).any (fun n => !nameF n)))))], [], []⟩)] [true, true] [2, 3] [] ((True ∧ True) ∧ (((ty b2) ∧ True) ∧ ((0 ≤ (i : Int) ∧ (i : Int) < (splitF s 44).length) ∧ (i < (splitF s 44).length) ∧ True ∧ True) ∧ (True ∧ (okArgs [vs ((splitF s 44).getD i (dflt .str)), vs (ba [46])]) ∧ True ∧ True) ∧ (True ∧ (okArgs [.row .str (splitF ((splitF s 44).getD i (dflt .str)) 46), .lit (.func (.func 84) #[] #[])]) ∧ True) ∧ (ty b3) ∧ (True ∧ True ∧ True) ∧ True)) .ret [(2, nilv), (3, vi 2)] [] ⟨⟨⟨ent82, conSplit _ _ (by first | omega | (have := sz_at hs0 (c := 44) (i := i) (by omega) (dflt .str); omega))⟩, tv⟩, ⟨⟨⟨ent83, con83_84 _ (split_smalls 46 (sz_at hs0 (by omega) _)).1 (split_smalls 46 (sz_at hs0 (by omega) _)).2⟩, tv⟩, tv⟩⟩ (by kernel_rfl) ⟨⟨tv, tv⟩, ⟨b2, tv⟩, ⟨(by omega), (by omega), tv, tv⟩, ⟨tv, rfl, tv, tv⟩, ⟨tv, rfl, tv⟩, b3, ⟨tv, tv, tv⟩, tv⟩ (fun a w hs => ?_)
    refine then_ret ?_
    refine inb_ret ?_
    refine then_ret ?_
    exact FnQ_cast (out := .val (.tup [.row .strs ([]), vi 2])) (by have h1 : (splitF s 44).any badPiece = true := any_at (by omega) (dflt .str) b3; simp only [parseF]; rw [if_neg (by rw [b1]; decide), if_pos h1]) (ret_ok [] hs ⟨by kernel_rfl, rfl⟩)
   ·skip
    refine wL hs hI [(7, ⟨[(1, ciA 82 [vs ((splitF s 44).getD i (dflt .str)), vs (ba [46])] [] [] (.own 9 .str (splitF ((splitF s 44).getD i (dflt .str)) 46)))], [], []⟩), (8, ⟨[(1, ciA 83 [.row .str (splitF ((splitF s 44).getD i (dflt .str)) 46), .lit (.func (.func 84) #[] #[])] [8001] [] (.val (vb ((splitF ((splitF s 44).getD i (dflt .str)) 46).any (fun n => !nameF n)))))], [], []⟩)] [true, false] [4, 11, 12, 13] [5001, 11003] ((True ∧ True) ∧ (((ty b2) ∧ True) ∧ (((0 ≤ (i : Int) ∧ (i : Int) < (splitF s 44).length) ∧ (i < (splitF s 44).length) ∧ True ∧ True) ∧ (True ∧ (okArgs [vs ((splitF s 44).getD i (dflt .str)), vs (ba [46])]) ∧ True ∧ True) ∧ ((True ∧ (okArgs [.row .str (splitF ((splitF s 44).getD i (dflt .str)) 46), .lit (.func (.func 84) #[] #[])]) ∧ True) ∧ (ty b3) ∧ True) ∧ (tr 3 (((((((splitF s 44).take i).map (fun p => splitF p 46)).length + 1) * 24 : Nat) ≤ 140737488355328 ∧ (((splitF s 44).take i).map (fun p => splitF p 46)).length + 1 ≤ 140737488355328) ∧ True ∧ True))) ∧ (InR .i64 ((i : Int) + 1)) ∧ True ∧ True)) .norm [(4, .own 11003), (11, .own 5001), (12, vi ((splitF s 44).length : Int)), (13, vi ((i : Int) + 1))] [(5001, .sl 9 .str (splitF s 44)), (11003, .sl 26 .strs ((((splitF s 44).take i).map (fun p => splitF p 46)) ++ ([splitF ((splitF s 44).getD i (dflt .str)) 46])))] ⟨⟨⟨ent82, conSplit _ _ (by first | omega | (have := sz_at hs0 (c := 44) (i := i) (by omega) (dflt .str); omega))⟩, tv⟩, ⟨⟨⟨ent83, con83_84 _ (split_smalls 46 (sz_at hs0 (by omega) _)).1 (split_smalls 46 (sz_at hs0 (by omega) _)).2⟩, tv⟩, tv⟩⟩ (by kernel_rfl) ⟨⟨tv, tv⟩, ⟨b2, tv⟩, ⟨⟨(by omega), (by omega), tv, tv⟩, ⟨tv, rfl, tv, tv⟩, ⟨⟨tv, rfl, tv⟩, b3, tv⟩, tr_mk (⟨(by omega), tv, tv⟩) 3⟩, (inR64 (by omega) (by omega)), tv, tv⟩ (fun a w hs => ?_)
    refine then_norm ⟨i + 1, ⟨by omega, fun j hj d => by rcases Nat.lt_succ_iff_lt_or_eq.1 hj with h | h; exact hall j h d; subst h; rw [getD_any (by omega) d (dflt .str)]; exact b3⟩, by omega, ?_⟩
    (have e0_ : ((i : Int) + 1) = ((((i + 1) : Nat) : Int)) := (by first | rfl | (omega)); have e1_ : ((((splitF s 44).take i).map (fun p => splitF p 46)) ++ ([splitF ((splitF s 44).getD i (dflt .str)) 46])) = (((splitF s 44).take (i + 1)).map (fun p => splitF p 46)) := (by first | rfl | (exact take_map_succ (f := fun p => splitF p 46) (by omega) _)); exact (hs.cst [(4, .own 11003), (11, .own 5001), (12, vi ((splitF s 44).length : Int)), (13, vi (((i + 1) : Nat) : Int))] [(5001, .sl 9 .str (splitF s 44)), (11003, .sl 26 .strs (((splitF s 44).take (i + 1)).map (fun p => splitF p 46)))] (by first | rfl | (rw [e0_, e1_]; done) | (simp only [e0_, e1_]; done) | (simp only [e0_, e1_]; rfl))).rm [(5001, 5001), (90000001, 11003)] (by kernel_rfl))
  ·skip
   have n2 := of_decide_eq_false b2
   refine wN hs hI [false] [4] [90000001] ((True ∧ True) ∧ ((ty b2) ∧ True)) (.exit 0) [(4, .own 90000001)] [(90000001, .sl 26 .strs (((splitF s 44).take i).map (fun p => splitF p 46)))] (by kernel_rfl) ⟨⟨tv, tv⟩, b2, tv⟩ (fun a w hs => ?_)
   refine then_exit ?_
   refine inb_hit ?_
   refine then_norm ?_
   rcases bt (checkF (((splitF s 44).take i).map (fun p => splitF p 46))) with b4 | b4
   ·skip
    refine wL hs hI [(12, ⟨[(1, ciA 39 [.row .strs (((splitF s 44).take i).map (fun p => splitF p 46))] [90000001] [] (.val (vb (checkF (((splitF s 44).take i).map (fun p => splitF p 46))))))], [], []⟩)] [false] [2, 3] [90000001] (((True ∧ (okArgs [.row .strs (((splitF s 44).take i).map (fun p => splitF p 46))]) ∧ True ∧ True) ∧ (ty (ng1 b4)) ∧ True) ∧ ((tr 3 True) ∧ True)) .ret [(2, .own 90000001), (3, vi 0)] [(90000001, .sl 26 .strs (((splitF s 44).take i).map (fun p => splitF p 46)))] ⟨⟨⟨ent39, con39 _ (by intro x hx; obtain ⟨p, hp, rfl⟩ := List.mem_map.1 hx; have := split_size (s := s) (c := 44) p (List.mem_of_mem_take hp); exact split_smalls 46 (by omega)) (by rw [take_map_len (by omega)]; have := split_len s 44; omega)⟩, tv⟩, tv⟩ (by kernel_rfl) ⟨⟨⟨tv, rfl, tv, tv⟩, (ng1 b4), tv⟩, tr_mk tv 3, tv⟩ (fun a w hs => ?_)
    exact FnQ_cast (out := .val (.tup [.row .strs (((splitF s 44).take i).map (fun p => splitF p 46)), vi 0])) (by have h1 : (splitF s 44).any badPiece = false := any_no (fun j hj d => hall j (by omega) d); have h2 : (splitF s 44).take i = splitF s 44 := List.take_of_length_le (by omega); rw [h2] at b4; first | (simp only [h2, parseF]; rw [if_neg (by rw [b1]; decide), if_neg (by rw [h1]; decide), if_pos (by first | exact b4 | (rw [show checkF (cutsF s) = false from b4]; decide))]; try rfl) | skip) (ret_ok [90000001] hs ⟨by kernel_rfl, rfl⟩)
   ·skip
    refine wL hs hI [(12, ⟨[(1, ciA 39 [.row .strs (((splitF s 44).take i).map (fun p => splitF p 46))] [90000001] [] (.val (vb (checkF (((splitF s 44).take i).map (fun p => splitF p 46))))))], [], []⟩)] [true] [2, 3] [] ((True ∧ (okArgs [.row .strs (((splitF s 44).take i).map (fun p => splitF p 46))]) ∧ True ∧ True) ∧ ((ty (ng0 b4)) ∧ (True ∧ True ∧ True) ∧ True)) .ret [(2, nilv), (3, vi 4)] [] ⟨⟨⟨ent39, con39 _ (by intro x hx; obtain ⟨p, hp, rfl⟩ := List.mem_map.1 hx; have := split_size (s := s) (c := 44) p (List.mem_of_mem_take hp); exact split_smalls 46 (by omega)) (by rw [take_map_len (by omega)]; have := split_len s 44; omega)⟩, tv⟩, tv⟩ (by kernel_rfl) ⟨⟨tv, rfl, tv, tv⟩, (ng0 b4), ⟨tv, tv, tv⟩, tv⟩ (fun a w hs => ?_)
    exact FnQ_cast (out := .val (.tup [.row .strs ([]), vi 4])) (by have h1 : (splitF s 44).any badPiece = false := any_no (fun j hj d => hall j (by omega) d); have h2 : (splitF s 44).take i = splitF s 44 := List.take_of_length_le (by omega); rw [h2] at b4; first | (simp only [h2, parseF]; rw [if_neg (by rw [b1]; decide), if_neg (by rw [h1]; decide), if_neg (by first | exact b4 | (rw [show checkF (cutsF s) = false from b4]; decide))]; try rfl) | skip) (ret_ok [] hs ⟨by kernel_rfl, rfl⟩)
end Go.Proofs.YtondpnipoogoiaaGreatDoor.F
